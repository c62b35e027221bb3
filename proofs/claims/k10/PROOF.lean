import PyProof.Rows.All
import Wide.All
import OpenK.AllK
import Wide.FinOn
import HandS.ForMost
import HandS.ForExc
import KE.DataEq
import HandS.TupAny
import HandS.TupMul
import HandS.Wide
import HandS.Deep
import HandS.Style
import HandS.IsInst
import HandS.WideBits
import HandS.StrMore
import HandS.Flow
import HandS.CallSlots
import HandS.CallLocal
import HandS.Text
import HandS.WordsExc
import HandS.ExcOwn
import HandS.TryOnly
import HandS.Comp
import HandS.Iter
import HandS.ExcIs
import HandS.Strs
import HandS.Set
import HandS.SortInts
import HandS.SetFor
import HandS.SetKeys
import HandS.Codes
import HandS.DictComp
import HandS.DictTup
import HandS.ListItems
import KE.KDictPairs
import PyProof.NeKinds
import PyProof.EqAt
import HandS.SortOrd
import KE.KDictWalk
import HandS.Defaults
import HandS.Exc
import HandS.SortKw
import KE.SortKeyHeap
import PyProof.DictStraight
import HandS.Nested
import HandS.ExcInit
import HandS.ExcField
import KE.KExcSuper
import KE.KExcIs
import HandS.Zip
import KE.GoesMore
import KE.GoesEnum
import KE.SortData
import KE.DataMinMax
import PySem.Challenge.RW_cellchains_k10_runs
set_option Elab.async false
set_option linter.all false
set_option maxRecDepth 100000
namespace PL
open PySem PySem.Spec PyProof.Rows L2

/-! data: values, and tuples of data -/
inductive D where
  | v (x : V)
  | tup (ds : List D)

abbrev D.non : D := .v .non
abbrev D.bl (b : Bool) : D := .v (.bl b)
abbrev D.int (i : Int) : D := .v (.int i)
abbrev D.str (x : Str) : D := .v (.str x)
abbrev D.ob (a : Addr) : D := .v (.ref a)

section
variable (K : PySem.W.Frag) (H : Hp)
mutual
def RepD : D → V → Prop
  | .v x, u => u = x
  | .tup ds, u => ∃ a us, u = .ref a ∧ SqT K H a us ∧ RepL ds us
def RepL : List D → List V → Prop
  | [], us => us = []
  | d :: ds, us => ∃ u r, us = u :: r ∧ RepD d u ∧ RepL ds r
end
end

/-- tuples and locked things stay -/
structure Ext (K : PySem.W.Frag) (H H' : Hp) : Prop where
  sq : ∀ a xs, SqT K H a xs → SqT K H' a xs
  fz : ∀ a o u, H a = some (.frz o u) → H' a = some (.frz o u)
instance {K : PySem.W.Frag} {H H' : Hp} : CoeFun (Ext K H H') (fun _ => ∀ a xs, SqT K H a xs → SqT K H' a xs) := ⟨fun e => e.sq⟩
theorem Ext.refl {K : PySem.W.Frag} {H : Hp} : Ext K H H := ⟨fun _ _ h => h, fun _ _ _ h => h⟩
theorem Ext.trans {K : PySem.W.Frag} {H H1 H2 : Hp} (a : Ext K H H1) (b : Ext K H1 H2) : Ext K H H2 := ⟨fun c xs h => b.sq c xs (a.sq c xs h), fun c o u h => b.fz c o u (a.fz c o u h)⟩
theorem Ext.new {K : PySem.W.Frag} {H : Hp} {p : Addr} {o : HO} (h : H p = none) : Ext K H (upd H p o) := ⟨fun a xs q => by
  rcases q with (q | ⟨ob, q⟩) | q
  · exact .inl (.inl (by rw [upd_ne (ne_of_none q h)]; exact q))
  · exact .inl (.inr ⟨ob, by rw [upd_ne (ne_of_none q h)]; exact q⟩)
  · exact .inr q, fun a o' u q => by rw [upd_ne (ne_of_none q h)]; exact q⟩
theorem Ext.mut {K : PySem.W.Frag} {H : Hp} {p : Addr} {o o' : HO} (h : H p = some o) (m : Mut (some o)) : Ext K H (upd H p o') := ⟨fun a xs q => by
  rcases q with (q | ⟨ob, q⟩) | q
  · exact .inl (.inl (by rw [upd_ne (ne_of q h (by rintro rfl; exact m))]; exact q))
  · exact .inl (.inr ⟨ob, by rw [upd_ne (ne_of q h (by rintro rfl; exact m))]; exact q⟩)
  · exact .inr q, fun a o2 u q => by rw [upd_ne (ne_of q h (by rintro rfl; exact m))]; exact q⟩

mutual
theorem RepD.mono {K : PySem.W.Frag} {H H' : Hp} (e : Ext K H H') : ∀ (d : D) {u : V}, RepD K H d u → RepD K H' d u
  | .v _, _, h => by unfold RepD at h ⊢; exact h
  | .tup ds, _, h => by
    unfold RepD at h ⊢
    obtain ⟨a, us, e1, q, r⟩ := h
    exact ⟨a, us, e1, e _ _ q, RepL.mono e ds r⟩
theorem RepL.mono {K : PySem.W.Frag} {H H' : Hp} (e : Ext K H H') : ∀ (ds : List D) {us : List V}, RepL K H ds us → RepL K H' ds us
  | [], _, h => by unfold RepL at h ⊢; exact h
  | d :: ds, _, h => by
    unfold RepL at h ⊢
    obtain ⟨u, r, e1, q, t⟩ := h
    exact ⟨u, r, e1, RepD.mono e d q, RepL.mono e ds t⟩
end
theorem RepL.length {K : PySem.W.Frag} {H : Hp} : ∀ {ds : List D} {us : List V}, RepL K H ds us → us.length = ds.length
  | [], _, h => by unfold RepL at h; rw [h]; rfl
  | d :: ds, _, h => by
    unfold RepL at h
    obtain ⟨u, r, rfl, _, t⟩ := h
    simp [RepL.length t]
theorem RepL.get {K : PySem.W.Frag} {H : Hp} : ∀ {ds : List D} {us : List V} {i : Nat} {d : D}, RepL K H ds us → ds[i]? = some d → ∃ u, us[i]? = some u ∧ RepD K H d u
  | [], _, _, _, _, e => by simp at e
  | d :: ds, _, 0, _, h, e => by
    unfold RepL at h
    obtain ⟨u, r, rfl, q, _⟩ := h
    simp at e; subst e
    exact ⟨u, by simp, q⟩
  | d :: ds, _, i + 1, _, h, e => by
    unfold RepL at h
    obtain ⟨u, r, rfl, _, t⟩ := h
    obtain ⟨u', h1, h2⟩ := RepL.get (i := i) t (by simpa using e)
    exact ⟨u', by simpa using h1, h2⟩
theorem RepL.get' {K : PySem.W.Frag} {H : Hp} : ∀ {ds : List D} {us : List V} {i : Nat} {u : V}, RepL K H ds us → us[i]? = some u → ∃ d, ds[i]? = some d ∧ RepD K H d u
  | [], _, _, _, h, e => by unfold RepL at h; subst h; simp at e
  | d :: ds, _, 0, _, h, e => by
    unfold RepL at h
    obtain ⟨u, r, rfl, q, _⟩ := h
    simp at e; subst e
    exact ⟨d, by simp, q⟩
  | d :: ds, _, i + 1, _, h, e => by
    unfold RepL at h
    obtain ⟨u, r, rfl, _, t⟩ := h
    obtain ⟨u', h1, h2⟩ := RepL.get' (i := i) t (by simpa using e)
    exact ⟨u', by simpa using h1, h2⟩
theorem RepL.append {K : PySem.W.Frag} {H : Hp} : ∀ {ds es : List D} {us ws : List V}, RepL K H ds us → RepL K H es ws → RepL K H (ds ++ es) (us ++ ws)
  | [], _, _, _, h, g => by unfold RepL at h; subst h; exact g
  | d :: ds, _, _, _, h, g => by
    unfold RepL at h
    obtain ⟨u, r, rfl, q, t⟩ := h
    show RepL K H (d :: (ds ++ _)) _
    unfold RepL
    exact ⟨u, _, rfl, q, RepL.append t g⟩
theorem RepL.set {K : PySem.W.Frag} {H : Hp} {d' : D} {u' : V} (hd : RepD K H d' u') : ∀ {ds : List D} {us : List V} (i : Nat), RepL K H ds us → RepL K H (ds.set i d') (us.set i u')
  | [], _, _, h => by unfold RepL at h; subst h; simp [RepL]
  | d :: ds, _, 0, h => by
    unfold RepL at h
    obtain ⟨u, r, rfl, q, t⟩ := h
    simp only [List.set_cons_zero]; unfold RepL
    exact ⟨u', r, rfl, hd, t⟩
  | d :: ds, _, i + 1, h => by
    unfold RepL at h
    obtain ⟨u, r, rfl, q, t⟩ := h
    simp only [List.set_cons_succ]; unfold RepL
    exact ⟨u, _, rfl, q, RepL.set hd i t⟩
theorem RepL.drop {K : PySem.W.Frag} {H : Hp} : ∀ {ds : List D} {us : List V} (i : Nat), RepL K H ds us → RepL K H (ds.drop i) (us.drop i)
  | _, _, 0, h => by simpa using h
  | [], _, _ + 1, h => by unfold RepL at h; subst h; simp [RepL]
  | d :: ds, _, i + 1, h => by
    unfold RepL at h
    obtain ⟨u, r, rfl, q, t⟩ := h
    simpa using RepL.drop i t
theorem RepL.take {K : PySem.W.Frag} {H : Hp} : ∀ {ds : List D} {us : List V} (i : Nat), RepL K H ds us → RepL K H (ds.take i) (us.take i)
  | _, _, 0, h => by simp [RepL]
  | [], _, _ + 1, h => by unfold RepL at h; subst h; simp [RepL]
  | d :: ds, _, i + 1, h => by
    unfold RepL at h
    obtain ⟨u, r, rfl, q, t⟩ := h
    simp only [List.take_succ_cons]; unfold RepL
    exact ⟨u, _, rfl, q, RepL.take i t⟩
theorem RepL.cons {K : PySem.W.Frag} {H : Hp} {d : D} {u : V} {ds : List D} {us : List V} (h : RepD K H d u) (t : RepL K H ds us) : RepL K H (d :: ds) (u :: us) := by
  unfold RepL; exact ⟨u, us, rfl, h, t⟩
theorem RepL.nil {K : PySem.W.Frag} {H : Hp} : RepL K H [] [] := by unfold RepL; rfl
theorem RepL.ints {K : PySem.W.Frag} {H : Hp} : ∀ {ns : List Int} {us : List V}, RepL K H (ns.map D.int) us → us = ns.map V.int
  | [], _, h => by unfold RepL at h; simpa using h
  | n :: ns, _, h => by
    simp only [List.map_cons] at h; unfold RepL at h
    obtain ⟨u, r, rfl, q, t⟩ := h
    unfold RepD at q
    rw [RepL.ints t, q]; rfl
theorem RepL.of_ints {K : PySem.W.Frag} {H : Hp} : ∀ {ns : List Int}, RepL K H (ns.map D.int) (ns.map V.int)
  | [] => .nil
  | n :: ns => .cons (by unfold RepD; rfl) RepL.of_ints

/-! memory -/
inductive Ob where
  | lst (ds : List D)
  | rol (ds : List D)
  | dk (kvs : List (Key × D))
  | rdk (kvs : List (Key × D))
  | ctp (ds : List D)
  | ins (C : Addr) (fs : List (Str × D))
  | xd (fs : List (Str × D))
abbrev Mem := Addr → Option Ob
def mupd (M : Mem) (a : Addr) (o : Ob) : Mem := fun b => if b = a then some o else M b
theorem mupd_same {M : Mem} {a : Addr} {o : Ob} : mupd M a o a = some o := if_pos rfl
theorem mupd_ne {M : Mem} {a b : Addr} {o : Ob} (h : b ≠ a) : mupd M a o b = M b := if_neg h
theorem mupd_mupd {M : Mem} {a : Addr} {o u : Ob} : mupd (mupd M a o) a u = mupd M a u := by
  funext b; unfold mupd; split <;> rfl

section
variable (K : PySem.W.Frag) (H : Hp)
def RepKV {κ : Type} : List (κ × D) → List (κ × V) → Prop
  | [], us => us = []
  | (k, d) :: r, us => ∃ u t, us = (k, u) :: t ∧ RepD K H d u ∧ RepKV r t
def RepO (a : Addr) : Ob → Prop
  | .lst ds => ∃ us, H a = some (.lst us) ∧ RepL K H ds us
  | .rol ds => ∃ o us, H a = some (.frz o (.lst us)) ∧ RepL K H ds us
  | .dk kvs => ∃ us, H a = some (.dK us) ∧ RepKV K H kvs us
  | .rdk kvs => ∃ o us, H a = some (.frz o (.dK us)) ∧ RepKV K H kvs us
  | .ctp ds => ∃ o us, H a = some (.frz o (.tup us)) ∧ o.dict = none ∧ RepL K H ds us
  | .ins C fs => ∃ dx us, H a = some (.ins C dx us) ∧ RepKV K H fs us
  | .xd fs => ∃ us, H a = some (.xd us) ∧ RepKV K H fs us
def Sim (M : Mem) : Prop := ∀ a o, M a = some o → RepO K H a o
end
section
variable {K : PySem.W.Frag} {H H' : Hp} {M : Mem} {a : Addr}
theorem RepKV.mono {κ : Type} (e : Ext K H H') : ∀ {kvs : List (κ × D)} {us : List (κ × V)}, RepKV K H kvs us → RepKV K H' kvs us
  | [], _, h => h
  | (k, d) :: r, _, h => by
    obtain ⟨u, t, e1, q, z⟩ := h
    exact ⟨u, t, e1, RepD.mono e d q, RepKV.mono e z⟩
theorem RepO.mono (e : Ext K H H') (h : H' a = H a) : ∀ {o : Ob}, RepO K H a o → RepO K H' a o
  | .lst _, ⟨us, q, r⟩ => ⟨us, by rw [h]; exact q, RepL.mono e _ r⟩
  | .rol _, ⟨o, us, q, r⟩ => ⟨o, us, by rw [h]; exact q, RepL.mono e _ r⟩
  | .dk _, ⟨us, q, r⟩ => ⟨us, by rw [h]; exact q, RepKV.mono e r⟩
  | .rdk _, ⟨o, us, q, r⟩ => ⟨o, us, by rw [h]; exact q, RepKV.mono e r⟩
  | .ctp _, ⟨o, us, q, n, r⟩ => ⟨o, us, by rw [h]; exact q, n, RepL.mono e _ r⟩
  | .ins _ _, ⟨dx, us, q, r⟩ => ⟨dx, us, by rw [h]; exact q, RepKV.mono e r⟩
  | .xd _, ⟨us, q, r⟩ => ⟨us, by rw [h]; exact q, RepKV.mono e r⟩
theorem RepO.there : ∀ {o : Ob}, RepO K H a o → ∃ x, H a = some x
  | .lst _, ⟨us, q, r⟩ => ⟨_, q⟩
  | .rol _, ⟨o, us, q, r⟩ => ⟨_, q⟩
  | .dk _, ⟨us, q, r⟩ => ⟨_, q⟩
  | .rdk _, ⟨o, us, q, r⟩ => ⟨_, q⟩
  | .ctp _, ⟨o, us, q, n, r⟩ => ⟨_, q⟩
  | .ins _ _, ⟨dx, us, q, r⟩ => ⟨_, q⟩
  | .xd _, ⟨us, q, r⟩ => ⟨_, q⟩
theorem Sim.mono (s : Sim K H M) (e : Ext K H H') (h : ∀ a o, M a = some o → H' a = H a) : Sim K H' M := fun a o q => (s a o q).mono e (h a o q)
theorem Sim.free (s : Sim K H M) {p : Addr} (h : H p = none) : M p = none := by
  cases q : M p with
  | none => rfl
  | some o =>
    obtain ⟨x, e⟩ := (s p o q).there
    rw [h] at e; cases e
/-- a new object, known -/
theorem Sim.new (s : Sim K H M) {p : Addr} {o : HO} {ob : Ob} (h : H p = none) (r : RepO K (upd H p o) p ob) : Sim K (upd H p o) (mupd M p ob) := fun b o' q => by
  by_cases hb : b = p
  · subst hb
    rw [mupd_same] at q; cases q
    exact r
  · rw [mupd_ne hb] at q
    exact (s b o' q).mono (Ext.new h) (upd_ne hb)
/-- a new object, not known -/
theorem Sim.laid (s : Sim K H M) {p : Addr} {o : HO} (h : H p = none) : Sim K (upd H p o) M := fun b o' q => by
  obtain ⟨x, e⟩ := (s b o' q).there
  exact (s b o' q).mono (Ext.new h) (upd_ne (ne_of_none e h))
/-- an object changed -/
theorem Sim.put (s : Sim K H M) {p : Addr} {o o' : HO} {ob : Ob} (h : H p = some o) (m : Mut (some o)) (r : RepO K (upd H p o') p ob) : Sim K (upd H p o') (mupd M p ob) := fun b q' q => by
  by_cases hb : b = p
  · subst hb
    rw [mupd_same] at q; cases q
    exact r
  · rw [mupd_ne hb] at q
    exact (s b q' q).mono (Ext.mut h m) (upd_ne hb)
end

/-! environments -/
abbrev DEnv := List (Option D)
def RepE (K : PySem.W.Frag) (H : Hp) (env : DEnv) (σ : L2.St) : Prop := env.length = σ.length ∧ ∀ (i : Nat) (d : D), env[i]? = some (some d) → ∃ u, σ[i]? = some (some u) ∧ RepD K H d u
theorem RepE.mono {K : PySem.W.Frag} {H H' : Hp} {env : DEnv} {σ : L2.St} (r : RepE K H env σ) (e : Ext K H H') : RepE K H' env σ :=
  ⟨r.1, fun i d h => let ⟨u, h1, h2⟩ := r.2 i d h; ⟨u, h1, RepD.mono e d h2⟩⟩
theorem RepE.set {K : PySem.W.Frag} {H : Hp} {env : DEnv} {σ : L2.St} (r : RepE K H env σ) {d : D} {u : V} (h : RepD K H d u) (i : Nat) : RepE K H (env.set i (some d)) (σ.set i (some u)) := by
  refine ⟨by simp [r.1], fun j e q => ?_⟩
  by_cases hj : i = j
  · subst hj
    by_cases hi : i < env.length
    · rw [List.getElem?_set_self hi] at q
      cases q
      exact ⟨u, by rw [List.getElem?_set_self (by rw [← r.1]; exact hi)], h⟩
    · rw [List.getElem?_eq_none (by simpa using hi)] at q; cases q
  · rw [List.getElem?_set_ne hj] at q ⊢
    exact r.2 j e q

/-! readings -/
abbrev DK := D → Mem → Prop
abbrev DX := Value → List (Str × D) → Mem → Prop
abbrev DE := DEnv → Mem → DK → DX → Prop
abbrev DT := DEnv → Mem → (Bool → Mem → Prop) → DX → Prop
abbrev DA := DEnv → Mem → (List D → Mem → Prop) → DX → Prop
structure DEnds where
  nx : DEnv → Mem → Prop
  rt : DK
  bk : DEnv → Mem → Prop := fun _ _ => False
  ct : DEnv → Mem → Prop := fun _ _ => False
  ex : Value → List (Str × D) → DEnv → Mem → Prop := fun _ _ _ _ => False
abbrev DS := DEnds → DEnv → Mem → Prop

def RepX (K : PySem.W.Frag) (H : Hp) (d : Option Addr) (fs : List (Str × D)) : Prop :=
  match d with
  | none => fs = []
  | some a => fs ≠ [] ∧ ∃ us, H a = some (.xd us) ∧ RepKV K H fs us

section
variable (K : PySem.W.Frag) (W : WX)
/-- the ends as the heap sees them, from H on -/
def upK (H : Hp) (Q : VK) : DK := fun d M' => ∀ u H', Ext K H H' → Sim K H' M' → RepD K H' d u → Q u H'
def upX (H : Hp) (σ : L2.St) : DX := fun c fs M' => ∀ d H', Ext K H H' → Sim K H' M' → RepX K H' d fs → W c d σ H'
def liftE (t : DE) : TE := fun σ H Q => ∃ env M, RepE K H env σ ∧ Sim K H M ∧ t env M (upK K H Q) (upX K W H σ)
def liftT (t : DT) : TT := fun σ H Q => ∃ env M, RepE K H env σ ∧ Sim K H M ∧ t env M (fun b M' => ∀ H', Ext K H H' → Sim K H' M' → Q b H') (upX K W H σ)
def liftA (t : DA) : TA := fun σ H Q => ∃ env M, RepE K H env σ ∧ Sim K H M ∧ t env M (fun ds M' => ∀ us H', Ext K H H' → Sim K H' M' → RepL K H' ds us → Q us H') (upX K W H σ)
def upN (H : Hp) (Q : L2.St → Hp → Prop) : DEnv → Mem → Prop := fun env' M' => ∀ σ' H', Ext K H H' → Sim K H' M' → RepE K H' env' σ' → Q σ' H'
def upEnds (H : Hp) (D : Ends) : DEnds where
  nx := upN K H D.nx
  rt := upK K H D.rt
  bk := upN K H D.bk
  ct := upN K H D.ct
  ex := fun c fs env' M' => ∀ d σ' H', Ext K H H' → Sim K H' M' → RepE K H' env' σ' → RepX K H' d fs → W c d σ' H'
def liftS (t : DS) : TS := fun D σ H => ∃ env M, RepE K H env σ ∧ Sim K H M ∧ t (upEnds K W H D) env M
end

def MonoE (t : DE) : Prop := ∀ env M (Q Q' : DK) (E E' : DX), (∀ d M, Q d M → Q' d M) → (∀ c f M, E c f M → E' c f M) → t env M Q E → t env M Q' E'
def MonoT (t : DT) : Prop := ∀ env M (Q Q' : Bool → Mem → Prop) (E E' : DX), (∀ d M, Q d M → Q' d M) → (∀ c f M, E c f M → E' c f M) → t env M Q E → t env M Q' E'
def MonoA (t : DA) : Prop := ∀ env M (Q Q' : List D → Mem → Prop) (E E' : DX), (∀ d M, Q d M → Q' d M) → (∀ c f M, E c f M → E' c f M) → t env M Q E → t env M Q' E'
structure DEnds.Le (D D' : DEnds) : Prop where
  nx : ∀ e M, D.nx e M → D'.nx e M
  rt : ∀ d M, D.rt d M → D'.rt d M
  bk : ∀ e M, D.bk e M → D'.bk e M
  ct : ∀ e M, D.ct e M → D'.ct e M
  ex : ∀ c f e M, D.ex c f e M → D'.ex c f e M
def MonoS (t : DS) : Prop := ∀ (D D' : DEnds) env M, D.Le D' → t D env M → t D' env M

structure XE (X : Cx) (W : WX) (e : Expr) (t : DE) : Prop where
  mono : MonoE t
  pe : PE X e (liftE X.K W t)
structure XT (X : Cx) (W : WX) (e : Expr) (t : DT) : Prop where
  mono : MonoT t
  pt : PT X e (liftT X.K W t)
structure XW (X : Cx) (W : WX) (e : Expr) (t : DT) : Prop where
  mono : MonoT t
  pw : PW X e (liftT X.K W t)
structure XA (X : Cx) (W : WX) (es : List Expr) (t : DA) : Prop where
  mono : MonoA t
  pa : PA X es (liftA X.K W t)
structure XS (X : Cx) (W : WX) (st : Stmt) (t : DS) : Prop where
  mono : MonoS t
  ps : PS X st (liftS X.K W t)
structure XSs (X : Cx) (W : WX) (st : List Stmt) (t : DS) : Prop where
  mono : MonoS t
  ps : PSs X st (liftS X.K W t)

theorem PEw {X : Cx} {e : Expr} {t t' : TE} (h : PE X e t) (w : ∀ σ H Q, t' σ H Q → t σ H Q) : PE X e t' := ⟨fun pins s σ H Q I q => h.run pins s σ H Q I (w σ H Q q)⟩
theorem PTw {X : Cx} {e : Expr} {t t' : TT} (h : PT X e t) (w : ∀ σ H Q, t' σ H Q → t σ H Q) : PT X e t' := ⟨fun pins s σ H Q I q => h.run pins s σ H Q I (w σ H Q q)⟩
theorem PWw {X : Cx} {e : Expr} {t t' : TT} (h : PW X e t) (w : ∀ σ H Q, t' σ H Q → t σ H Q) : PW X e t' := ⟨fun wh pins s σ H Q I q => h.run wh pins s σ H Q I (w σ H Q q)⟩
theorem PAw {X : Cx} {e : List Expr} {t t' : TA} (h : PA X e t) (w : ∀ σ H Q, t' σ H Q → t σ H Q) : PA X e t' := ⟨fun pos pins s σ H Q I q => h.run pos pins s σ H Q I (w σ H Q q)⟩
theorem PSw {X : Cx} {e : Stmt} {t t' : TS} (h : PS X e t) (w : ∀ D σ H, t' D σ H → t D σ H) : PS X e t' := ⟨fun pins s σ H Q I q => h.run pins s σ H Q I (w Q σ H q)⟩
theorem PSsw {X : Cx} {e : List Stmt} {t t' : TS} (h : PSs X e t) (w : ∀ D σ H, t' D σ H → t D σ H) : PSs X e t' := ⟨fun pins s σ H Q I q => h.run pins s σ H Q I (w Q σ H q)⟩

section
variable {K : PySem.W.Frag} {W : WX}
/-- a step of evaluation: the D-reading leads to the V-reading -/
theorem stepE {t : DE} (m : MonoE t) {σ : L2.St} {H : Hp} {env : DEnv} {M : Mem} {P : VK} {Q : DK} {E : DX} (re : RepE K H env σ) (s : Sim K H M) (h : t env M Q E)
    (hq : ∀ d M1 u H1, Ext K H H1 → Sim K H1 M1 → RepE K H1 env σ → RepD K H1 d u → Q d M1 → P u H1) (he : ∀ c f M1, E c f M1 → upX K W H σ c f M1) : liftE K W t σ H P :=
  ⟨env, M, re, s, m env M _ _ _ _ (fun d M1 q u H1 e1 s1 r1 => hq d M1 u H1 e1 s1 (re.mono e1) r1 q) he h⟩
theorem stepT {t : DT} (m : MonoT t) {σ : L2.St} {H : Hp} {env : DEnv} {M : Mem} {P : Bool → Hp → Prop} {Q : Bool → Mem → Prop} {E : DX} (re : RepE K H env σ) (s : Sim K H M) (h : t env M Q E)
    (hq : ∀ d M1 H1, Ext K H H1 → Sim K H1 M1 → RepE K H1 env σ → Q d M1 → P d H1) (he : ∀ c f M1, E c f M1 → upX K W H σ c f M1) : liftT K W t σ H P :=
  ⟨env, M, re, s, m env M _ _ _ _ (fun d M1 q H1 e1 s1 => hq d M1 H1 e1 s1 (re.mono e1) q) he h⟩
theorem stepA {t : DA} (m : MonoA t) {σ : L2.St} {H : Hp} {env : DEnv} {M : Mem} {P : List V → Hp → Prop} {Q : List D → Mem → Prop} {E : DX} (re : RepE K H env σ) (s : Sim K H M) (h : t env M Q E)
    (hq : ∀ ds M1 us H1, Ext K H H1 → Sim K H1 M1 → RepE K H1 env σ → RepL K H1 ds us → Q ds M1 → P us H1) (he : ∀ c f M1, E c f M1 → upX K W H σ c f M1) : liftA K W t σ H P :=
  ⟨env, M, re, s, m env M _ _ _ _ (fun d M1 q u H1 e1 s1 r1 => hq d M1 u H1 e1 s1 (re.mono e1) r1 q) he h⟩
theorem upX_mono {H H1 : Hp} {σ : L2.St} (e : Ext K H H1) : ∀ c f M1, upX K W H σ c f M1 → upX K W H1 σ c f M1 := fun c f M1 q d H' e' s r => q d H' (e.trans e') s r
theorem upK_mono {H H1 : Hp} {Q : VK} (e : Ext K H H1) : ∀ d M1, upK K H Q d M1 → upK K H1 Q d M1 := fun c M1 q d H' e' s r => q d H' (e.trans e') s r
end
end PL

namespace PL
open PySem PySem.Spec PyProof.Rows L2

/-! results of operations by values -/
inductive Res where
  | val (c : Prop) (d : D)
  | new (c : Prop) (o : Ob)
  | put (c : Prop) (a : Addr) (o : Ob) (d : D)
  | bad
def Res.run : Res → Mem → DK → Prop
  | .val c d, M, Q => c ∧ Q d M
  | .new c o, M, Q => c ∧ ∀ p, M p = none → Q (.ob p) (mupd M p o)
  | .put c a o d, M, Q => c ∧ Q d (mupd M a o)
  | .bad, _, _ => False
theorem Res.mono {r : Res} {M : Mem} {Q Q' : DK} (h : ∀ d M, Q d M → Q' d M) (q : r.run M Q) : r.run M Q' := by
  cases r with
  | val c d => exact ⟨q.1, h _ _ q.2⟩
  | new c o => exact ⟨q.1, fun p hp => h _ _ (q.2 p hp)⟩
  | put c a o d => exact ⟨q.1, h _ _ q.2⟩
  | bad => exact q

section
variable {K : PySem.W.Frag} {H : Hp} {M : Mem} {Q : VK}
theorem fin_val {x : V} (h : upK K H Q (.v x) M) (s : Sim K H M) : Q x H := h x H Ext.refl s (by unfold RepD; rfl)
theorem fin_rep {d : D} {x : V} (h : upK K H Q d M) (s : Sim K H M) (r : RepD K H d x) : Q x H := h x H Ext.refl s r
theorem fin_new {ob : Ob} {o : HO} {p : Addr} (h : ∀ p, M p = none → upK K H Q (.ob p) (mupd M p ob)) (s : Sim K H M) (hp : H p = none) (r : RepO K (upd H p o) p ob) : Q (.ref p) (upd H p o) :=
  h p (s.free hp) _ _ (Ext.new hp) (s.new hp r) (by unfold RepD; rfl)
theorem fin_tup {ds : List D} {us : List V} {p : Addr} (h : upK K H Q (.tup ds) M) (s : Sim K H M) (hp : H p = none) (r : RepL K H ds us) : Q (.ref p) (upd H p (.tup us)) :=
  h _ _ (Ext.new hp) (s.laid hp) (by unfold RepD; exact ⟨p, us, rfl, SqT.of upd_same, RepL.mono (Ext.new hp) _ r⟩)
theorem repO_lst {p : Addr} {ds : List D} {us : List V} (e : Ext K H (upd H p (.lst us))) (r : RepL K H ds us) : RepO K (upd H p (.lst us)) p (.lst ds) := ⟨us, upd_same, RepL.mono e _ r⟩
theorem fin_lst {ds : List D} {us : List V} {p : Addr} (h : ∀ p, M p = none → upK K H Q (.ob p) (mupd M p (.lst ds))) (s : Sim K H M) (hp : H p = none) (r : RepL K H ds us) : Q (.ref p) (upd H p (.lst us)) :=
  fin_new h s hp (repO_lst (Ext.new hp) r)
theorem fin_put {ob : Ob} {o o' : HO} {a : Addr} {d : D} {x : V} (h : upK K H Q d (mupd M a ob)) (s : Sim K H M) (ha : H a = some o) (m : Mut (some o)) (r : RepO K (upd H a o') a ob) (rd : RepD K H d x) : Q x (upd H a o') :=
  h x _ (Ext.mut ha m) (s.put ha m r) (RepD.mono (Ext.mut ha m) _ rd)
theorem rep_v {x u : V} (h : RepD K H (.v x) u) : u = x := by unfold RepD at h; exact h
theorem rep_of {x : V} : RepD K H (.v x) x := by unfold RepD; rfl
theorem rep_tup {ds : List D} {u : V} (h : RepD K H (.tup ds) u) : ∃ a us, u = .ref a ∧ SqT K H a us ∧ RepL K H ds us := by unfold RepD at h; exact h
theorem Sim.lst (s : Sim K H M) {a : Addr} {ds : List D} (h : M a = some (.lst ds)) : ∃ us, H a = some (.lst us) ∧ RepL K H ds us := s a _ h
theorem Sim.seq (s : Sim K H M) {a : Addr} {ds : List D} (h : M a = some (.lst ds) ∨ M a = some (.rol ds)) : ∃ us, SqL K H a us ∧ RepL K H ds us := by
  rcases h with h | h
  · obtain ⟨us, e, r⟩ := s a _ h
    exact ⟨us, SqL.of e, r⟩
  · obtain ⟨o, us, e, r⟩ := s a _ h
    exact ⟨us, .inl (.inr ⟨o, e⟩), r⟩
end

/-! plain data -/
mutual
def D.pure : D → Bool
  | .v .non | .v (.bl _) | .v (.int _) | .v (.str _) => true
  | .v _ => false
  | .tup ds => pureL ds
def pureL : List D → Bool
  | [] => true
  | d :: ds => d.pure && pureL ds
end
mutual
def D.py : D → PyData
  | .v .non => .none
  | .v (.bl b) => .bool b
  | .v (.int i) => .int i
  | .v (.str x) => .str x
  | .v _ => .none
  | .tup ds => .tuple (pyL ds)
def pyL : List D → List PyData
  | [] => []
  | d :: ds => d.py :: pyL ds
end
mutual
def D.dp : D → Nat
  | .v _ => 0
  | .tup ds => dpL ds + 1
def dpL : List D → Nat
  | [] => 0
  | d :: ds => max d.dp (dpL ds)
end
/-- == of plain data -/
def D.eqv (d e : D) : Bool := PyData.eqv d.py e.py
def eqvL (ds es : List D) : Bool := PyData.eqvAll (pyL ds) (pyL es)
theorem pyL_map : ∀ ds : List D, pyL ds = ds.map D.py
  | [] => by simp [pyL]
  | d :: ds => by simp [pyL, pyL_map ds]
mutual
theorem plain_py : ∀ d : D, d.py.plain = true
  | .v x => by cases x <;> simp [D.py, PyData.plain]
  | .tup ds => by simp [D.py, PyData.plain, plain_pyL ds]
theorem plain_pyL : ∀ ds : List D, PyData.plainAll (pyL ds) = true
  | [] => by simp [pyL, PyData.plainAll]
  | d :: ds => by simp [pyL, PyData.plainAll, plain_py d, plain_pyL ds]
end
mutual
theorem depth_py : ∀ d : D, d.py.depth = d.dp
  | .v x => by cases x <;> simp [D.py, D.dp, PyData.depth]
  | .tup ds => by simp [D.py, D.dp, PyData.depth, depth_pyL ds]
theorem depth_pyL : ∀ ds : List D, PyData.depthAll (pyL ds) = dpL ds
  | [] => by simp [pyL, dpL, PyData.depthAll]
  | d :: ds => by simp [pyL, dpL, PyData.depthAll, depth_py d, depth_pyL ds]
end
mutual
theorem RepD.dp {K : PySem.W.Frag} {H : Hp} : ∀ (d : D) {u : V}, d.pure = true → RepD K H d u → Dp K H u d.py
  | .v x, u, hp, h => by
    have e := rep_v h; subst e
    cases u <;> first | exact .non | exact .bl _ | exact .int _ | exact .str _ | (simp [D.pure] at hp)
  | .tup ds, u, hp, h => by
    obtain ⟨a, us, rfl, q, r⟩ := rep_tup h
    unfold D.py
    exact .tup q (RepL.dp ds (by simpa [D.pure] using hp) r)
theorem RepL.dp {K : PySem.W.Frag} {H : Hp} : ∀ (ds : List D) {us : List V}, pureL ds = true → RepL K H ds us → DpAll K H us (pyL ds)
  | [], us, hp, h => by unfold RepL at h; subst h; unfold pyL; exact .nil
  | d :: ds, us, hp, h => by
    unfold RepL at h
    obtain ⟨u, r, rfl, q, t⟩ := h
    simp only [pureL, Bool.and_eq_true] at hp
    unfold pyL
    exact .cons (RepD.dp d hp.1 q) (RepL.dp ds hp.2 t)
end

/-- plain data, or a list of such -/
def pyM (M : Mem) : D → Option PyData
  | .v (.ref a) => match M a with
    | some (.lst ds) => if pureL ds = true then some (.list (pyL ds)) else none
    | some (.rol ds) => if pureL ds = true then some (.list (pyL ds)) else none
    | _ => none
  | .v x => if (D.v x).pure = true then some (D.v x).py else none
  | .tup ds => if pureL ds = true then some (.tuple (pyL ds)) else none
theorem pyM_pure {M : Mem} : ∀ {d : D}, d.pure = true → pyM M d = some d.py
  | .v x, h => by cases x <;> simp_all [pyM, D.pure]
  | .tup ds, h => by simp_all [pyM, D.pure, D.py]
theorem pyM_dp {K : PySem.W.Frag} {H : Hp} {M : Mem} (s : Sim K H M) {d : D} {u : V} {p : PyData} (h : pyM M d = some p) (r : RepD K H d u) : Dp K H u p ∧ p.plain = true := by
  cases d with
  | tup ds =>
    simp only [pyM] at h
    split at h
    · cases h
      rename_i hp
      refine ⟨?_, by simp [PyData.plain, plain_pyL ds]⟩
      have := RepD.dp (.tup ds) (by simpa [D.pure] using hp) r
      simpa [D.py] using this
    · cases h
  | v x =>
    cases x with
    | ref a =>
      simp only [pyM] at h
      have e := rep_v r; subst e
      split at h
      · split at h
        · cases h
          rename_i ds hm hp
          obtain ⟨us, e, r⟩ := s a _ hm
          exact ⟨.lst (SqL.of e) (RepL.dp ds hp r), by simp [PyData.plain, plain_pyL ds]⟩
        · cases h
      · split at h
        · cases h
          rename_i ds hm hp
          obtain ⟨o, us, e, r⟩ := s a _ hm
          exact ⟨.lst (.inl (.inr ⟨o, e⟩)) (RepL.dp ds hp r), by simp [PyData.plain, plain_pyL ds]⟩
        · cases h
      · cases h
    | _ => (first
        | (simp [pyM, D.pure, D.py] at h; subst h; have e := rep_v r; subst e; exact ⟨by constructor, by simp [PyData.plain]⟩)
        | (simp [pyM, D.pure] at h))

/-! two-place operations -/
abbrev DOp2 := D → D → Mem → Res
def upR2 (K : PySem.W.Frag) (r : DOp2) : R2 := fun x y H Q => ∃ dx dy M, RepD K H dx x ∧ RepD K H dy y ∧ Sim K H M ∧ (r dx dy M).run M (upK K H Q)
def XOp (X : Cx) (f : Value → Value → Sem Value) (r : DOp2) : Prop := OpR X f (upR2 X.K r)

def dBin (r : DOp2) (ta tb : DE) : DE := fun env M Q E => ta env M (fun x M1 => tb env M1 (fun y M2 => (r x y M2).run M2 Q) E) E
theorem dBin_mono {r : DOp2} {ta tb : DE} (ha : MonoE ta) (hb : MonoE tb) : MonoE (dBin r ta tb) := fun env M Q Q' E E' hQ hE h =>
  ha env M _ _ _ _ (fun x M1 h1 => hb env M1 _ _ _ _ (fun y M2 h2 => Res.mono hQ h2) hE h1) hE h
section
variable {X : Cx} {W : WX} {a b : Expr} {ta tb : DE} {pos : Pos} {r : DOp2}
theorem bin_up {r2 : R2} (ha : XE X W a ta) (hb : XE X W b tb) (hr : ∀ x y H Q, upR2 X.K r x y H Q → r2 x y H Q) : ∀ σ H Q, liftE X.K W (dBin r ta tb) σ H Q → tOp r2 (liftE X.K W ta) (liftE X.K W tb) σ H Q := by
  rintro σ H Q ⟨env, M, re, s, h⟩
  refine stepE ha.mono re s h (fun d M1 u H1 e1 s1 re1 r1 h1 => ?_) fun _ _ _ z => z
  refine stepE hb.mono re1 s1 h1 (fun d2 M2 u2 H2 e2 s2 re2 r2 h2 => ?_) (upX_mono e1)
  exact hr _ _ _ _ ⟨d, d2, M2, RepD.mono e2 _ r1, r2, s2, Res.mono (upK_mono (e1.trans e2)) h2⟩
theorem xe_bin {op : Operator} (ho : XOp X (binaryOp op) r) (ha : XE X W a ta) (hb : XE X W b tb) : XE X W (.BinOp a op b pos) (dBin r ta tb) :=
  ⟨dBin_mono ha.mono hb.mono, PEw (pe_op ho ha.pe hb.pe) (bin_up ha hb fun _ _ _ _ h => h)⟩
theorem xe_cmp {op : CmpOp} (ho : XOp X (compareOp op) r) (ha : XE X W a ta) (hb : XE X W b tb) (hm : behindInMarks op b = false) : XE X W (.Compare a [op] [b] pos) (dBin r ta tb) :=
  ⟨dBin_mono ha.mono hb.mono, PEw (pe_cmpR ho ha.pe hb.pe hm) (bin_up ha hb fun _ _ _ _ h => h)⟩
end


/-! arithmetic -/
def opAdd : DOp2
  | .v (.int i), .v (.int j), _ => .val True (.int (i + j))
  | .v (.str a), .v (.str b), _ => .val (a.length + b.length ≤ sizeLine) (.str (a ++ b))
  | .tup a, .tup b, _ => .val (a.length + b.length ≤ sizeLine) (.tup (a ++ b))
  | .v (.ref a), .v (.ref b), M => match M a, M b with
    | some (.lst xs), some (.lst ys) => .new (xs.length + ys.length ≤ sizeLine) (.lst (xs ++ ys))
    | _, _ => .bad
  | _, _, _ => .bad
def opSub : DOp2
  | .v (.int i), .v (.int j), _ => .val True (.int (i - j))
  | _, _, _ => .bad
def opMul : DOp2
  | .v (.int i), .v (.int j), _ => .val (IntMulOk i j) (.int (i * j))
  | .tup xs, .v (.int k), _ => .val (xs ≠ [] ∧ 2 ≤ k ∧ k ≤ 1000 ∧ xs.length ≤ 1000) (.tup (List.replicate k.toNat xs).flatten)
  | .v (.str x), .v (.int k), _ => .val (1 ≤ x.length ∧ 2 ≤ k ∧ k ≤ 1000 ∧ x.length ≤ 1000) (.str ⟨(List.replicate k.toNat x.cps.toList).flatten.toArray⟩)
  | _, _, _ => .bad
def opFdiv : DOp2
  | .v (.int i), .v (.int j), _ => .val (0 < j ∧ j < 1073741824) (.int (i / j))
  | _, _, _ => .bad
def opMod : DOp2
  | .v (.int i), .v (.int j), _ => .val (0 < j) (.int (i % j))
  | _, _, _ => .bad
def opPow : DOp2
  | .v (.int i), .v (.int j), _ => .val (0 ≤ j ∧ j ≤ 1000000 ∧ i.natAbs < 2 ^ 64) (.int (i ^ j.toNat))
  | _, _, _ => .bad
theorem fold_rep (a : Array Nat) : ∀ (n : Nat) (acc : Array Nat), (List.replicate n a).foldl (· ++ ·) acc = acc ++ (List.replicate n a.toList).flatten.toArray
  | 0, acc => by simp
  | n + 1, acc => by
    rw [List.replicate_succ, List.foldl_cons, fold_rep a n, List.replicate_succ, List.flatten_cons]
    apply Array.toList_inj.mp
    simp
section
variable {X : Cx}
theorem x_sub : XOp X (binaryOp .Sub) opSub := by
  rintro pins s σ H x y v u Q I rx ry ⟨dx, dy, M, r1, r2, sm, h⟩
  unfold opSub at h
  split at h <;> first | exact h.elim | skip
  rw [rep_v r1] at rx; rw [rep_v r2] at ry
  exact op_sub pins s σ H _ _ v u Q I rx ry ⟨_, _, rfl, rfl, fin_val h.2 sm⟩
theorem x_fdiv : XOp X (binaryOp .FloorDiv) opFdiv := by
  rintro pins s σ H x y v u Q I rx ry ⟨dx, dy, M, r1, r2, sm, h⟩
  unfold opFdiv at h
  split at h <;> first | exact h.elim | skip
  rw [rep_v r1] at rx; rw [rep_v r2] at ry
  exact op_fdiv pins s σ H _ _ v u Q I rx ry ⟨_, _, rfl, rfl, h.1, fin_val h.2 sm⟩
theorem x_mod : XOp X (binaryOp .Mod) opMod := by
  rintro pins s σ H x y v u Q I rx ry ⟨dx, dy, M, r1, r2, sm, h⟩
  unfold opMod at h
  split at h <;> first | exact h.elim | skip
  rw [rep_v r1] at rx; rw [rep_v r2] at ry
  exact op_mod pins s σ H _ _ v u Q I rx ry ⟨_, _, rfl, rfl, h.1, fin_val h.2 sm⟩
theorem x_pow : XOp X (binaryOp .Pow) opPow := by
  rintro pins s σ H x y v u Q I rx ry ⟨dx, dy, M, r1, r2, sm, h⟩
  unfold opPow at h
  split at h <;> first | exact h.elim | skip
  rw [rep_v r1] at rx; rw [rep_v r2] at ry
  exact op_pow pins s σ H _ _ v u Q I rx ry ⟨_, _, rfl, rfl, h.1, fin_val h.2 sm⟩
theorem x_add : XOp X (binaryOp .Add) opAdd := by
  rintro pins s σ H x y v u Q I rx ry ⟨dx, dy, M, r1, r2, sm, h⟩
  unfold opAdd at h
  split at h <;> first | exact h.elim | skip
  · rw [rep_v r1] at rx; rw [rep_v r2] at ry
    exact op_add pins s σ H _ _ v u Q I rx ry ⟨_, _, rfl, rfl, fin_val h.2 sm⟩
  · rw [rep_v r1] at rx; rw [rep_v r2] at ry
    exact op_add_str pins s σ H _ _ v u Q I rx ry ⟨_, _, rfl, rfl, h.1, fin_val h.2 sm⟩
  · obtain ⟨a, us, rfl, q1, l1⟩ := rep_tup r1
    obtain ⟨b, ws, rfl, q2, l2⟩ := rep_tup r2
    refine op_catA pins s σ H _ _ v u Q I rx ry ⟨_, _, _, _, rfl, rfl, q1, q2, by rw [l1.length, l2.length]; exact h.1, fun e => ?_, fun _ e => ?_, fun _ _ p hp => ?_⟩
    · refine fin_rep h.2 sm ?_
      subst e
      have := l1.length
      rw [List.eq_nil_of_length_eq_zero this.symm, List.nil_append]
      exact r2
    · refine fin_rep h.2 sm ?_
      subst e
      have := l2.length
      rw [List.eq_nil_of_length_eq_zero this.symm, List.append_nil]
      exact r1
    · exact fin_tup h.2 sm hp (RepL.append l1 l2)
  · split at h <;> first | exact h.elim | skip
    rename_i hm1 hm2
    rw [rep_v r1] at rx; rw [rep_v r2] at ry
    obtain ⟨us, e1, l1⟩ := sm.lst hm1
    obtain ⟨ws, e2, l2⟩ := sm.lst hm2
    exact op_cat pins s σ H _ _ v u Q I rx ry ⟨_, _, _, _, rfl, rfl, e1, e2, by rw [l1.length, l2.length]; exact h.1, fun p hp => fin_lst h.2 sm hp (RepL.append l1 l2)⟩
theorem RepL.rep {K : PySem.W.Frag} {H : Hp} {ds : List D} {us : List V} (h : RepL K H ds us) : ∀ k : Nat, RepL K H (List.replicate k ds).flatten (List.replicate k us).flatten
  | 0 => by simp only [List.replicate_zero, List.flatten_nil]; exact .nil
  | k + 1 => by
    simp only [List.replicate_succ, List.flatten_cons]
    exact RepL.append h (RepL.rep h k)
theorem x_mul : XOp X (binaryOp .Mult) opMul := by
  rintro pins s σ H x y v u Q I rx ry ⟨dx, dy, M, r1, r2, sm, h⟩
  unfold opMul at h
  split at h <;> first | exact h.elim | skip
  · rw [rep_v r1] at rx; rw [rep_v r2] at ry
    obtain ⟨t, rfl⟩ := rx
    obtain ⟨t', rfl⟩ := ry
    exact mul_int ⟨.int _, H, I.tok _, ⟨_, rfl⟩, fin_val h.2 sm⟩ h.1
  · obtain ⟨a, us, rfl, q1, l1⟩ := rep_tup r1
    rw [rep_v r2] at ry
    obtain ⟨h1, h2, h3, h4⟩ := h.1
    refine op_repT pins s σ H _ _ v u Q I rx ry ⟨_, _, _, rfl, rfl, q1, fun e => h1 ?_, h2, h3, by rw [l1.length]; exact h4, fun p hp => fin_tup h.2 sm hp (RepL.rep l1 _)⟩
    have := l1.length
    rw [e] at this
    exact List.eq_nil_of_length_eq_zero this.symm
  · rename_i z k
    rw [rep_v r1] at rx; rw [rep_v r2] at ry
    obtain ⟨t, rfl⟩ := rx
    obtain ⟨t', rfl⟩ := ry
    obtain ⟨h1, h2, h3, h4⟩ := h.1
    have nk : ¬ k < 1 := by omega
    have k1 : (k == 1) = false := by simp; omega
    have z1 : (z.length == 0) = false := by simp; omega
    have hk : (z.length : Int) * k ≤ 1000000 := by
      have a1 : (z.length : Int) * k ≤ 1000 * k := Int.mul_le_mul_of_nonneg_right (by omega) (by omega)
      omega
    have hn : z.length * k.toNat ≤ 1000000 := by
      have : ((z.length * k.toNat : Nat) : Int) = (z.length : Int) * k := by
        rw [Int.natCast_mul, Int.toNat_of_nonneg (by omega)]
      omega
    refine PySem.P.mul_str ?_ (fun _ _ => ?_) (fun _ _ => ?_) ?_
    · rw [decide_eq_false (by omega), decide_eq_false (by omega)]; rfl
    · have : ((2 : Int) ^ 63 - 1) / k ≥ (2 ^ 63 - 1) / 1000 := by
        have h5 : (2 ^ 63 - 1 : Int) / 1000 * k ≤ (2 ^ 63 - 1) := by
          have : (2 ^ 63 - 1 : Int) / 1000 * k ≤ (2 ^ 63 - 1 : Int) / 1000 * 1000 := Int.mul_le_mul_of_nonneg_left h3 (by decide)
          omega
        exact (Int.le_ediv_iff_mul_le (by omega)).mpr h5
      omega
    · simp only [Builtin.Str.tooLong, decide_eq_false_iff_not]
      rw [sizeLine_eq]
      omega
    · rw [if_neg nk, k1, z1]
      rw [fold_rep, Array.empty_append]
      refine ⟨?_, .str _, H, I.tok _, ⟨_, rfl⟩, fin_val h.2 sm⟩
      show (List.toArray _).size ≤ _
      rw [List.size_toArray, List.length_flatten, List.map_replicate, List.sum_replicate_nat, Nat.mul_comm, sizeLine_eq]
      show z.cps.size * k.toNat ≤ _
      have e : z.length = z.cps.size := rfl
      rw [e] at hn
      omega
end
end PL

namespace PL
open PySem PySem.Spec PyProof.Rows L2

/-! comparisons -/
def mostDeep : Nat := 150
def opEq : DOp2 := fun x y M => match pyM M x, pyM M y with
  | some p, some q => .val (min p.depth q.depth ≤ mostDeep) (.bl (PyData.eqv p q))
  | _, _ => .bad
def opNe : DOp2 := fun x y M => match pyM M x, pyM M y with
  | some p, some q => .val (min p.depth q.depth ≤ mostDeep) (.bl (!PyData.eqv p q))
  | _, _ => .bad
def opLt : DOp2
  | .v (.int i), .v (.int j), _ => .val True (.bl (decide (i < j)))
  | .v (.str a), .v (.str b), _ => .val True (.bl (decide (a.cps.toList < b.cps.toList)))
  | _, _, _ => .bad
def opLe : DOp2
  | .v (.int i), .v (.int j), _ => .val True (.bl (decide (i ≤ j)))
  | .v (.str a), .v (.str b), _ => .val True (.bl (!decide (b.cps.toList < a.cps.toList)))
  | _, _, _ => .bad
def opGt : DOp2
  | .v (.int i), .v (.int j), _ => .val True (.bl (decide (j < i)))
  | .v (.str a), .v (.str b), _ => .val True (.bl (decide (b.cps.toList < a.cps.toList)))
  | _, _, _ => .bad
def opGe : DOp2
  | .v (.int i), .v (.int j), _ => .val True (.bl (decide (j ≤ i)))
  | .v (.str a), .v (.str b), _ => .val True (.bl (!decide (a.cps.toList < b.cps.toList)))
  | _, _, _ => .bad
def D.isNon : D → Bool
  | .v .non => true
  | _ => false
def opIs : DOp2
  | d, .v .non, _ => .val True (.bl d.isNon)
  | .v (.bl a), .v (.bl b), _ => .val True (.bl (decide (a = b)))
  | _, _, _ => .bad
def opIsNot : DOp2
  | d, .v .non, _ => .val True (.bl (!d.isNon))
  | .v (.bl a), .v (.bl b), _ => .val True (.bl (!decide (a = b)))
  | _, _, _ => .bad
def D.key : D → Option Key
  | .v (.int i) => some (.inl i)
  | .v (.str x) => some (.inr x)
  | _ => none
def look {κ β : Type} [DecidableEq κ] : List (κ × β) → κ → Option β
  | [], _ => none
  | (a, d) :: r, k => if a = k then some d else look r k
/-- x in y, as a bool where it is defined -/
def isIn (x y : D) (M : Mem) : Option (Nat × Bool) := match y with
  | .v (.str b) => match x with
    | .v (.str a) => if a.cps.size = 1 then some (0, decide (a.cps.getD 0 0 ∈ b.cps.toList)) else none
    | _ => none
  | .tup ds => if pureL ds && x.pure then some (min (dpL ds) x.dp, ds.any fun d => D.eqv d x) else none
  | .v (.ref a) => match M a with
    | some (.lst ds) => if pureL ds && x.pure then some (min (dpL ds) x.dp, ds.any fun d => D.eqv d x) else none
    | some (.rol ds) => if pureL ds && x.pure then some (min (dpL ds) x.dp, ds.any fun d => D.eqv d x) else none
    | some (.dk kvs) => match x.key with
      | some k => some (0, (look kvs k).isSome)
      | none => none
    | some (.rdk kvs) => match x.key with
      | some k => some (0, (look kvs k).isSome)
      | none => none
    | _ => none
  | _ => none
def opIn : DOp2 := fun x y M => match isIn x y M with
  | some (n, b) => .val (n ≤ mostDeep) (.bl b)
  | none => .bad
def opNotIn : DOp2 := fun x y M => match isIn x y M with
  | some (n, b) => .val (n ≤ mostDeep) (.bl (!b))
  | none => .bad

theorem key_rep {K : PySem.W.Frag} {H : Hp} {d : D} {u : V} {k : Key} (h : d.key = some k) (r : RepD K H d u) : u = kV k := by
  unfold D.key at h
  split at h <;> cases h <;> exact rep_v r
theorem RepKV.look {κ : Type} [DecidableEq κ] {K : PySem.W.Frag} {H : Hp} (k : κ) : ∀ {kvs : List (κ × D)} {us : List (κ × V)}, RepKV K H kvs us →
    match PL.look kvs k, valV us k with | some d, some u => RepD K H d u | none, none => True | _, _ => False
  | [], _, h => by unfold RepKV at h; subst h; simp [PL.look, valV]
  | (k', d) :: r, _, h => by
    obtain ⟨u, t, rfl, q, z⟩ := h
    have ih := RepKV.look k z
    by_cases e : k' = k
    · simpa [PL.look, valV, e] using q
    · simpa [PL.look, valV, e] using ih
theorem RepKV.isSome {κ : Type} [DecidableEq κ] {K : PySem.W.Frag} {H : Hp} (k : κ) {kvs : List (κ × D)} {us : List (κ × V)} (h : RepKV K H kvs us) : (valV us k).isSome = (PL.look kvs k).isSome := by
  have q := h.look k
  cases e : PL.look kvs k <;> cases f : valV us k <;> simp_all
theorem any_eqv (x : D) : ∀ ds : List D, ((pyL ds).any fun y => PyData.eqv y x.py) = ds.any fun d => D.eqv d x
  | [] => by simp [pyL]
  | d :: ds => by simp [pyL, any_eqv x ds, D.eqv]

section
variable {X : Cx}
theorem rd_of {pins : List (Addr × Obj)} {σ : L2.St} {H : Hp} {s : Shared} {d : PyData} {x : V} {v : Value} (I : Inv X pins σ H s) (h : Dp X.K H x d) (r : RelV x v) : ∃ as, Reads s.heap v d as := Dp.reads I d x v h r
theorem x_eq (hu : X.A.units + 200 < cLine) : XOp X (compareOp .Eq) opEq := by
  rintro pins s σ H x y v u Q I rx ry ⟨dx, dy, M, r1, r2, sm, h⟩
  unfold opEq at h
  split at h <;> first | exact h.elim | skip
  rename_i p q hp hq
  obtain ⟨p1, n1⟩ := pyM_dp sm hp r1
  obtain ⟨p2, n2⟩ := pyM_dp sm hq r2
  obtain ⟨as, a1⟩ := rd_of I p1 rx
  obtain ⟨bs, b1⟩ := rd_of I p2 ry
  have hd := h.1
  unfold mostDeep at hd
  exact SeqAt.eq_plain a1 b1 n1 n2 (by omega) ⟨.bl _, H, I, rfl, fin_val h.2 sm⟩
theorem x_ne (hu : X.A.units + 200 < cLine) : XOp X (compareOp .NotEq) opNe := by
  rintro pins s σ H x y v u Q I rx ry ⟨dx, dy, M, r1, r2, sm, h⟩
  unfold opNe at h
  split at h <;> first | exact h.elim | skip
  rename_i p q hp hq
  obtain ⟨p1, n1⟩ := pyM_dp sm hp r1
  obtain ⟨p2, n2⟩ := pyM_dp sm hq r2
  obtain ⟨as, a1⟩ := rd_of I p1 rx
  obtain ⟨bs, b1⟩ := rd_of I p2 ry
  have hd := h.1
  unfold mostDeep at hd
  exact SeqAt.ne_plain a1 b1 n1 n2 (by omega) ⟨.bl _, H, I, rfl, fin_val h.2 sm⟩
theorem x_lt : XOp X (compareOp .Lt) opLt := by
  rintro pins s σ H x y v u Q I rx ry ⟨dx, dy, M, r1, r2, sm, h⟩
  unfold opLt at h
  split at h <;> first | exact h.elim | skip
  all_goals rw [rep_v r1] at rx; rw [rep_v r2] at ry
  · exact op_lt pins s σ H _ _ v u Q I rx ry ⟨_, _, rfl, rfl, fin_val h.2 sm⟩
  · exact op_lt_str pins s σ H _ _ v u Q I rx ry ⟨_, _, rfl, rfl, fin_val h.2 sm⟩
theorem x_le : XOp X (compareOp .LtE) opLe := by
  rintro pins s σ H x y v u Q I rx ry ⟨dx, dy, M, r1, r2, sm, h⟩
  unfold opLe at h
  split at h <;> first | exact h.elim | skip
  all_goals rw [rep_v r1] at rx; rw [rep_v r2] at ry
  · exact op_le pins s σ H _ _ v u Q I rx ry ⟨_, _, rfl, rfl, fin_val h.2 sm⟩
  · exact op_le_str pins s σ H _ _ v u Q I rx ry ⟨_, _, rfl, rfl, fin_val h.2 sm⟩
theorem x_gt : XOp X (compareOp .Gt) opGt := by
  rintro pins s σ H x y v u Q I rx ry ⟨dx, dy, M, r1, r2, sm, h⟩
  unfold opGt at h
  split at h <;> first | exact h.elim | skip
  all_goals rw [rep_v r1] at rx; rw [rep_v r2] at ry
  · exact op_gt pins s σ H _ _ v u Q I rx ry ⟨_, _, rfl, rfl, fin_val h.2 sm⟩
  · exact op_gt_str pins s σ H _ _ v u Q I rx ry ⟨_, _, rfl, rfl, fin_val h.2 sm⟩
theorem x_ge : XOp X (compareOp .GtE) opGe := by
  rintro pins s σ H x y v u Q I rx ry ⟨dx, dy, M, r1, r2, sm, h⟩
  unfold opGe at h
  split at h <;> first | exact h.elim | skip
  all_goals rw [rep_v r1] at rx; rw [rep_v r2] at ry
  · exact op_ge pins s σ H _ _ v u Q I rx ry ⟨_, _, rfl, rfl, fin_val h.2 sm⟩
  · exact op_ge_str pins s σ H _ _ v u Q I rx ry ⟨_, _, rfl, rfl, fin_val h.2 sm⟩
theorem non_rep {K : PySem.W.Frag} {H : Hp} {d : D} {u : V} (r : RepD K H d u) : decide (u = .non) = d.isNon := by
  cases d with
  | tup ds =>
    obtain ⟨a, us, rfl, _⟩ := rep_tup r
    rfl
  | v x =>
    rw [rep_v r]
    cases x <;> rfl
theorem x_is : XOp X (compareOp .Is) opIs := by
  rintro pins s σ H x y v u Q I rx ry ⟨dx, dy, M, r1, r2, sm, h⟩
  unfold opIs at h
  split at h <;> first | exact h.elim | skip
  · rw [rep_v r2] at ry
    refine op_isN pins s σ H _ _ v u Q I rx ry ⟨rfl, ?_⟩
    rw [non_rep r1]
    exact fin_val h.2 sm
  · rw [rep_v r1] at rx; rw [rep_v r2] at ry
    exact op_isBl pins s σ H _ _ v u Q I rx ry ⟨_, _, rfl, rfl, fin_val h.2 sm⟩
theorem x_isnot : XOp X (compareOp .IsNot) opIsNot := by
  rintro pins s σ H x y v u Q I rx ry ⟨dx, dy, M, r1, r2, sm, h⟩
  unfold opIsNot at h
  split at h <;> first | exact h.elim | skip
  · rw [rep_v r2] at ry
    refine op_notN pins s σ H _ _ v u Q I rx ry ⟨rfl, ?_⟩
    rw [non_rep r1]
    exact fin_val h.2 sm
  · rw [rep_v r1] at rx; rw [rep_v r2] at ry
    exact op_notBl pins s σ H _ _ v u Q I rx ry ⟨_, _, rfl, rfl, fin_val h.2 sm⟩

theorem one_sign {a : Str} (h : a.cps.size = 1) : a = ⟨#[a.cps.getD 0 0]⟩ := by
  obtain ⟨⟨l⟩⟩ := a
  match l, h with
  | [c], _ => rfl
theorem x_in (hu : X.A.units + 200 < cLine) : XOp X (compareOp .In) opIn := by
  rintro pins s σ H x y v u Q I rx ry ⟨dx, dy, M, r1, r2, sm, h⟩
  unfold opIn at h
  split at h <;> first | exact h.elim | skip
  rename_i n b hb
  have hn := h.1
  unfold mostDeep at hn
  unfold isIn at hb
  split at hb
  · -- texts
    split at hb <;> try (cases hb; done)
    split at hb <;> cases hb
    rename_i h1
    rw [rep_v r1] at rx; rw [rep_v r2] at ry
    refine op_in_sign pins s σ H _ _ v u Q I rx ry ⟨_, _, congrArg V.str (one_sign h1), rfl, fin_val h.2 sm⟩
  · -- tuples
    split at hb <;> cases hb
    rename_i ds hp
    simp only [Bool.and_eq_true] at hp
    obtain ⟨a, us, rfl, q1, l1⟩ := rep_tup r2
    obtain ⟨as, a1⟩ := rd_of I (Dp.tup q1 (RepL.dp ds hp.1 l1)) ry
    obtain ⟨bs, b1⟩ := rd_of I (RepD.dp dx hp.2 r1) rx
    refine SeqAt.in_tuple_data a1 b1 (plain_pyL ds) (plain_py dx) (by rw [depth_pyL, depth_py]; omega) ?_
    rw [any_eqv]
    exact ⟨.bl _, H, I, rfl, fin_val h.2 sm⟩
  · -- lists, dicts
    have e := rep_v r2
    subst e
    split at hb
    · split at hb <;> cases hb
      rename_i ds hm hp
      simp only [Bool.and_eq_true] at hp
      obtain ⟨us, e1, l1⟩ := sm.lst hm
      obtain ⟨as, a1⟩ := rd_of I (Dp.lst (SqL.of e1) (RepL.dp ds hp.1 l1)) ry
      obtain ⟨bs, b1⟩ := rd_of I (RepD.dp dx hp.2 r1) rx
      refine SeqAt.in_list_data a1 b1 (plain_pyL ds) (plain_py dx) (by rw [depth_pyL, depth_py]; omega) ?_
      rw [any_eqv]
      exact ⟨.bl _, H, I, rfl, fin_val h.2 sm⟩
    · split at hb <;> cases hb
      rename_i ds hm hp
      simp only [Bool.and_eq_true] at hp
      obtain ⟨us, e1, l1⟩ := sm.seq (.inr hm)
      obtain ⟨as, a1⟩ := rd_of I (Dp.lst e1 (RepL.dp ds hp.1 l1)) ry
      obtain ⟨bs, b1⟩ := rd_of I (RepD.dp dx hp.2 r1) rx
      refine SeqAt.in_list_data a1 b1 (plain_pyL ds) (plain_py dx) (by rw [depth_pyL, depth_py]; omega) ?_
      rw [any_eqv]
      exact ⟨.bl _, H, I, rfl, fin_val h.2 sm⟩
    · split at hb <;> cases hb
      rename_i kvs hm _ k hk
      obtain ⟨us, e1, l1⟩ := sm _ _ hm
      have ex := key_rep hk r1
      subst ex
      obtain rfl : u = Value.ref _ := ry
      refine d_in (o := valV us k) (by omega) I (DGet.k e1) rx fun s' I' => ⟨.bl _, H, I', rfl, ?_⟩
      rw [l1.isSome k]
      exact fin_val h.2 sm
    · split at hb <;> cases hb
      rename_i kvs hm _ k hk
      obtain ⟨ob, us, e1, l1⟩ := sm _ _ hm
      have ex := key_rep hk r1
      subst ex
      obtain rfl : u = Value.ref _ := ry
      refine d_in (o := valV us k) (by omega) I (.inl ⟨us, k, .inr ⟨ob, e1⟩, rfl, rfl⟩) rx fun s' I' => ⟨.bl _, H, I', rfl, ?_⟩
      rw [l1.isSome k]
      exact fin_val h.2 sm
    · cases hb
  · cases hb
theorem x_notin (hu : X.A.units + 200 < cLine) : XOp X (compareOp .NotIn) opNotIn := by
  rintro pins s σ H x y v u Q I rx ry ⟨dx, dy, M, r1, r2, sm, h⟩
  unfold opNotIn at h
  split at h <;> first | exact h.elim | skip
  rename_i n b hb
  have hn := h.1
  unfold mostDeep at hn
  unfold isIn at hb
  split at hb
  · split at hb <;> try (cases hb; done)
    split at hb <;> cases hb
    rename_i h1
    rw [rep_v r1] at rx; rw [rep_v r2] at ry
    refine op_notIn_sign pins s σ H _ _ v u Q I rx ry ⟨_, _, congrArg V.str (one_sign h1), rfl, fin_val h.2 sm⟩
  · split at hb <;> cases hb
    rename_i ds hp
    simp only [Bool.and_eq_true] at hp
    obtain ⟨a, us, rfl, q1, l1⟩ := rep_tup r2
    obtain ⟨as, a1⟩ := rd_of I (Dp.tup q1 (RepL.dp ds hp.1 l1)) ry
    obtain ⟨bs, b1⟩ := rd_of I (RepD.dp dx hp.2 r1) rx
    refine SeqAt.notIn_tuple_data a1 b1 (plain_pyL ds) (plain_py dx) (by rw [depth_pyL, depth_py]; omega) ?_
    rw [any_eqv]
    exact ⟨.bl _, H, I, rfl, fin_val h.2 sm⟩
  · have e := rep_v r2
    subst e
    split at hb
    · split at hb <;> cases hb
      rename_i ds hm hp
      simp only [Bool.and_eq_true] at hp
      obtain ⟨us, e1, l1⟩ := sm.lst hm
      obtain ⟨as, a1⟩ := rd_of I (Dp.lst (SqL.of e1) (RepL.dp ds hp.1 l1)) ry
      obtain ⟨bs, b1⟩ := rd_of I (RepD.dp dx hp.2 r1) rx
      refine SeqAt.notIn_list_data a1 b1 (plain_pyL ds) (plain_py dx) (by rw [depth_pyL, depth_py]; omega) ?_
      rw [any_eqv]
      exact ⟨.bl _, H, I, rfl, fin_val h.2 sm⟩
    · split at hb <;> cases hb
      rename_i ds hm hp
      simp only [Bool.and_eq_true] at hp
      obtain ⟨us, e1, l1⟩ := sm.seq (.inr hm)
      obtain ⟨as, a1⟩ := rd_of I (Dp.lst e1 (RepL.dp ds hp.1 l1)) ry
      obtain ⟨bs, b1⟩ := rd_of I (RepD.dp dx hp.2 r1) rx
      refine SeqAt.notIn_list_data a1 b1 (plain_pyL ds) (plain_py dx) (by rw [depth_pyL, depth_py]; omega) ?_
      rw [any_eqv]
      exact ⟨.bl _, H, I, rfl, fin_val h.2 sm⟩
    · split at hb <;> cases hb
      rename_i kvs hm _ k hk
      obtain ⟨us, e1, l1⟩ := sm _ _ hm
      have ex := key_rep hk r1
      subst ex
      obtain rfl : u = Value.ref _ := ry
      refine d_notIn (o := valV us k) (by omega) I (DGet.k e1) rx fun s' I' => ⟨.bl _, H, I', rfl, ?_⟩
      rw [l1.isSome k]
      exact fin_val h.2 sm
    · split at hb <;> cases hb
      rename_i kvs hm _ k hk
      obtain ⟨ob, us, e1, l1⟩ := sm _ _ hm
      have ex := key_rep hk r1
      subst ex
      obtain rfl : u = Value.ref _ := ry
      refine d_notIn (o := valV us k) (by omega) I (.inl ⟨us, k, .inr ⟨ob, e1⟩, rfl, rfl⟩) rx fun s' I' => ⟨.bl _, H, I', rfl, ?_⟩
      rw [l1.isSome k]
      exact fin_val h.2 sm
    · cases hb
  · cases hb
end
end PL

namespace PL
open PySem PySem.Spec PyProof.Rows L2

/-! names, constants -/
def dVar (i : Nat) : DE := fun env M Q _ => match env[i]? with
  | some (some d) => Q d M
  | _ => False
def dC (d : D) : DE := fun _ M Q _ => Q d M
theorem dC_mono {d : D} : MonoE (dC d) := fun _ _ _ _ _ _ hQ _ h => hQ _ _ h
section
variable {X : Cx} {W : WX} {pos : Pos}
theorem xe_var (i : Nat) {x : Str} (hN : X.N[i]? = some x := by rfl) (hv : Vis X.env.scope x := by first | exact Or.inl rfl | exact Or.inr (Or.inl rfl) | exact Or.inr (Or.inr rfl)) (hd : (x == ("__debug__" : Str)) = false := by decide)
    (hcd : (x == ("__classdict__" : Str)) = false := by decide) : XE X W (.Name x pos) (dVar i) := by
  refine ⟨fun env M Q Q' E E' hQ hE h => ?_, PEw (pe_var hN hv hd hcd) ?_⟩
  · unfold dVar at h ⊢
    split at h
    · exact hQ _ _ h
    · exact h
  · rintro σ H Q ⟨env, M, re, s, h⟩
    unfold dVar at h
    split at h
    · rename_i d e
      obtain ⟨u, h1, h2⟩ := re.2 i d e
      exact ⟨u, h1, fin_rep h s h2⟩
    · exact h.elim
theorem xe_const {e : Expr} {x : V} (h : PE X e (tC x)) : XE X W e (dC (.v x)) := by
  refine ⟨dC_mono, PEw h ?_⟩
  rintro σ H Q ⟨env, M, re, s, h⟩
  exact fin_val h s
theorem xe_int {i j} : XE X W (.Constant (.int i) j pos) (dC (.int i)) := xe_const pe_int
theorem xe_str {x j} : XE X W (.Constant (.str x) j pos) (dC (.str x)) := xe_const pe_str
theorem xe_bl {b j} : XE X W (.Constant (.bool b) j pos) (dC (.bl b)) := xe_const pe_bl
theorem xe_non {j} : XE X W (.Constant .none j pos) (dC .non) := xe_const pe_non
theorem xe_glob {x : Str} {v : V} {u : Value} (hg : Gl X x) (hm : X.mg x = some u) (r : RelV v u) (hd : (x == ("__debug__" : Str)) = false := by decide) : XE X W (.Name x pos) (dC (.v v)) := xe_const (pe_glob hg hm r hd)
theorem xe_bltn {x : Str} {v : V} {u : Value} (hg : Gl X x) (hm : X.mg x = none) (hv : bootBuiltins x = some u) (r : RelV v u) (hn : x ≠ "__name__" := by decide) (hd : (x == ("__debug__" : Str)) = false := by decide) : XE X W (.Name x pos) (dC (.v v)) :=
  xe_const (pe_bltn hg hm hv r hn hd)
/-- a constant tuple of the module -/
theorem xe_globT {x : Str} {a : Addr} {ds : List D} (hg : Gl X x) (hm : X.mg x = some (.ref a)) (r : ∀ H, RepD X.K H (.tup ds) (.ref a)) (hd : (x == ("__debug__" : Str)) = false := by decide) : XE X W (.Name x pos) (dC (.tup ds)) := by
  refine ⟨dC_mono, PEw (pe_glob (v := .ref a) hg hm rfl hd) ?_⟩
  rintro σ H Q ⟨env, M, re, s, h⟩
  exact fin_rep h s (r H)
end

/-! one-place operations, truth -/
def truth (M : Mem) : D → Option Bool
  | .v .non => some false
  | .v (.bl b) => some b
  | .v (.int i) => some (i != 0)
  | .v (.str x) => if x.length ≤ sizeLine then some ((x.length : Int) != 0) else none
  | .tup ds => some (!ds.isEmpty)
  | .v (.ref a) => match M a with
    | some (.lst ds) => some (!ds.isEmpty)
    | some (.rol ds) => some (!ds.isEmpty)
    | some (.dk kvs) => some (!kvs.isEmpty)
    | _ => none
  | _ => none
theorem RepL.isEmpty {K : PySem.W.Frag} {H : Hp} {ds : List D} {us : List V} (h : RepL K H ds us) : us.isEmpty = ds.isEmpty := by
  have := h.length
  cases ds <;> cases us <;> simp_all
theorem RepKV.length {κ : Type} {K : PySem.W.Frag} {H : Hp} : ∀ {kvs : List (κ × D)} {us : List (κ × V)}, RepKV K H kvs us → us.length = kvs.length
  | [], _, h => by unfold RepKV at h; rw [h]; rfl
  | (k, d) :: r, _, h => by
    obtain ⟨u, t, rfl, q, z⟩ := h
    simp [RepKV.length z]
theorem RepKV.isEmpty {κ : Type} {K : PySem.W.Frag} {H : Hp} {kvs : List (κ × D)} {us : List (κ × V)} (h : RepKV K H kvs us) : us.isEmpty = kvs.isEmpty := by
  have := h.length
  cases kvs <;> cases us <;> simp_all
theorem truth_v {K : PySem.W.Frag} {H : Hp} {M : Mem} (s : Sim K H M) {d : D} {u : V} {b : Bool} (r : RepD K H d u) (h : truth M d = some b) : TruV K u H b := by
  unfold truth at h
  split at h
  · cases h; rw [rep_v r]; rfl
  · cases h; rw [rep_v r]; rfl
  · cases h; rw [rep_v r]; rfl
  · split at h <;> cases h
    rw [rep_v r]
    exact ⟨by assumption, rfl⟩
  · cases h
    obtain ⟨a, us, rfl, q, l⟩ := rep_tup r
    exact .inr (.inl ⟨us, q, by rw [l.isEmpty]⟩)
  · rw [rep_v r]
    split at h
    · cases h
      rename_i hm
      obtain ⟨us, e, l⟩ := s _ _ hm
      exact .inl ⟨us, SqL.of e, by rw [l.isEmpty]⟩
    · cases h
      rename_i hm
      obtain ⟨o, us, e, l⟩ := s _ _ hm
      exact .inl ⟨us, .inl (.inr ⟨o, e⟩), by rw [l.isEmpty]⟩
    · cases h
      rename_i hm
      obtain ⟨us, e, l⟩ := s _ _ hm
      exact .inr (.inr ⟨us, e, by rw [l.isEmpty]⟩)
    · cases h
  · cases h

def dTruth (t : DE) : DT := fun env M Q E => t env M (fun d M1 => match truth M1 d with
  | some b => Q b M1
  | none => False) E
theorem dTruth_mono {t : DE} (h : MonoE t) : MonoT (dTruth t) := fun env M Q Q' E E' hQ hE => h env M _ _ _ _ (fun d M1 => by
  show (match truth M1 d with | some b => Q b M1 | none => False) → (match truth M1 d with | some b => Q' b M1 | none => False)
  cases truth M1 d with
  | none => exact id
  | some b => exact hQ b M1) hE
def dAnd (t u : DT) : DT := fun env M Q E => t env M (fun b M1 => if b = true then u env M1 Q E else Q false M1) E
def dOr (t u : DT) : DT := fun env M Q E => t env M (fun b M1 => if b = true then Q true M1 else u env M1 Q E) E
def dNot (t : DT) : DT := fun env M Q E => t env M (fun b M1 => Q (!b) M1) E
def dIf (t : DT) (ta tb : DE) : DE := fun env M Q E => t env M (fun b M1 => if b = true then ta env M1 Q E else tb env M1 Q E) E
def dAndV (ta tb : DE) : DE := fun env M Q E => ta env M (fun d M1 => match truth M1 d with
  | some true => tb env M1 Q E
  | some false => Q d M1
  | none => False) E
def dOrV (ta tb : DE) : DE := fun env M Q E => ta env M (fun d M1 => match truth M1 d with
  | some true => Q d M1
  | some false => tb env M1 Q E
  | none => False) E
def dNotV (ta : DE) : DE := fun env M Q E => ta env M (fun d M1 => match truth M1 d with
  | some b => Q (.bl (!b)) M1
  | none => False) E
theorem dAnd_mono {t u : DT} (h : MonoT t) (g : MonoT u) : MonoT (dAnd t u) := fun env M Q Q' E E' hQ hE => h env M _ _ _ _ (fun b M1 => by
  cases b with
  | true => rw [if_pos rfl, if_pos rfl]; exact g env M1 _ _ _ _ hQ hE
  | false => rw [if_neg Bool.false_ne_true, if_neg Bool.false_ne_true]; exact hQ false M1) hE
theorem dOr_mono {t u : DT} (h : MonoT t) (g : MonoT u) : MonoT (dOr t u) := fun env M Q Q' E E' hQ hE => h env M _ _ _ _ (fun b M1 => by
  cases b with
  | true => rw [if_pos rfl, if_pos rfl]; exact hQ true M1
  | false => rw [if_neg Bool.false_ne_true, if_neg Bool.false_ne_true]; exact g env M1 _ _ _ _ hQ hE) hE
theorem dNot_mono {t : DT} (h : MonoT t) : MonoT (dNot t) := fun env M Q Q' E E' hQ hE => h env M _ _ _ _ (fun b M1 => hQ (!b) M1) hE
theorem dIf_mono {t : DT} {ta tb : DE} (h : MonoT t) (ha : MonoE ta) (hb : MonoE tb) : MonoE (dIf t ta tb) := fun env M Q Q' E E' hQ hE => h env M _ _ _ _ (fun b M1 => by
  cases b with
  | true => rw [if_pos rfl, if_pos rfl]; exact ha env M1 _ _ _ _ hQ hE
  | false => rw [if_neg Bool.false_ne_true, if_neg Bool.false_ne_true]; exact hb env M1 _ _ _ _ hQ hE) hE
theorem dAndV_mono {ta tb : DE} (ha : MonoE ta) (hb : MonoE tb) : MonoE (dAndV ta tb) := fun env M Q Q' E E' hQ hE => ha env M _ _ _ _ (fun d M1 => by
  show (match truth M1 d with | some true => tb env M1 Q E | some false => Q d M1 | none => False) → (match truth M1 d with | some true => tb env M1 Q' E' | some false => Q' d M1 | none => False)
  cases truth M1 d with
  | none => exact id
  | some b => cases b with
    | true => exact hb env M1 _ _ _ _ hQ hE
    | false => exact hQ d M1) hE
theorem dOrV_mono {ta tb : DE} (ha : MonoE ta) (hb : MonoE tb) : MonoE (dOrV ta tb) := fun env M Q Q' E E' hQ hE => ha env M _ _ _ _ (fun d M1 => by
  show (match truth M1 d with | some true => Q d M1 | some false => tb env M1 Q E | none => False) → (match truth M1 d with | some true => Q' d M1 | some false => tb env M1 Q' E' | none => False)
  cases truth M1 d with
  | none => exact id
  | some b => cases b with
    | true => exact hQ d M1
    | false => exact hb env M1 _ _ _ _ hQ hE) hE
theorem dNotV_mono {ta : DE} (ha : MonoE ta) : MonoE (dNotV ta) := fun env M Q Q' E E' hQ hE => ha env M _ _ _ _ (fun d M1 => by
  show (match truth M1 d with | some b => Q (.bl (!b)) M1 | none => False) → (match truth M1 d with | some b => Q' (.bl (!b)) M1 | none => False)
  cases truth M1 d with
  | none => exact id
  | some b => exact hQ _ M1) hE

section
variable {X : Cx} {W : WX} {a b c : Expr} {rest : List Expr} {ta tb : DE} {t u : DT} {pos : Pos}
/-- a test by its value's truth -/
theorem xt_val (h : XE X W a ta) (he : ∀ whole, isTrue a X.env whole = (do let v ← whole; standAt a.pos; holding [v] (truthy v)) := by intro _; rfl) : XT X W a (dTruth ta) := by
  refine ⟨dTruth_mono h.mono, PTw (pt_truth h.pe he) ?_⟩
  rintro σ H Q ⟨env, M, re, s, q⟩
  refine stepE h.mono re s q (fun d M1 u H1 e1 s1 re1 r1 h1 => ?_) fun _ _ _ z => z
  show ∃ k, _
  split at h1
  · rename_i b hb
    exact ⟨b, truth_v s1 r1 hb, h1 H1 e1 s1⟩
  · exact h1.elim
theorem xt_cmp {op : CmpOp} {r : DOp2} (ho : XOp X (compareOp op) r) (ha : XE X W a ta) (hb : XE X W b tb) (hm : behindInMarks op b = false)
    (hB : ∀ x y M Q, (r x y M).run M Q → (r x y M).run M fun d M' => (∃ k, d = .bl k) ∧ Q d M') : XT X W (.Compare a [op] [b] pos) (dTruth (dBin r ta tb)) := by
  refine ⟨dTruth_mono (dBin_mono ha.mono hb.mono), PTw (pt_cmpR ho ha.pe hb.pe hm) ?_⟩
  rintro σ H Q ⟨env, M, re, s, q⟩
  have q' : dBin r ta tb env M (fun d M1 => (∃ k, d = D.bl k) ∧ match truth M1 d with
      | some b => ∀ H', Ext X.K H H' → Sim X.K H' M1 → Q b H'
      | none => False) (upX X.K W H σ) := ha.mono env M _ _ _ _ (fun x M1 h1 => hb.mono env M1 _ _ _ _ (fun y M2 h2 => hB _ _ _ _ h2) (fun _ _ _ z => z) h1) (fun _ _ _ z => z) q
  show tOp _ _ _ _ _ _
  refine bin_up ha hb (fun _ _ _ _ h => h) σ H _ ⟨env, M, re, s, dBin_mono ha.mono hb.mono env M _ _ _ _ (fun d M1 h1 u H1 e1 s1 r1 => ?_) (fun _ _ _ z => z) q'⟩
  obtain ⟨⟨k, rfl⟩, h1⟩ := h1
  rw [rep_v r1]
  exact ⟨k, rfl, h1 H1 e1 s1⟩
theorem bl_eq : ∀ x y M Q, (opEq x y M).run M Q → (opEq x y M).run M fun d M' => (∃ k, d = .bl k) ∧ Q d M' := fun x y M Q h => by
  unfold opEq at h ⊢
  split at h
  · exact ⟨h.1, ⟨_, rfl⟩, h.2⟩
  · exact h.elim
theorem bl_ne : ∀ x y M Q, (opNe x y M).run M Q → (opNe x y M).run M fun d M' => (∃ k, d = .bl k) ∧ Q d M' := fun x y M Q h => by
  unfold opNe at h ⊢
  split at h
  · exact ⟨h.1, ⟨_, rfl⟩, h.2⟩
  · exact h.elim
theorem bl_lt : ∀ x y M Q, (opLt x y M).run M Q → (opLt x y M).run M fun d M' => (∃ k, d = .bl k) ∧ Q d M' := fun x y M Q h => by
  unfold opLt at h ⊢
  split at h <;> first | exact h.elim | exact ⟨h.1, ⟨_, rfl⟩, h.2⟩
theorem bl_le : ∀ x y M Q, (opLe x y M).run M Q → (opLe x y M).run M fun d M' => (∃ k, d = .bl k) ∧ Q d M' := fun x y M Q h => by
  unfold opLe at h ⊢
  split at h <;> first | exact h.elim | exact ⟨h.1, ⟨_, rfl⟩, h.2⟩
theorem bl_gt : ∀ x y M Q, (opGt x y M).run M Q → (opGt x y M).run M fun d M' => (∃ k, d = .bl k) ∧ Q d M' := fun x y M Q h => by
  unfold opGt at h ⊢
  split at h <;> first | exact h.elim | exact ⟨h.1, ⟨_, rfl⟩, h.2⟩
theorem bl_ge : ∀ x y M Q, (opGe x y M).run M Q → (opGe x y M).run M fun d M' => (∃ k, d = .bl k) ∧ Q d M' := fun x y M Q h => by
  unfold opGe at h ⊢
  split at h <;> first | exact h.elim | exact ⟨h.1, ⟨_, rfl⟩, h.2⟩
theorem bl_is : ∀ x y M Q, (opIs x y M).run M Q → (opIs x y M).run M fun d M' => (∃ k, d = .bl k) ∧ Q d M' := fun x y M Q h => by
  unfold opIs at h ⊢
  split at h <;> first | exact h.elim | exact ⟨h.1, ⟨_, rfl⟩, h.2⟩
theorem bl_isnot : ∀ x y M Q, (opIsNot x y M).run M Q → (opIsNot x y M).run M fun d M' => (∃ k, d = .bl k) ∧ Q d M' := fun x y M Q h => by
  unfold opIsNot at h ⊢
  split at h <;> first | exact h.elim | exact ⟨h.1, ⟨_, rfl⟩, h.2⟩
theorem bl_in : ∀ x y M Q, (opIn x y M).run M Q → (opIn x y M).run M fun d M' => (∃ k, d = .bl k) ∧ Q d M' := fun x y M Q h => by
  unfold opIn at h ⊢
  split at h
  · exact ⟨h.1, ⟨_, rfl⟩, h.2⟩
  · exact h.elim
theorem bl_notin : ∀ x y M Q, (opNotIn x y M).run M Q → (opNotIn x y M).run M fun d M' => (∃ k, d = .bl k) ∧ Q d M' := fun x y M Q h => by
  unfold opNotIn at h ⊢
  split at h
  · exact ⟨h.1, ⟨_, rfl⟩, h.2⟩
  · exact h.elim
theorem stepB {K : PySem.W.Frag} {t : DT} {σ : L2.St} {H : Hp} {env : DEnv} {M : Mem} {Q : Bool → Hp → Prop} (re : RepE K H env σ) (s : Sim K H M) (h : t env M (fun b M' => ∀ H', Ext K H H' → Sim K H' M' → Q b H') (upX K W H σ)) : liftT K W t σ H Q := ⟨env, M, re, s, h⟩
theorem xt_wh (h : XW X W a t) : XT X W a t := ⟨h.mono, h.pw.pt⟩
theorem xw_and1 (h : XT X W a t) : XW X W (.BoolOp .And [a] pos) t := ⟨h.mono, pw_and1 h.pt⟩
theorem xw_or1 (h : XT X W a t) : XW X W (.BoolOp .Or [a] pos) t := ⟨h.mono, pw_or1 h.pt⟩
theorem upT_mono {K : PySem.W.Frag} {H H1 : Hp} {Q : Bool → Hp → Prop} (e : Ext K H H1) : ∀ b M1, (∀ H', Ext K H H' → Sim K H' M1 → Q b H') → ∀ H', Ext K H1 H' → Sim K H' M1 → Q b H' := fun b M1 q H' e' s => q H' (e.trans e') s
theorem xw_and (ha : XT X W a t) (hb : XW X W (.BoolOp .And (b :: rest) pos) u) : XW X W (.BoolOp .And (a :: b :: rest) pos) (dAnd t u) := by
  refine ⟨dAnd_mono ha.mono hb.mono, PWw (pw_and ha.pt hb.pw) ?_⟩
  rintro σ H Q ⟨env, M, re, s, h⟩
  refine stepT ha.mono re s h (fun c M1 H1 e1 s1 re1 h1 => ?_) fun _ _ _ z => z
  cases c with
  | true =>
    rw [if_pos rfl] at h1 ⊢
    exact stepB re1 s1 (hb.mono _ _ _ _ _ _ (upT_mono e1) (upX_mono e1) h1)
  | false =>
    rw [if_neg Bool.false_ne_true] at h1 ⊢
    exact h1 H1 e1 s1
theorem xw_or (ha : XT X W a t) (hb : XW X W (.BoolOp .Or (b :: rest) pos) u) : XW X W (.BoolOp .Or (a :: b :: rest) pos) (dOr t u) := by
  refine ⟨dOr_mono ha.mono hb.mono, PWw (pw_or ha.pt hb.pw) ?_⟩
  rintro σ H Q ⟨env, M, re, s, h⟩
  refine stepT ha.mono re s h (fun c M1 H1 e1 s1 re1 h1 => ?_) fun _ _ _ z => z
  cases c with
  | true =>
    rw [if_pos rfl] at h1 ⊢
    exact h1 H1 e1 s1
  | false =>
    rw [if_neg Bool.false_ne_true] at h1 ⊢
    exact stepB re1 s1 (hb.mono _ _ _ _ _ _ (upT_mono e1) (upX_mono e1) h1)
theorem xt_not (ha : XT X W a t) : XT X W (.UnaryOp .Not a pos) (dNot t) := by
  refine ⟨dNot_mono ha.mono, PTw (pt_not ha.pt) ?_⟩
  rintro σ H Q ⟨env, M, re, s, h⟩
  exact stepT ha.mono re s h (fun c M1 H1 e1 s1 re1 h1 => h1 H1 e1 s1) fun _ _ _ z => z
theorem xe_if (hc : XT X W c t) (ha : XE X W a ta) (hb : XE X W b tb) : XE X W (.IfExp c a b pos) (dIf t ta tb) := by
  refine ⟨dIf_mono hc.mono ha.mono hb.mono, PEw (pe_ifExp hc.pt ha.pe hb.pe) ?_⟩
  rintro σ H Q ⟨env, M, re, s, h⟩
  refine stepT hc.mono re s h (fun c M1 H1 e1 s1 re1 h1 => ?_) fun _ _ _ z => z
  cases c with
  | true =>
    rw [if_pos rfl] at h1 ⊢
    exact ⟨env, M1, re1, s1, ha.mono _ _ _ _ _ _ (upK_mono e1) (upX_mono e1) h1⟩
  | false =>
    rw [if_neg Bool.false_ne_true] at h1 ⊢
    exact ⟨env, M1, re1, s1, hb.mono _ _ _ _ _ _ (upK_mono e1) (upX_mono e1) h1⟩
theorem xe_one {op} (h : XE X W a ta) : XE X W (.BoolOp op [a] pos) ta := ⟨h.mono, pe_one h.pe⟩
theorem xe_and (ha : XE X W a ta) (hb : XE X W (.BoolOp .And (b :: rest) pos) tb) : XE X W (.BoolOp .And (a :: b :: rest) pos) (dAndV ta tb) := by
  refine ⟨dAndV_mono ha.mono hb.mono, PEw (pe_andT ha.pe hb.pe) ?_⟩
  rintro σ H Q ⟨env, M, re, s, h⟩
  refine stepE ha.mono re s h (fun d M1 u H1 e1 s1 re1 r1 h1 => ?_) fun _ _ _ z => z
  split at h1
  · rename_i hb'
    refine ⟨true, truth_v s1 r1 hb', ?_⟩
    rw [if_pos rfl]
    exact ⟨env, M1, re1, s1, hb.mono _ _ _ _ _ _ (upK_mono e1) (upX_mono e1) h1⟩
  · rename_i hb'
    refine ⟨false, truth_v s1 r1 hb', ?_⟩
    rw [if_neg Bool.false_ne_true]
    exact h1 u H1 e1 s1 r1
  · exact h1.elim
theorem xe_or (ha : XE X W a ta) (hb : XE X W (.BoolOp .Or (b :: rest) pos) tb) : XE X W (.BoolOp .Or (a :: b :: rest) pos) (dOrV ta tb) := by
  refine ⟨dOrV_mono ha.mono hb.mono, PEw (pe_orT ha.pe hb.pe) ?_⟩
  rintro σ H Q ⟨env, M, re, s, h⟩
  refine stepE ha.mono re s h (fun d M1 u H1 e1 s1 re1 r1 h1 => ?_) fun _ _ _ z => z
  split at h1
  · rename_i hb'
    refine ⟨true, truth_v s1 r1 hb', ?_⟩
    rw [if_pos rfl]
    exact h1 u H1 e1 s1 r1
  · rename_i hb'
    refine ⟨false, truth_v s1 r1 hb', ?_⟩
    rw [if_neg Bool.false_ne_true]
    exact ⟨env, M1, re1, s1, hb.mono _ _ _ _ _ _ (upK_mono e1) (upX_mono e1) h1⟩
  · exact h1.elim
theorem xe_not (ha : XE X W a ta) : XE X W (.UnaryOp .Not a pos) (dNotV ta) := by
  refine ⟨dNotV_mono ha.mono, PEw (pe_notT ha.pe) ?_⟩
  rintro σ H Q ⟨env, M, re, s, h⟩
  refine stepE ha.mono re s h (fun d M1 u H1 e1 s1 re1 r1 h1 => ?_) fun _ _ _ z => z
  split at h1
  · rename_i b hb'
    exact ⟨b, truth_v s1 r1 hb', fin_val (fun u H' e s' r => h1 u H' (e1.trans e) s' r) s1⟩
  · exact h1.elim
end

/-! -x -/
def dNeg (ta : DE) : DE := fun env M Q E => ta env M (fun d M1 => match d with
  | .v (.int i) => Q (.int (-i)) M1
  | _ => False) E
theorem xe_neg {X : Cx} {W : WX} {a : Expr} {ta : DE} {pos : Pos} (ha : XE X W a ta) : XE X W (.UnaryOp .USub a pos) (dNeg ta) := by
  refine ⟨fun env M Q Q' E E' hQ hE => ha.mono env M _ _ _ _ (fun d M1 => ?_) hE, PEw (pe_un un_neg ha.pe) ?_⟩
  · cases d with
    | tup _ => exact id
    | v x => cases x <;> first | exact id | exact hQ _ _
  · rintro σ H Q ⟨env, M, re, s, h⟩
    refine stepE ha.mono re s h (fun d M1 u H1 e1 s1 re1 r1 h1 => ?_) fun _ _ _ z => z
    split at h1
    · rw [rep_v r1]
      exact ⟨_, rfl, fin_val (fun u H' e s' r => h1 u H' (e1.trans e) s' r) s1⟩
    · exact h1.elim

/-! argument lists, displays -/
def dNil : DA := fun _ M Q _ => Q [] M
def dCons (ta : DE) (tr : DA) : DA := fun env M Q E => ta env M (fun d M1 => tr env M1 (fun ds M2 => Q (d :: ds) M2) E) E
theorem dCons_mono {ta : DE} {tr : DA} (h : MonoE ta) (g : MonoA tr) : MonoA (dCons ta tr) := fun env M Q Q' E E' hQ hE =>
  h env M _ _ _ _ (fun d M1 => g env M1 _ _ _ _ (fun ds M2 => hQ (d :: ds) M2) hE) hE
theorem upA_mono {K : PySem.W.Frag} {H H1 : Hp} {Q : List V → Hp → Prop} (e : Ext K H H1) : ∀ ds M1, (∀ us H', Ext K H H' → Sim K H' M1 → RepL K H' ds us → Q us H') → ∀ us H', Ext K H1 H' → Sim K H' M1 → RepL K H' ds us → Q us H' :=
  fun ds M1 q us H' e' s r => q us H' (e.trans e') s r
section
variable {X : Cx} {W : WX} {e : Expr} {es : List Expr} {te : DE} {t : DA} {pos : Pos}
theorem xa_nil : XA X W [] dNil := by
  refine ⟨fun _ _ _ _ _ _ hQ _ h => hQ _ _ h, PAw pa_nil ?_⟩
  rintro σ H Q ⟨env, M, re, s, h⟩
  exact h [] H Ext.refl s .nil
theorem xa_cons (ha : XE X W e te) (hr : XA X W es t) (hs : starEach (e :: es) X.env = (false, eval e X.env) :: starEach es X.env := by rfl) : XA X W (e :: es) (dCons te t) := by
  refine ⟨dCons_mono ha.mono hr.mono, PAw (pa_cons ha.pe hr.pa hs) ?_⟩
  rintro σ H Q ⟨env, M, re, s, h⟩
  refine stepE ha.mono re s h (fun d M1 u H1 e1 s1 re1 r1 h1 => ?_) fun _ _ _ z => z
  refine stepA hr.mono re1 s1 h1 (fun ds M2 us H2 e2 s2 re2 r2 h2 => ?_) (upX_mono e1)
  exact h2 (u :: us) H2 (e1.trans e2) s2 (.cons (RepD.mono e2 _ r1) r2)
def dTup (n : Nat) (t : DA) : DE := fun env M Q E => t env M (fun ds M1 => ds.length = n ∧ Q (.tup ds) M1) E
def dLst (n : Nat) (t : DA) : DE := fun env M Q E => t env M (fun ds M1 => ds.length = n ∧ ∀ p, M1 p = none → Q (.ob p) (mupd M1 p (.lst ds))) E
theorem xe_tup {x1} {n : Nat} (h : XA X W es t) (hn : n ≤ sizeLine := by decide) : XE X W (.Tuple es x1 pos) (dTup n t) := by
  refine ⟨fun env M Q Q' E E' hQ hE => h.mono env M _ _ _ _ (fun ds M1 q => ⟨q.1, hQ _ _ q.2⟩) hE, PEw (pe_tup h.pa) ?_⟩
  rintro σ H Q ⟨env, M, re, s, q⟩
  refine stepA h.mono re s q (fun ds M1 us H1 e1 s1 re1 r1 h1 => ?_) fun _ _ _ z => z
  exact ⟨by rw [r1.length, h1.1]; exact hn, fun p hp => fin_tup (upK_mono e1 _ _ h1.2) s1 hp r1⟩
theorem xe_lst {n : Nat} (h : XA X W es t) (hn : n ≤ sizeLine := by decide) : XE X W (.List es pos) (dLst n t) := by
  refine ⟨fun env M Q Q' E E' hQ hE => h.mono env M _ _ _ _ (fun ds M1 q => ⟨q.1, fun p hp => hQ _ _ (q.2 p hp)⟩) hE, PEw (pe_lst h.pa) ?_⟩
  rintro σ H Q ⟨env, M, re, s, q⟩
  refine stepA h.mono re s q (fun ds M1 us H1 e1 s1 re1 r1 h1 => ?_) fun _ _ _ z => z
  exact ⟨by rw [r1.length, h1.1]; exact hn, fun p hp => fin_lst (fun p hp => upK_mono e1 _ _ (h1.2 p hp)) s1 hp r1⟩
end

/-! subscripts -/
def opIx : DOp2
  | .tup ds, .v (.int i), _ => match atI ds i with
    | some d => .val True d
    | none => .bad
  | .v (.str z), .v (.int i), _ => match atI z.cps.toList i with
    | some c => .val (z.length ≤ sizeLine) (.str ⟨#[c]⟩)
    | none => .bad
  | .v (.ref a), y, M => match M a with
    | some (.lst ds) => match y with
      | .v (.int i) => match atI ds i with
        | some d => .val True d
        | none => .bad
      | _ => .bad
    | some (.rol ds) => match y with
      | .v (.int i) => match atI ds i with
        | some d => .val True d
        | none => .bad
      | _ => .bad
    | some (.dk kvs) => match y.key with
      | some k => match look kvs k with
        | some d => .val True d
        | none => .bad
      | none => .bad
    | some (.rdk kvs) => match y.key with
      | some k => match look kvs k with
        | some d => .val True d
        | none => .bad
      | none => .bad
    | _ => .bad
  | _, _, _ => .bad
theorem RepL.atI {K : PySem.W.Frag} {H : Hp} {ds : List D} {us : List V} {i : Int} {d : D} (r : RepL K H ds us) (h : L2.atI ds i = some d) : ∃ u, L2.atI us i = some u ∧ RepD K H d u := by
  unfold L2.atI at h ⊢
  rw [r.length]
  cases q : ixN ds.length i with
  | none => rw [q] at h; cases h
  | some j =>
    rw [q] at h
    exact r.get h
section
variable {X : Cx}
theorem ix_dict (hu : X.A.units + 200 < cLine) : IxR X (fun x y H Q => ∃ a kvs k v, x = .ref a ∧ Rd H a (.dK kvs) ∧ y = kV k ∧ valV kvs k = some v ∧ Q v H) := by
  intro value slice pins s σ H x y v u Q I rx ry h hs
  obtain ⟨a, kvs, k, w', rfl, e, rfl, ev, q⟩ := h
  obtain rfl : v = Value.ref a := rx
  have g : DGet H a (kV k) (some w') := .inl ⟨kvs, k, e, rfl, ev.symm⟩
  exact tail_any (dict_typeIs I g) PySem.F.slot_dict_getitem.lookup (d_getItem (by omega) I g ry fun w2 s3 I3 rw' => ⟨w', H, I3, rw', q⟩) hs
theorem x_ix (hu : X.A.units + 200 < cLine) : IxR X (upR2 X.K opIx) := by
  rintro value slice pins s σ H x y v u Q I rx ry ⟨dx, dy, M, r1, r2, sm, h⟩ hs
  unfold opIx at h
  split at h <;> first | exact h.elim | skip
  · split at h <;> first | exact h.elim | skip
    rename_i d hd
    obtain ⟨a, us, rfl, q1, l1⟩ := rep_tup r1
    obtain ⟨w', e1, e2⟩ := l1.atI hd
    rw [rep_v r2] at ry
    exact ix_tup value slice pins s σ H _ _ v u Q I rx ry ⟨_, _, _, _, rfl, rfl, q1, e1, fin_rep h.2 sm e2⟩ hs
  · split at h <;> first | exact h.elim | skip
    rename_i c hc
    rw [rep_v r1] at rx; rw [rep_v r2] at ry
    exact ix_str value slice pins s σ H _ _ v u Q I rx ry ⟨_, _, _, rfl, rfl, h.1, hc, fin_val h.2 sm⟩ hs
  · rw [rep_v r1] at rx
    split at h <;> first | exact h.elim | skip
    · rename_i ds hm
      split at h <;> first | exact h.elim | skip
      split at h <;> first | exact h.elim | skip
      rename_i d hd
      obtain ⟨us, q1, l1⟩ := sm.seq (.inl hm)
      obtain ⟨w', e1, e2⟩ := l1.atI hd
      rw [rep_v r2] at ry
      exact ix_list value slice pins s σ H _ _ v u Q I rx ry ⟨_, _, _, _, rfl, rfl, q1, e1, fin_rep h.2 sm e2⟩ hs
    · rename_i ds hm
      split at h <;> first | exact h.elim | skip
      split at h <;> first | exact h.elim | skip
      rename_i d hd
      obtain ⟨us, q1, l1⟩ := sm.seq (.inr hm)
      obtain ⟨w', e1, e2⟩ := l1.atI hd
      rw [rep_v r2] at ry
      exact ix_list value slice pins s σ H _ _ v u Q I rx ry ⟨_, _, _, _, rfl, rfl, q1, e1, fin_rep h.2 sm e2⟩ hs
    · rename_i kvs hm
      split at h <;> first | exact h.elim | skip
      rename_i k hk
      split at h <;> first | exact h.elim | skip
      rename_i d hd
      obtain ⟨us, q1, l1⟩ := sm _ _ hm
      have hl := l1.look k
      rw [hd] at hl
      have ey := key_rep hk r2
      subst ey
      cases hv : valV us k with
      | none => rw [hv] at hl; exact hl.elim
      | some w' =>
        rw [hv] at hl
        exact ix_dict hu value slice pins s σ H _ _ v u Q I rx ry ⟨_, _, _, _, rfl, .inl q1, rfl, hv, fin_rep h.2 sm hl⟩ hs
    · rename_i kvs hm
      split at h <;> first | exact h.elim | skip
      rename_i k hk
      split at h <;> first | exact h.elim | skip
      rename_i d hd
      obtain ⟨ob, us, q1, l1⟩ := sm _ _ hm
      have hl := l1.look k
      rw [hd] at hl
      have ey := key_rep hk r2
      subst ey
      cases hv : valV us k with
      | none => rw [hv] at hl; exact hl.elim
      | some w' =>
        rw [hv] at hl
        exact ix_dict hu value slice pins s σ H _ _ v u Q I rx ry ⟨_, _, _, _, rfl, .inr ⟨ob, q1⟩, rfl, hv, fin_rep h.2 sm hl⟩ hs
theorem xe_ix {W : WX} {a b : Expr} {ta tb : DE} {pos : Pos} (hu : X.A.units + 200 < cLine) (ha : XE X W a ta) (hb : XE X W b tb) (hs : PlainIx b := by intro _ _; rfl) : XE X W (.Subscript a b pos) (dBin opIx ta tb) :=
  ⟨dBin_mono ha.mono hb.mono, PEw (pe_ix (x_ix hu) ha.pe hb.pe hs) (bin_up ha hb fun _ _ _ _ h => h)⟩
end

/-! slices -/
abbrev DO := DEnv → Mem → (Option Int → Mem → Prop) → DX → Prop
def dNoPart : DO := fun _ M Q _ => Q none M
def dPart (t : DE) : DO := fun env M Q E => t env M (fun d M1 => match d with
  | .v (.int i) => Q (some i) M1
  | _ => False) E
def MonoO (t : DO) : Prop := ∀ env M (Q Q' : Option Int → Mem → Prop) (E E' : DX), (∀ d M, Q d M → Q' d M) → (∀ c f M, E c f M → E' c f M) → t env M Q E → t env M Q' E'
def liftO (K : PySem.W.Frag) (W : WX) (t : DO) : TO := fun σ H Q => ∃ env M, RepE K H env σ ∧ Sim K H M ∧ t env M (fun b M' => ∀ H', Ext K H H' → Sim K H' M' → Q b H') (upX K W H σ)
structure XO (X : Cx) (W : WX) (e : Option Expr) (t : DO) : Prop where
  mono : MonoO t
  po : PO X e (liftO X.K W t)
theorem POw {X : Cx} {e : Option Expr} {t t' : TO} (h : PO X e t) (w : ∀ σ H Q, t' σ H Q → t σ H Q) : PO X e t' := ⟨fun pins s σ H Q I q => h.run pins s σ H Q I (w σ H Q q)⟩
def cutD {α : Type} (xs : List α) (lo hi : Option Int) : List α := (xs.drop (HT.sIx xs.length 0 lo)).take (HT.sIx xs.length xs.length hi - HT.sIx xs.length 0 lo)
theorem RepL.cut {K : PySem.W.Frag} {H : Hp} {ds : List D} {us : List V} (r : RepL K H ds us) (lo hi : Option Int) : RepL K H (cutD ds lo hi) (cutV us lo hi) := by
  unfold cutD cutV
  rw [r.length]
  exact (r.drop _).take _
def opSl : D → Option Int → Option Int → Mem → Res
  | .tup ds, lo, hi, _ => .val True (.tup (cutD ds lo hi))
  | .v (.str z), lo, hi, _ => .val (z.length ≤ sizeLine) (.str (cutS z lo hi))
  | .v (.ref a), lo, hi, M => match M a with
    | some (.lst ds) => .new True (.lst (cutD ds lo hi))
    | some (.rol ds) => .new True (.lst (cutD ds lo hi))
    | _ => .bad
  | _, _, _, _ => .bad
def dSl (ta : DE) (tl th : DO) : DE := fun env M Q E => ta env M (fun x M1 => tl env M1 (fun l M2 => th env M2 (fun u M3 => (opSl x l u M3).run M3 Q) E) E) E
section
variable {X : Cx} {W : WX} {e : Expr} {lo hi : Option Expr} {te : DE} {tl th : DO} {pos p2 : Pos}
theorem xo_none : XO X W none dNoPart := by
  refine ⟨fun _ _ _ _ _ _ hQ _ h => hQ _ _ h, POw po_none ?_⟩
  rintro σ H Q ⟨env, M, re, s, h⟩
  exact h H Ext.refl s
theorem xo_some (h : XE X W e te) : XO X W (some e) (dPart te) := by
  refine ⟨fun env M Q Q' E E' hQ hE => h.mono env M _ _ _ _ (fun d M1 => ?_) hE, POw (po_some h.pe) ?_⟩
  · cases d with
    | tup _ => exact id
    | v x => cases x <;> first | exact id | exact hQ _ _
  · rintro σ H Q ⟨env, M, re, s, q⟩
    refine stepE h.mono re s q (fun d M1 u H1 e1 s1 re1 r1 h1 => ?_) fun _ _ _ z => z
    split at h1
    · rw [rep_v r1]
      exact ⟨_, rfl, h1 H1 e1 s1⟩
    · exact h1.elim
theorem stepO {K : PySem.W.Frag} {t : DO} (m : MonoO t) {σ : L2.St} {H : Hp} {env : DEnv} {M : Mem} {P : Option Int → Hp → Prop} {Q : Option Int → Mem → Prop} {E : DX} (re : RepE K H env σ) (s : Sim K H M) (h : t env M Q E)
    (hq : ∀ d M1 H1, Ext K H H1 → Sim K H1 M1 → RepE K H1 env σ → Q d M1 → P d H1) (he : ∀ c f M1, E c f M1 → upX K W H σ c f M1) : liftO K W t σ H P :=
  ⟨env, M, re, s, m env M _ _ _ _ (fun d M1 q H1 e1 s1 => hq d M1 H1 e1 s1 (re.mono e1) q) he h⟩
theorem x_sl : SlR X (fun x lo hi H Q => ∃ dx M, RepD X.K H dx x ∧ Sim X.K H M ∧ (opSl dx lo hi M).run M (upK X.K H Q)) := by
  rintro pins s σ H x v vl vu lo hi sl Q I rx hs pl pu ⟨dx, M, r1, sm, h⟩
  unfold opSl at h
  split at h <;> first | exact h.elim | skip
  · rename_i ds
    obtain ⟨a, us, rfl, q1, l1⟩ := rep_tup r1
    refine sl_tupA pins s σ H _ v vl vu _ _ sl Q I rx hs pl pu ⟨a, us, rfl, q1, fun hw => ?_, fun _ p hp => fin_tup h.2 sm hp (l1.cut _ _)⟩
    refine fin_rep h.2 sm ?_
    have e : cutD ds lo hi = ds := by
      unfold cutD
      rw [← l1.length, hw.1, hw.2, l1.length]
      simp
    rw [e]
    exact r1
  · rw [rep_v r1] at rx
    exact sl_str pins s σ H _ v vl vu _ _ sl Q I rx hs pl pu ⟨_, rfl, h.1, fin_val h.2 sm⟩
  · rw [rep_v r1] at rx
    split at h <;> first | exact h.elim | skip
    · rename_i hm
      obtain ⟨us, q1, l1⟩ := sm.seq (.inl hm)
      exact sl_list pins s σ H _ v vl vu _ _ sl Q I rx hs pl pu ⟨_, us, rfl, q1, fun p hp => fin_lst h.2 sm hp (l1.cut _ _)⟩
    · rename_i hm
      obtain ⟨us, q1, l1⟩ := sm.seq (.inr hm)
      exact sl_list pins s σ H _ v vl vu _ _ sl Q I rx hs pl pu ⟨_, us, rfl, q1, fun p hp => fin_lst h.2 sm hp (l1.cut _ _)⟩
theorem xe_sl (he : XE X W e te) (hl : XO X W lo tl) (hh : XO X W hi th) : XE X W (.Subscript e (.Slice lo hi none p2) pos) (dSl te tl th) := by
  refine ⟨fun env M Q Q' E E' hQ hE => he.mono env M _ _ _ _ (fun d M1 => hl.mono env M1 _ _ _ _ (fun l M2 => hh.mono env M2 _ _ _ _ (fun u M3 => Res.mono hQ) hE) hE) hE, PEw (pe_slice x_sl he.pe hl.po hh.po) ?_⟩
  rintro σ H Q ⟨env, M, re, s, h⟩
  refine stepE he.mono re s h (fun d M1 u H1 e1 s1 re1 r1 h1 => ?_) fun _ _ _ z => z
  refine stepO hl.mono re1 s1 h1 (fun l M2 H2 e2 s2 re2 h2 => ?_) (upX_mono e1)
  refine stepO hh.mono re2 s2 h2 (fun h M3 H3 e3 s3 re3 h3 => ?_) (upX_mono (e1.trans e2))
  exact ⟨d, M3, RepD.mono (e2.trans e3) _ r1, s3, Res.mono (upK_mono ((e1.trans e2).trans e3)) h3⟩
/-- xs[::-1] of a list -/
def dRev (te : DE) : DE := fun env M Q E => te env M (fun d M1 => match d with
  | .v (.ref a) => match M1 a with
    | some (.lst ds) => ∀ p, M1 p = none → Q (.ob p) (mupd M1 p (.lst ds.reverse))
    | _ => False
  | _ => False) E
theorem RepL.reverse {K : PySem.W.Frag} {H : Hp} : ∀ {ds : List D} {us : List V}, RepL K H ds us → RepL K H ds.reverse us.reverse
  | [], _, h => by unfold RepL at h; subst h; exact .nil
  | d :: ds, _, h => by
    unfold RepL at h
    obtain ⟨u, r, rfl, q, t⟩ := h
    rw [List.reverse_cons, List.reverse_cons]
    exact RepL.append (RepL.reverse t) (.cons q .nil)
theorem xe_rev {k : Nat} {p1 p2 p3 : Pos} (he : XE X W e te) : XE X W (.Subscript e (.Slice none none (some (.UnaryOp .USub (.Constant (.int 1) k p1) p2)) p3) pos) (dRev te) := by
  refine ⟨fun env M Q Q' E E' hQ hE => he.mono env M _ _ _ _ (fun d M1 => ?_) hE, PEw (pe_revL he.pe) ?_⟩
  · cases d with
    | tup _ => exact id
    | v x => cases x with
      | ref a =>
        dsimp only
        cases M1 a with
        | none => exact id
        | some o => cases o <;> first | exact id | exact fun h p hp => hQ _ _ (h p hp)
      | _ => exact id
  · rintro σ H Q ⟨env, M, re, s, h⟩
    refine stepE he.mono re s h (fun d M1 u H1 e1 s1 re1 r1 h1 => ?_) fun _ _ _ z => z
    split at h1 <;> first | exact h1.elim | skip
    split at h1 <;> first | exact h1.elim | skip
    rename_i ds hm
    obtain ⟨us, q1, l1⟩ := s1.lst hm
    rw [rep_v r1]
    exact ⟨_, us, rfl, SqL.of q1, fun p hp => fin_lst (fun p hp => upK_mono e1 _ _ (h1 p hp)) s1 hp l1.reverse⟩
end
end PL

namespace PL
open PySem PySem.Spec PyProof.Rows L2

/-! built-ins by values -/
abbrev DCall := List D → Mem → Res
def upCall (K : PySem.W.Frag) (r : DCall) : List V → Hp → VK → Prop := fun xs H Q => ∃ ds M, RepL K H ds xs ∧ Sim K H M ∧ (r ds M).run M (upK K H Q)
def dCB (r : DCall) (t : DA) : DE := fun env M Q E => t env M (fun ds M1 => (r ds M1).run M1 Q) E
theorem dCB_mono {r : DCall} {t : DA} (h : MonoA t) : MonoE (dCB r t) := fun env M Q Q' E E' hQ hE => h env M _ _ _ _ (fun ds M1 => Res.mono hQ) hE
section
variable {X : Cx} {W : WX} {x : Str} {p pos : Pos} {e : Expr} {es : List Expr} {t : DA} {id T : String} {r : DCall}
theorem cb_up (ha : XA X W es t) : ∀ σ H Q, liftE X.K W (dCB r t) σ H Q → tCB (upCall X.K r) (liftA X.K W t) σ H Q := by
  rintro σ H Q ⟨env, M, re, s, h⟩
  refine stepA ha.mono re s h (fun ds M1 us H1 e1 s1 re1 r1 h1 => ?_) fun _ _ _ z => z
  exact ⟨ds, M1, r1, s1, Res.mono (upK_mono e1) h1⟩
theorem xe_callB (hc : CallR X (.builtin id) (upCall X.K r)) (hg : Gl X x) (hm : X.mg x = none) (hv : bootBuiltins x = some (.builtin id)) (ha : XA X W (e :: es) t) (hn : x ≠ "__name__" := by decide) (hdb : (x == ("__debug__" : Str)) = false := by decide)
    (he : starEach (e :: es) X.env = (false, eval e X.env) :: starEach es X.env := by rfl) (hpl : (backTo pos (starEach es X.env)).any (·.1) = false := by rfl) : XE X W (.Call (.Name x p) (e :: es) [] pos) (dCB r t) :=
  ⟨dCB_mono ha.mono, PEw (pe_callB hc hg hm hv ha.pa hn hdb he hpl) (cb_up ha)⟩
theorem xe_callTy (hc : CallR X (.type T) (upCall X.K r)) (hg : Gl X x) (hm : X.mg x = none) (hv : bootBuiltins x = some (.type T)) (ha : XA X W (e :: es) t) (hn : x ≠ "__name__" := by decide) (hdb : (x == ("__debug__" : Str)) = false := by decide)
    (he : starEach (e :: es) X.env = (false, eval e X.env) :: starEach es X.env := by rfl) (hpl : (backTo pos (starEach es X.env)).any (·.1) = false := by rfl) : XE X W (.Call (.Name x p) (e :: es) [] pos) (dCB r t) :=
  ⟨dCB_mono ha.mono, PEw (pe_callTy hc hg hm hv ha.pa hn hdb he hpl) (cb_up ha)⟩
end
theorem rl1 {K : PySem.W.Frag} {H : Hp} {d : D} {us : List V} (h : RepL K H [d] us) : ∃ u, us = [u] ∧ RepD K H d u := by
  unfold RepL at h
  obtain ⟨u, r, rfl, q, t⟩ := h
  unfold RepL at t
  exact ⟨u, by rw [t], q⟩
theorem rl2 {K : PySem.W.Frag} {H : Hp} {d e : D} {us : List V} (h : RepL K H [d, e] us) : ∃ u v, us = [u, v] ∧ RepD K H d u ∧ RepD K H e v := by
  unfold RepL at h
  obtain ⟨u, r, rfl, q, t⟩ := h
  obtain ⟨v, rfl, q2⟩ := rl1 t
  exact ⟨u, v, rfl, q, q2⟩
def bLen : DCall
  | [.v (.str z)], _ => .val (z.length ≤ sizeLine) (.int z.length)
  | [.tup ds], _ => .val True (.int ds.length)
  | [.v (.ref a)], M => match M a with
    | some (.lst ds) => .val True (.int ds.length)
    | some (.rol ds) => .val True (.int ds.length)
    | some (.dk kvs) => .val True (.int kvs.length)
    | _ => .bad
  | _, _ => .bad
def bAbs : DCall
  | [.v (.int i)], _ => .val True (.int (if i < 0 then -i else i))
  | _, _ => .bad
def bInt : DCall
  | [.v (.int i)], _ => .val True (.int i)
  | [.v (.bl b)], _ => .val True (.int (if b then 1 else 0))
  | [.v (.str z)], _ => match intText? z with
    | some n => .val (z.length ≤ 640) (.int n)
    | none => .bad
  | _, _ => .bad
def bStr : DCall
  | [.v (.int i)], _ => .val (i.natAbs.log2 < 1920) (.str (Str.ofString (toString i)))
  | _, _ => .bad
def bOrd : DCall
  | [.v (.str z)], _ => .val (z.length = 1) (.int (z.cps.getD 0 0 : Nat))
  | _, _ => .bad
def bTuple : DCall
  | [.tup ds], _ => .val True (.tup ds)
  | [.v (.ref a)], M => match M a with
    | some (.lst ds) => .val True (.tup ds)
    | some (.rol ds) => .val True (.tup ds)
    | _ => .bad
  | _, _ => .bad
def bList : DCall
  | [.tup ds], _ => .new True (.lst ds)
  | [.v (.ref a)], M => match M a with
    | some (.lst ds) => .new True (.lst ds)
    | some (.rol ds) => .new True (.lst ds)
    | _ => .bad
  | _, _ => .bad
def bDivmod : DCall
  | [.v (.int i), .v (.int j)], _ => .val (CDivP i j) (.tup [.int (i / j), .int (i % j)])
  | _, _ => .bad
def bMax2 : DCall
  | [.v (.int i), .v (.int j)], _ => .val True (.int (if j > i then j else i))
  | _, _ => .bad
def bMin2 : DCall
  | [.v (.int i), .v (.int j)], _ => .val True (.int (if j < i then j else i))
  | _, _ => .bad
def bools : List D → Option (List Bool)
  | [] => some []
  | .v (.bl b) :: r => (bools r).map (b :: ·)
  | _ :: _ => none
theorem bools_eq : ∀ {ds : List D} {bs : List Bool}, bools ds = some bs → ds = bs.map D.bl
  | [], bs, h => by simp [bools] at h; subst h; rfl
  | .v (.bl b) :: r, bs, h => by
    simp only [bools, Option.map_eq_some_iff] at h
    obtain ⟨cs, h1, rfl⟩ := h
    rw [bools_eq h1]; rfl
  | .tup _ :: _, _, h => by simp [bools] at h
  | .v .non :: _, _, h => by simp [bools] at h
  | .v (.int _) :: _, _, h => by simp [bools] at h
  | .v (.str _) :: _, _, h => by simp [bools] at h
  | .v (.byt _) :: _, _, h => by simp [bools] at h
  | .v (.flt _) :: _, _, h => by simp [bools] at h
  | .v (.ref _) :: _, _, h => by simp [bools] at h
  | .v (.ty _) :: _, _, h => by simp [bools] at h
theorem bools_map : ∀ bs : List Bool, bools (bs.map D.bl) = some bs
  | [] => rfl
  | b :: bs => by show (bools (bs.map D.bl)).map _ = _; rw [bools_map bs]; rfl
theorem RepL.bls {K : PySem.W.Frag} {H : Hp} : ∀ {bs : List Bool} {us : List V}, RepL K H (bs.map D.bl) us → us = bs.map V.bl
  | [], _, h => by unfold RepL at h; simpa using h
  | n :: ns, _, h => by
    simp only [List.map_cons] at h; unfold RepL at h
    obtain ⟨u, r, rfl, q, t⟩ := h
    rw [RepL.bls t, rep_v q]; rfl
def bAll : DCall
  | [.v (.ref a)], M => match M a with
    | some (.lst ds) => match bools ds with
      | some bs => .val True (.bl (bs.all id))
      | none => .bad
    | _ => .bad
  | _, _ => .bad
def bAny : DCall
  | [.v (.ref a)], M => match M a with
    | some (.lst ds) => match bools ds with
      | some bs => .val True (.bl (bs.any id))
      | none => .bad
    | _ => .bad
  | _, _ => .bad
/-- the type's name of plain data, lists, dicts -/
def tyN (M : Mem) : D → Option String
  | .v .non => some "NoneType"
  | .v (.bl _) => some "bool"
  | .v (.int _) => some "int"
  | .v (.str _) => some "str"
  | .tup _ => some "tuple"
  | .v (.ref a) => match M a with
    | some (.lst _) => some "list"
    | some (.rol _) => some "list"
    | some (.dk _) => some "dict"
    | _ => none
  | _ => none
def isi (a b : String) : Bool := (a == b) || (a == "bool" && b == "int")
def bIsi : DCall
  | [d, .v (.ty n)], M => match tyN M d with
    | some a => .val (n = "tuple" ∨ n = "str" ∨ n = "int" ∨ n = "bool" ∨ n = "list") (.bl (isi a n))
    | none => .bad
  | _, _ => .bad

section
variable {X : Cx}
theorem c_len : CallR X (.builtin "len") (upCall X.K bLen) := by
  rintro pins s σ H xs us Q I r ⟨ds, M, rl, sm, h⟩
  unfold bLen at h
  split at h <;> first | exact h.elim | skip
  · obtain ⟨u, rfl, q⟩ := rl1 rl
    rw [rep_v q] at r
    exact call_len pins s σ H _ us Q I r ⟨_, _, rfl, ⟨h.1, rfl⟩, fin_val h.2 sm⟩
  · obtain ⟨u, rfl, q⟩ := rl1 rl
    obtain ⟨a, ws, rfl, q1, l1⟩ := rep_tup q
    refine call_len_seq pins s σ H _ us Q I r ⟨_, _, rfl, .inr q1, ?_⟩
    rw [l1.length]
    exact fin_val h.2 sm
  · obtain ⟨u, rfl, q⟩ := rl1 rl
    rw [rep_v q] at r
    split at h <;> first | exact h.elim | skip
    · rename_i hm
      obtain ⟨ws, q1, l1⟩ := sm.seq (.inl hm)
      refine call_len_seq pins s σ H _ us Q I r ⟨_, _, rfl, .inl q1, ?_⟩
      rw [l1.length]
      exact fin_val h.2 sm
    · rename_i hm
      obtain ⟨ws, q1, l1⟩ := sm.seq (.inr hm)
      refine call_len_seq pins s σ H _ us Q I r ⟨_, _, rfl, .inl q1, ?_⟩
      rw [l1.length]
      exact fin_val h.2 sm
    · rename_i hm
      obtain ⟨ws, q1, l1⟩ := sm _ _ hm
      obtain ⟨u', rfl, ru⟩ := vals1 r
      obtain rfl : u' = Value.ref _ := ru
      refine d_len I (.inl q1) fun t s' I' => ⟨.int _, H, I', ⟨t, rfl⟩, ?_⟩
      rw [l1.length]
      exact fin_val h.2 sm
theorem c_abs : CallR X (.builtin "abs") (upCall X.K bAbs) := by
  rintro pins s σ H xs us Q I r ⟨ds, M, rl, sm, h⟩
  unfold bAbs at h
  split at h <;> first | exact h.elim | skip
  obtain ⟨u, rfl, q⟩ := rl1 rl
  rw [rep_v q] at r
  exact call_abs pins s σ H _ us Q I r ⟨_, rfl, fin_val h.2 sm⟩
theorem c_int : CallR X (.type "int") (upCall X.K bInt) := by
  rintro pins s σ H xs us Q I r ⟨ds, M, rl, sm, h⟩
  unfold bInt at h
  split at h <;> first | exact h.elim | skip
  · obtain ⟨u, rfl, q⟩ := rl1 rl
    rw [rep_v q] at r
    exact call_int1 pins s σ H _ us Q I r (.inl ⟨_, rfl, fin_val h.2 sm⟩)
  · obtain ⟨u, rfl, q⟩ := rl1 rl
    rw [rep_v q] at r
    exact call_int1 pins s σ H _ us Q I r (.inr ⟨_, rfl, fin_val h.2 sm⟩)
  · obtain ⟨u, rfl, q⟩ := rl1 rl
    rw [rep_v q] at r
    split at h <;> first | exact h.elim | skip
    rename_i hn
    exact call_int_str pins s σ H _ us Q I r ⟨_, _, rfl, hn, h.1, fin_val h.2 sm⟩
theorem c_str : CallR X (.type "str") (upCall X.K bStr) := by
  rintro pins s σ H xs us Q I r ⟨ds, M, rl, sm, h⟩
  unfold bStr at h
  split at h <;> first | exact h.elim | skip
  obtain ⟨u, rfl, q⟩ := rl1 rl
  rw [rep_v q] at r
  exact call_str_int pins s σ H _ us Q I r ⟨_, rfl, h.1, fin_val h.2 sm⟩
theorem c_ord : CallR X (.builtin "ord") (upCall X.K bOrd) := by
  rintro pins s σ H xs us Q I r ⟨ds, M, rl, sm, h⟩
  unfold bOrd at h
  split at h <;> first | exact h.elim | skip
  obtain ⟨u, rfl, q⟩ := rl1 rl
  rw [rep_v q] at r
  exact call_ord pins s σ H _ us Q I r ⟨_, rfl, h.1, fin_val h.2 sm⟩
theorem c_tuple : CallR X (.type "tuple") (upCall X.K bTuple) := by
  rintro pins s σ H xs us Q I r ⟨ds, M, rl, sm, h⟩
  unfold bTuple at h
  split at h <;> first | exact h.elim | skip
  · obtain ⟨u, rfl, q⟩ := rl1 rl
    obtain ⟨a, ws, rfl, q1, l1⟩ := rep_tup q
    exact call_tuple_of pins s σ H _ us Q I r ⟨_, _, rfl, .inr ⟨q1, fin_rep h.2 sm q⟩⟩
  · obtain ⟨u, rfl, q⟩ := rl1 rl
    rw [rep_v q] at r
    split at h <;> first | exact h.elim | skip
    · rename_i hm
      obtain ⟨ws, q1, l1⟩ := sm.seq (.inl hm)
      exact call_tuple_of pins s σ H _ us Q I r ⟨_, _, rfl, .inl ⟨q1, fun l hl => fin_tup h.2 sm hl l1⟩⟩
    · rename_i hm
      obtain ⟨ws, q1, l1⟩ := sm.seq (.inr hm)
      exact call_tuple_of pins s σ H _ us Q I r ⟨_, _, rfl, .inl ⟨q1, fun l hl => fin_tup h.2 sm hl l1⟩⟩
theorem c_list : CallR X (.type "list") (upCall X.K bList) := by
  rintro pins s σ H xs us Q I r ⟨ds, M, rl, sm, h⟩
  unfold bList at h
  split at h <;> first | exact h.elim | skip
  · obtain ⟨u, rfl, q⟩ := rl1 rl
    obtain ⟨a, ws, rfl, q1, l1⟩ := rep_tup q
    exact call_list_of pins s σ H _ us Q I r ⟨_, _, rfl, .inr q1, fun l hl => fin_lst h.2 sm hl l1⟩
  · obtain ⟨u, rfl, q⟩ := rl1 rl
    rw [rep_v q] at r
    split at h <;> first | exact h.elim | skip
    · rename_i hm
      obtain ⟨ws, q1, l1⟩ := sm.seq (.inl hm)
      exact call_list_of pins s σ H _ us Q I r ⟨_, _, rfl, .inl q1, fun l hl => fin_lst h.2 sm hl l1⟩
    · rename_i hm
      obtain ⟨ws, q1, l1⟩ := sm.seq (.inr hm)
      exact call_list_of pins s σ H _ us Q I r ⟨_, _, rfl, .inl q1, fun l hl => fin_lst h.2 sm hl l1⟩
theorem c_divmod : CallR X (.builtin "divmod") (upCall X.K bDivmod) := by
  rintro pins s σ H xs us Q I r ⟨ds, M, rl, sm, h⟩
  unfold bDivmod at h
  split at h <;> first | exact h.elim | skip
  obtain ⟨u, v, rfl, q1, q2⟩ := rl2 rl
  rw [rep_v q1, rep_v q2] at r
  exact call_divmodW pins s σ H _ us Q I r ⟨_, _, rfl, h.1, fun p hp => fin_tup h.2 sm hp (.cons rep_of (.cons rep_of .nil))⟩
theorem c_max2 (hc : X.calm = true) : CallR X (.builtin "max") (upCall X.K bMax2) := by
  rintro pins s σ H xs us Q I r ⟨ds, M, rl, sm, h⟩
  unfold bMax2 at h
  split at h <;> first | exact h.elim | skip
  obtain ⟨u, v, rfl, q1, q2⟩ := rl2 rl
  rw [rep_v q1, rep_v q2] at r
  exact call_max2 hc pins s σ H _ us Q I r ⟨_, _, rfl, fin_val h.2 sm⟩
theorem c_min2 (hc : X.calm = true) : CallR X (.builtin "min") (upCall X.K bMin2) := by
  rintro pins s σ H xs us Q I r ⟨ds, M, rl, sm, h⟩
  unfold bMin2 at h
  split at h <;> first | exact h.elim | skip
  obtain ⟨u, v, rfl, q1, q2⟩ := rl2 rl
  rw [rep_v q1, rep_v q2] at r
  exact call_min2 hc pins s σ H _ us Q I r ⟨_, _, rfl, fin_val h.2 sm⟩
theorem c_all (hc : X.calm = true) : CallR X (.builtin "all") (upCall X.K bAll) := by
  rintro pins s σ H xs us Q I r ⟨ds, M, rl, sm, h⟩
  unfold bAll at h
  split at h <;> first | exact h.elim | skip
  split at h <;> first | exact h.elim | skip
  split at h <;> first | exact h.elim | skip
  rename_i hm _ bs hb
  obtain ⟨u, rfl, q⟩ := rl1 rl
  rw [rep_v q] at r
  obtain ⟨ws, q1, l1⟩ := sm.seq (.inl hm)
  rw [bools_eq hb] at l1
  rw [l1.bls] at q1
  exact cr_all hc pins s σ H _ us Q I r ⟨_, _, rfl, q1, fin_val h.2 sm⟩
theorem c_any (hc : X.calm = true) : CallR X (.builtin "any") (upCall X.K bAny) := by
  rintro pins s σ H xs us Q I r ⟨ds, M, rl, sm, h⟩
  unfold bAny at h
  split at h <;> first | exact h.elim | skip
  split at h <;> first | exact h.elim | skip
  split at h <;> first | exact h.elim | skip
  rename_i hm _ bs hb
  obtain ⟨u, rfl, q⟩ := rl1 rl
  rw [rep_v q] at r
  obtain ⟨ws, q1, l1⟩ := sm.seq (.inl hm)
  rw [bools_eq hb] at l1
  rw [l1.bls] at q1
  exact cr_any hc pins s σ H _ us Q I r ⟨_, _, rfl, q1, fin_val h.2 sm⟩
theorem tyN_x {K : PySem.W.Frag} {H : Hp} {M : Mem} (s : Sim K H M) {d : D} {u : V} {a : String} (r : RepD K H d u) (h : tyN M d = some a) : TyX K H u (.type a) := by
  unfold tyN at h
  split at h
  · cases h; rw [rep_v r]; exact .base .non
  · cases h; rw [rep_v r]; exact .base (.bl _)
  · cases h; rw [rep_v r]; exact .base (.int _)
  · cases h; rw [rep_v r]; exact .base (.str _)
  · cases h
    obtain ⟨b, us, rfl, q, l⟩ := rep_tup r
    rcases q with (q | ⟨o, q⟩) | ⟨o, its, n, q, c, _⟩
    · exact .base (.tup q)
    · exact .fTuple q
    · exact .kTuple q c
  · rw [rep_v r]
    split at h
    · cases h
      rename_i hm
      obtain ⟨us, e, l⟩ := s _ _ hm
      exact .base (.lst e)
    · cases h
      rename_i hm
      obtain ⟨o, us, e, l⟩ := s _ _ hm
      exact .base (.frz e)
    · cases h
      rename_i hm
      obtain ⟨us, e, l⟩ := s _ _ hm
      exact .base (.dK e)
    · cases h
  · cases h
theorem kit_isi {a n : String} (ha : a = "NoneType" ∨ a = "bool" ∨ a = "int" ∨ a = "str" ∨ a = "tuple" ∨ a = "list" ∨ a = "dict") (hn : n = "tuple" ∨ n = "str" ∨ n = "int" ∨ n = "bool" ∨ n = "list") : kitB a n = some (isi a n) := by
  rcases ha with rfl | rfl | rfl | rfl | rfl | rfl | rfl <;> rcases hn with rfl | rfl | rfl | rfl | rfl <;> decide +kernel
theorem tyN_of {M : Mem} {d : D} {a : String} (h : tyN M d = some a) : a = "NoneType" ∨ a = "bool" ∨ a = "int" ∨ a = "str" ∨ a = "tuple" ∨ a = "list" ∨ a = "dict" := by
  unfold tyN at h
  split at h <;> first | (split at h <;> (cases h <;> simp)) | (cases h <;> simp)
theorem c_isi : CallR X (.builtin "isinstance") (upCall X.K bIsi) := by
  rintro pins s σ H xs us Q I r ⟨ds, M, rl, sm, h⟩
  unfold bIsi at h
  split at h <;> first | exact h.elim | skip
  split at h <;> first | exact h.elim | skip
  rename_i d n a hb
  obtain ⟨u, v, rfl, q1, q2⟩ := rl2 rl
  rw [rep_v q2] at r
  exact call_isi pins s σ H _ us Q I r ⟨_, _, _, _, _, rfl, .ty _, tyN_x sm q1 hb, kit_ty (kit_isi (tyN_of hb) h.1), fin_val h.2 sm⟩
end

/-! methods of built-in types -/
abbrev DMeth := D → List D → Mem → Res
def upMeth (K : PySem.W.Frag) (r : DMeth) : V → List V → Hp → VK → Prop := fun x xs H Q => ∃ d ds M, RepD K H d x ∧ RepL K H ds xs ∧ Sim K H M ∧ (r d ds M).run M (upK K H Q)
def isTy (T : String) (d : D) (M : Mem) : Prop := match d with
  | .v (.str _) => T = "str"
  | .v (.ref a) => match M a with
    | some (.lst _) => T = "list"
    | some (.dk _) => T = "dict"
    | _ => False
  | _ => False
def dBM (T : String) (r : DMeth) (to : DE) (t : DA) : DE := fun env M Q E => to env M (fun x M1 => isTy T x M1 ∧ t env M1 (fun ds M2 => (r x ds M2).run M2 Q) E) E
theorem isTy_v {K : PySem.W.Frag} {H : Hp} {M : Mem} {T : String} {d : D} {u : V} (s : Sim K H M) (r : RepD K H d u) (h : isTy T d M) : tyV K T u H := by
  unfold isTy at h
  split at h
  · rw [rep_v r]; exact h
  · rw [rep_v r]
    split at h
    · rename_i hm
      obtain ⟨us, e, l⟩ := s _ _ hm
      exact .inl ⟨h, us, SqL.of e⟩
    · rename_i hm
      obtain ⟨us, e, l⟩ := s _ _ hm
      exact .inr (.inr (.inl ⟨h, .inl ⟨us, e⟩⟩))
    · exact h.elim
  · exact h.elim
section
variable {X : Cx} {W : WX} {o e : Expr} {es : List Expr} {name : Str} {apos cpos : Pos} {to : DE} {t : DA} {T id : String} {r : DMeth}
theorem xe_bm (pa : PlainAttrs T) (slot : Slot T name id) (hty : typeOf (.builtin id) = pure (.type "method_descriptor")) (hm : MtR X id (upMeth X.K r)) (ho : XE X W o to) (ha : XA X W (e :: es) t)
    (hbase : attributeBase o name X.env (eval o X.env) = eval o X.env := by rfl)
    (hfew : ((backTo cpos (starEach (e :: es) X.env)).all (fun x => !x.1) && (backToKw cpos (keywordEach [] X.env)).all (fun x => x.1.isSome)
      && decide ((e :: es).length + ([] : List Keyword).length + (if ([] : List Keyword).isEmpty then 0 else 1) < 30)) = true := by rfl)
    (hline : (apos.endLine == cpos.line) = true := by rfl) (hs : starEach (e :: es) X.env = (false, eval e X.env) :: starEach es X.env := by rfl) (hplain : (backTo cpos (starEach es X.env)).any (·.1) = false := by rfl) :
    XE X W (.Call (.Attribute o name apos) (e :: es) [] cpos) (dBM T r to t) := by
  refine ⟨fun env M Q Q' E E' hQ hE => ho.mono env M _ _ _ _ (fun d M1 h => ⟨h.1, ha.mono env M1 _ _ _ _ (fun ds M2 => Res.mono hQ) hE h.2⟩) hE, PEw (pe_bm pa slot hty hm ho.pe ha.pa hbase hfew hline hs hplain) ?_⟩
  rintro σ H Q ⟨env, M, re, s, h⟩
  refine stepE ho.mono re s h (fun d M1 u H1 e1 s1 re1 r1 h1 => ⟨isTy_v s1 r1 h1.1, ?_⟩) fun _ _ _ z => z
  refine stepA ha.mono re1 s1 h1.2 (fun ds M2 us H2 e2 s2 re2 r2 h2 => ?_) (upX_mono e1)
  exact ⟨d, ds, M2, RepD.mono e2 _ r1, r2, s2, Res.mono (upK_mono (e1.trans e2)) h2⟩
theorem xe_bm0 (pa : PlainAttrs T) (slot : Slot T name id) (hty : typeOf (.builtin id) = pure (.type "method_descriptor")) (hm : MtR X id (upMeth X.K r)) (ho : XE X W o to)
    (hbase : attributeBase o name X.env (eval o X.env) = eval o X.env := by rfl) (hline : (apos.endLine == cpos.line) = true := by rfl) :
    XE X W (.Call (.Attribute o name apos) [] [] cpos) (dBM T r to dNil) := by
  refine ⟨fun env M Q Q' E E' hQ hE => ho.mono env M _ _ _ _ (fun d M1 h => ⟨h.1, Res.mono hQ h.2⟩) hE, PEw (pe_bm0 pa slot hty hm ho.pe hbase hline) ?_⟩
  rintro σ H Q ⟨env, M, re, s, h⟩
  refine stepE ho.mono re s h (fun d M1 u H1 e1 s1 re1 r1 h1 => ⟨isTy_v s1 r1 h1.1, ?_⟩) fun _ _ _ z => z
  exact ⟨d, [], M1, r1, .nil, s1, Res.mono (upK_mono e1) h1.2⟩
end
def mAppend : DMeth
  | .v (.ref a), [d], M => match M a with
    | some (.lst ds) => .put (ds.length < sizeLine) a (.lst (ds ++ [d])) .non
    | _ => .bad
  | _, _, _ => .bad
def mExtend : DMeth
  | .v (.ref a), [.v (.ref b)], M => match M a, M b with
    | some (.lst ds), some (.lst es) => .put (ds.length + es.length ≤ sizeLine) a (.lst (ds ++ es)) .non
    | _, _ => .bad
  | _, _, _ => .bad
def mPop : DMeth
  | .v (.ref a), [], M => match M a with
    | some (.lst ds) => match ds[ds.length - 1]? with
      | some d => .put True a (.lst ds.dropLast) d
      | none => .bad
    | _ => .bad
  | _, _, _ => .bad
def strsOf : List D → Option (List Str)
  | [] => some []
  | .v (.str b) :: r => (strsOf r).map (b :: ·)
  | _ :: _ => none
theorem strsOf_eq : ∀ {ds : List D} {bs : List Str}, strsOf ds = some bs → ds = bs.map D.str
  | [], bs, h => by simp [strsOf] at h; subst h; rfl
  | .v (.str b) :: r, bs, h => by
    simp only [strsOf, Option.map_eq_some_iff] at h
    obtain ⟨cs, h1, rfl⟩ := h
    rw [strsOf_eq h1]; rfl
  | .tup _ :: _, _, h => by simp [strsOf] at h
  | .v .non :: _, _, h => by simp [strsOf] at h
  | .v (.int _) :: _, _, h => by simp [strsOf] at h
  | .v (.bl _) :: _, _, h => by simp [strsOf] at h
  | .v (.byt _) :: _, _, h => by simp [strsOf] at h
  | .v (.flt _) :: _, _, h => by simp [strsOf] at h
  | .v (.ref _) :: _, _, h => by simp [strsOf] at h
  | .v (.ty _) :: _, _, h => by simp [strsOf] at h
theorem strsOf_map : ∀ bs : List Str, strsOf (bs.map D.str) = some bs
  | [] => rfl
  | b :: bs => by show (strsOf (bs.map D.str)).map _ = _; rw [strsOf_map bs]; rfl
theorem RepL.strs {K : PySem.W.Frag} {H : Hp} : ∀ {bs : List Str} {us : List V}, RepL K H (bs.map D.str) us → us = bs.map V.str
  | [], _, h => by unfold RepL at h; simpa using h
  | n :: ns, _, h => by
    simp only [List.map_cons] at h; unfold RepL at h
    obtain ⟨u, r, rfl, q, t⟩ := h
    rw [RepL.strs t, rep_v q]; rfl
theorem RepL.of_strs {K : PySem.W.Frag} {H : Hp} : ∀ {ns : List Str}, RepL K H (ns.map D.str) (ns.map V.str)
  | [] => .nil
  | n :: ns => .cons rep_of RepL.of_strs
theorem RepL.dropLast {K : PySem.W.Frag} {H : Hp} {ds : List D} {us : List V} (h : RepL K H ds us) : RepL K H ds.dropLast us.dropLast := by
  rw [List.dropLast_eq_take, List.dropLast_eq_take, h.length]
  exact h.take _
section
variable {X : Cx}
theorem m_append : MtR X "list.append" (upMeth X.K mAppend) := by
  rintro pins s σ H x xs v us Q I rx rxs ⟨d, ds, M, r1, rl, sm, h⟩
  unfold mAppend at h
  split at h <;> first | exact h.elim | skip
  split at h <;> first | exact h.elim | skip
  rename_i hm
  obtain ⟨u, rfl, q⟩ := rl1 rl
  rw [rep_v r1] at rx
  obtain ⟨ws, e1, l1⟩ := sm.lst hm
  exact mt_append pins s σ H _ _ v us Q I rx rxs ⟨_, ws, u, rfl, rfl, e1, by rw [l1.length]; exact h.1,
    fin_put h.2 sm e1 True.intro (repO_lst (Ext.mut e1 True.intro) (RepL.append l1 (.cons q .nil))) rep_of⟩
theorem m_extend : MtR X "list.extend" (upMeth X.K mExtend) := by
  rintro pins s σ H x xs v us Q I rx rxs ⟨d, ds, M, r1, rl, sm, h⟩
  unfold mExtend at h
  split at h <;> first | exact h.elim | skip
  split at h <;> first | exact h.elim | skip
  rename_i hm1 hm2
  obtain ⟨u, rfl, q⟩ := rl1 rl
  rw [rep_v r1] at rx
  rw [rep_v q] at rxs
  obtain ⟨ws, e1, l1⟩ := sm.lst hm1
  obtain ⟨zs, e2, l2⟩ := sm.lst hm2
  exact mt_extend pins s σ H _ _ v us Q I rx rxs ⟨_, _, ws, zs, rfl, rfl, e1, e2, by rw [l1.length, l2.length]; exact h.1,
    fin_put h.2 sm e1 True.intro (repO_lst (Ext.mut e1 True.intro) (RepL.append l1 l2)) rep_of⟩
theorem m_pop : MtR X "list.pop" (upMeth X.K mPop) := by
  rintro pins s σ H x xs v us Q I rx rxs ⟨d, ds, M, r1, rl, sm, h⟩
  unfold mPop at h
  split at h <;> first | exact h.elim | skip
  split at h <;> first | exact h.elim | skip
  split at h <;> first | exact h.elim | skip
  rename_i hm _ d' hd
  unfold RepL at rl
  subst rl
  rw [rep_v r1] at rx
  obtain ⟨ws, e1, l1⟩ := sm.lst hm
  obtain ⟨w', h1, h2⟩ := l1.get hd
  exact mt_pop pins s σ H _ _ v us Q I rx rxs ⟨_, ws, w', rfl, rfl, e1, by rw [l1.length]; exact h1,
    fin_put h.2 sm e1 True.intro (repO_lst (Ext.mut e1 True.intro) l1.dropLast) h2⟩
end
end PL

namespace PL
open PySem PySem.Spec PyProof.Rows L2

/-! promises -/
abbrev DSp := List D → Mem → DK → DX → Prop
def MonoSp (sp : DSp) : Prop := ∀ ds M (Q Q' : DK) (E E' : DX), (∀ d M, Q d M → Q' d M) → (∀ c f M, E c f M → E' c f M) → sp ds M Q E → sp ds M Q' E'
def upXK (K : PySem.W.Frag) (H : Hp) (E : XK) : DX := fun c fs M' => ∀ d H', Ext K H H' → Sim K H' M' → RepX K H' d fs → E c d H'
def liftSp (K : PySem.W.Frag) (sp : DSp) : Sp := fun vs H Q E => ∃ ds M, RepL K H ds vs ∧ Sim K H M ∧ sp ds M (upK K H Q) (upXK K H E)
structure Fn (P : Program) (w : World) (K : PySem.W.Frag) (mg : Str → Option Value) (base : Heap) (k : Nat) (x : Str) (sp : DSp) (dvs : List D) : Prop where
  mono : MonoSp sp
  ex : ∃ (f : Addr) (fd : FuncData) (ps : List Str) (ds : List Value) (vds : List V), FnOk P w K mg base (L2.CX P w) k f fd ps (liftSp K sp) ∧ mg x = some (.ref f) ∧ PySem.W.keepIn K (.ref f) = true ∧ Binds K fd ps ds ∧ Vals vds ds ∧ ∀ H, RepL K H dvs vds
theorem Fn.up {P : Program} {w : World} {K : PySem.W.Frag} {mg : Str → Option Value} {base : Heap} {j k : Nat} {x : Str} {sp : DSp} {dvs : List D} (F : Fn P w K mg base j x sp dvs) (h : j ≤ k) : Fn P w K mg base k x sp dvs := by
  obtain ⟨m, f, fd, ps, ds, vds, F, r⟩ := F
  exact ⟨m, f, fd, ps, ds, vds, F.mono h, r⟩
def dCall (sp : DSp) (dvs : List D) (t : DA) : DE := fun env M Q E => t env M (fun ds M1 => sp (ds ++ dvs) M1 Q E) E
theorem dCall_mono {sp : DSp} {dvs : List D} {t : DA} (hs : MonoSp sp) (h : MonoA t) : MonoE (dCall sp dvs t) := fun env M Q Q' E E' hQ hE => h env M _ _ _ _ (fun ds M1 => hs _ _ _ _ _ _ hQ hE) hE
theorem upXK_mono {K : PySem.W.Frag} {H H1 : Hp} {E : XK} (e : Ext K H H1) : ∀ c f M1, upXK K H E c f M1 → upXK K H1 E c f M1 := fun c f M1 q d H' e' s r => q d H' (e.trans e') s r
section
variable {X : Cx} {W : WX} {k : Nat} {x : Str} {sp : DSp} {dvs : List D} {e : Expr} {es : List Expr} {t : DA} {p pos : Pos}
theorem xe_call (F : Fn X.prog X.w X.K X.mg X.base k x sp dvs) (hr : Room k X.A) (tk : Takes X W) (hg : Gl X x) (ha : XA X W (e :: es) t) (hdb : (x == ("__debug__" : Str)) = false := by decide)
    (he : starEach (e :: es) X.env = (false, eval e X.env) :: starEach es X.env := by rfl) (hpl : (backTo pos (starEach es X.env)).any (·.1) = false := by rfl) : XE X W (.Call (.Name x p) (e :: es) [] pos) (dCall sp dvs t) := by
  obtain ⟨m, f, fd, ps, ds, vds, F, hm, hk, hb, hd, rd⟩ := F
  refine ⟨dCall_mono m ha.mono, PEw (pe_callSD (E := WE W) F hr hg hm hk hb hd (passAt tk) ha.pa hdb he hpl) ?_⟩
  rintro σ H Q ⟨env, M, re, s, h⟩
  refine stepA ha.mono re s h (fun as M1 us H1 e1 s1 re1 r1 h1 => ?_) fun _ _ _ z => z
  exact ⟨as ++ dvs, M1, RepL.append r1 (rd H1), s1, m _ _ _ _ _ _ (upK_mono e1) (upX_mono e1) h1⟩
theorem xe_call0 (F : Fn X.prog X.w X.K X.mg X.base k x sp dvs) (hr : Room k X.A) (tk : Takes X W) (hg : Gl X x) (hdb : (x == ("__debug__" : Str)) = false := by decide) : XE X W (.Call (.Name x p) [] [] pos) (dCall sp dvs dNil) := by
  obtain ⟨m, f, fd, ps, ds, vds, F, hm, hk, hb, hd, rd⟩ := F
  refine ⟨dCall_mono m (fun _ _ _ _ _ _ hQ _ h => hQ _ _ h), ⟨fun pins s σ H Q I h => ?_⟩⟩
  obtain ⟨env, M, re, sm, h⟩ := h
  refine wpAny_Call_Name_kw (ld_glob I hg hm ?_ hdb)
  exact PySem.W.callWith_K0 I.kIn hk (run_fnSD (E := WE W) (us := []) F hr hb hd (passAt tk σ) I .nil ⟨dvs, M, rd H, sm, h⟩)
/-- a local name that holds a def -/
def dCallL (i : Nat) (S : Addr → Option DSp) (t : DA) : DE := fun env M Q E => match env[i]? with
  | some (some (.v (.ref f))) => match S f with
    | some sp => t env M (fun ds M1 => sp ds M1 Q E) E
    | none => False
  | _ => False
theorem xe_callL {i : Nat} {S : Addr → Option DSp} (A : ∀ f sp, S f = some sp → MonoSp sp ∧ ∃ (fd : FuncData) (ps : List Str), FnOk X.prog X.w X.K X.mg X.base (L2.CX X.prog X.w) k f fd ps (liftSp X.K sp) ∧ PySem.W.keepIn X.K (.ref f) = true ∧ Binds X.K fd ps [])
    (hr : Room k X.A) (tk : Takes X W) (hN : X.N[i]? = some x) (hv : Vis X.env.scope x) (ha : XA X W (e :: es) t) (hdb : (x == ("__debug__" : Str)) = false := by decide) (hcd : (x == ("__classdict__" : Str)) = false := by decide)
    (he : starEach (e :: es) X.env = (false, eval e X.env) :: starEach es X.env := by rfl) (hpl : (backTo pos (starEach es X.env)).any (·.1) = false := by rfl) : XE X W (.Call (.Name x p) (e :: es) [] pos) (dCallL i S t) := by
  refine ⟨fun env M Q Q' E E' hQ hE h => ?_, ⟨fun pins s σ H Q I h => ?_⟩⟩
  · unfold dCallL at h ⊢
    split at h <;> first | exact h.elim | skip
    split at h <;> first | exact h.elim | skip
    rename_i f _ _ sp hS
    exact ha.mono env M _ _ _ _ (fun ds M1 => (A f sp hS).1 _ _ _ _ _ _ hQ hE) hE h
  · obtain ⟨env, M, re, sm, h⟩ := h
    unfold dCallL at h
    split at h <;> first | exact h.elim | skip
    rename_i f hi
    split at h <;> first | exact h.elim | skip
    rename_i sp hS
    obtain ⟨m, fd, ps, F, hk, hb⟩ := A f sp hS
    obtain ⟨u, h1, h2⟩ := re.2 i _ hi
    have eu := rep_v h2
    subst eu
    refine wpAny_Call_Name_kw (thn ((pe_var (pos := p) hN hv hdb hcd).run pins s σ H (fun v H1 => v = .ref f ∧ H1 = H) I ⟨.ref f, h1, rfl, rfl⟩) fun u s1 ⟨v, H1, I1, r1, q1⟩ => ?_)
    obtain ⟨rfl, rfl⟩ := q1
    cases r1
    have q : liftA X.K W t σ H1 fun vs H2 => liftSp X.K sp (vs ++ []) H2 Q (WE W σ) := stepA ha.mono re sm h (fun as M1 us H2 e1 s2 re1 r2 h3 => by
      rw [List.append_nil]
      exact ⟨as, M1, r2, s2, m _ _ _ _ _ _ (upK_mono e1) (upX_mono e1) h3⟩) fun _ _ _ z => z
    refine PySem.W.callWith_K (h₀ := X.base) I.ok.mod.kin hk (thn (ha.pa.run pos pins s1 σ _ _ I1 q) fun us s2 ⟨vs, H2, I2, r, q2⟩ => ⟨I2.kIn, ?_⟩) he hpl
    exact run_fnSD (E := WE W) F hr hb .nil (passAt tk σ) I2 r q2
end

/-! patterns of targets -/
inductive Pat where
  | nm (i : Nat)
  | tp (ps : List Pat)
def seqOf (M : Mem) : D → Option (List D)
  | .tup ds => some ds
  | .v (.ref a) => match M a with
    | some (.lst ds) => some ds
    | _ => none
  | _ => none
mutual
def Pat.bind (M : Mem) : Pat → D → DEnv → Option DEnv
  | .nm i, d, env => some (env.set i (some d))
  | .tp ps, d, env => match seqOf M d with
    | some ds => bindL M ps ds env
    | none => none
def bindL (M : Mem) : List Pat → List D → DEnv → Option DEnv
  | [], [], env => some env
  | p :: ps, d :: ds, env => match p.bind M d env with
    | some env1 => bindL M ps ds env1
    | none => none
  | _, _, _ => none
end
mutual
def Pat.tg (K : PySem.W.Frag) : Pat → TG
  | .nm i => gName i
  | .tp ps => fun v σ H Q => gTup K ps.length (tgs K ps) v σ H Q ∨ gLst K ps.length (tgs K ps) v σ H Q
def tgs (K : PySem.W.Frag) : List Pat → TGs
  | [] => gNil
  | p :: ps => gCons (p.tg K) (tgs K ps)
end
mutual
def Pat.slots : Pat → List Nat
  | .nm i => [i]
  | .tp ps => slotsL ps
def slotsL : List Pat → List Nat
  | [] => []
  | p :: ps => p.slots ++ slotsL ps
end
theorem wipe_set {i : Nat} {x : V} : ∀ {vs : List Nat} {σ : L2.St}, i ∈ vs → wipe (σ.set i (some x)) vs = wipe σ vs
  | v :: vs, σ, h => by
    show (wipe (σ.set i (some x)) vs).set v none = (wipe σ vs).set v none
    by_cases hm : i ∈ vs
    · rw [wipe_set hm]
    · have e : i = v := by
        rcases List.mem_cons.mp h with e | e
        · exact e
        · exact absurd e hm
      subst e
      have comm : ∀ (vs : List Nat) (σ : L2.St), i ∉ vs → wipe (σ.set i (some x)) vs = (wipe σ vs).set i (some x) := by
        intro vs
        induction vs with
        | nil => intro σ _; rfl
        | cons w ws ih =>
          intro σ hn
          show (wipe (σ.set i (some x)) ws).set w none = ((wipe σ ws).set w none).set i (some x)
          rw [ih σ (fun z => hn (List.mem_cons_of_mem _ z)), List.set_comm _ _ (fun z => hn (by rw [z]; exact List.mem_cons_self))]
      rw [comm vs σ hm, List.set_set]
mutual
theorem Pat.rep {K : PySem.W.Frag} {H : Hp} {M : Mem} (s : Sim K H M) (vs : List Nat) : ∀ (p : Pat) {d : D} {v : V} {env env' : DEnv} {σ : L2.St}, RepD K H d v → RepE K H env σ → p.bind M d env = some env' → (∀ i ∈ p.slots, i ∈ vs) →
    ∃ σ', RepE K H env' σ' ∧ wipe σ' vs = wipe σ vs ∧ ∀ Q : L2.St → Hp → Prop, Q σ' H → p.tg K v σ H Q
  | .nm i, d, v, env, env', σ, r, re, h, hs => by
    simp only [Pat.bind, Option.some.injEq] at h
    subst h
    exact ⟨σ.set i (some v), re.set r i, wipe_set (hs i (by simp [Pat.slots])), fun Q q => q⟩
  | .tp ps, d, v, env, env', σ, r, re, h, hs => by
    unfold Pat.bind at h
    split at h
    · rename_i ds hd
      unfold seqOf at hd
      split at hd
      · cases hd
        obtain ⟨a, us, rfl, q, l⟩ := rep_tup r
        obtain ⟨σ', h1, h2, h3⟩ := Pat.repL s vs ps l re h (by simpa [Pat.slots] using hs)
        refine ⟨σ', h1, h2, fun Q q' => .inl ⟨a, us, rfl, q, ?_, h3.2 Q q'⟩⟩
        exact h3.1
      · split at hd <;> cases hd
        rename_i hm
        obtain ⟨us, e, l⟩ := s.lst hm
        rw [rep_v r]
        obtain ⟨σ', h1, h2, h3⟩ := Pat.repL s vs ps l re h (by simpa [Pat.slots] using hs)
        exact ⟨σ', h1, h2, fun Q q' => .inr ⟨_, us, rfl, SqL.of e, h3.1, h3.2 Q q'⟩⟩
      · cases hd
    · cases h
theorem Pat.repL {K : PySem.W.Frag} {H : Hp} {M : Mem} (s : Sim K H M) (vs : List Nat) : ∀ (ps : List Pat) {ds : List D} {us : List V} {env env' : DEnv} {σ : L2.St}, RepL K H ds us → RepE K H env σ → bindL M ps ds env = some env' → (∀ i ∈ slotsL ps, i ∈ vs) →
    ∃ σ', RepE K H env' σ' ∧ wipe σ' vs = wipe σ vs ∧ us.length = ps.length ∧ ∀ Q : L2.St → Hp → Prop, Q σ' H → tgs K ps us σ H Q
  | [], [], us, env, env', σ, r, re, h, hs => by
    simp only [bindL, Option.some.injEq] at h
    subst h
    unfold RepL at r
    subst r
    exact ⟨σ, re, rfl, rfl, fun Q q => ⟨rfl, q⟩⟩
  | p :: ps, d :: ds, us, env, env', σ, r, re, h, hs => by
    unfold bindL at h
    split at h
    · rename_i env1 hb
      unfold RepL at r
      obtain ⟨u, t, rfl, q, l⟩ := r
      obtain ⟨σ1, h1, h2, h3⟩ := Pat.rep s vs p q re hb (fun i hi => hs i (by simp [slotsL, hi]))
      obtain ⟨σ2, g1, g2, g3, g4⟩ := Pat.repL s vs ps l h1 h (fun i hi => hs i (by simp [slotsL, hi]))
      exact ⟨σ2, g1, g2.trans h2, by simp [g3], fun Q q' => ⟨u, t, rfl, h3 _ (g4 Q q')⟩⟩
    · cases h
  | [], _ :: _, _, _, _, _, _, _, h, _ => by simp [bindL] at h
  | _ :: _, [], _, _, _, _, _, _, h, _ => by simp [bindL] at h
end
section
variable {X : Cx} {pos : Pos}
theorem xg_name (i : Nat) {x : Str} (hN : X.N.Nodup) (hi : X.N[i]? = some x := by rfl) (hx : Loc X.env.scope x := by first | exact .inl rfl | exact .inr rfl) (hf : X.fn x = true ∨ X.env.scope.names.lookup x = some .local := by first | exact .inl rfl | exact .inr rfl) : PG X (.Name x pos) ((Pat.nm i).tg X.K) := by
  unfold Pat.tg
  exact pg_name hN hi hx hf
theorem xgs_nil : PGs X [] (tgs X.K []) := by unfold tgs; exact pgs_nil
theorem xgs_cons {e : Expr} {es : List Expr} {p : Pat} {ps : List Pat} (h1 : PG X e (p.tg X.K)) (h2 : PGs X es (tgs X.K ps)) (hs : (assignEach (e :: es) X.env).map (·.2) = assign e X.env :: (assignEach es X.env).map (·.2) := by rfl) : PGs X (e :: es) (tgs X.K (p :: ps)) := by
  unfold tgs
  exact pgs_cons h1 h2 hs
theorem xg_tup {es : List Expr} {k : Nat} {ps : List Pat} (hc : X.calm = true) (h : PGs X es (tgs X.K ps)) (hn : (assignEach es X.env).length = ps.length := by rfl) (hst : (assignEach es X.env).findIdx? (·.1) = none := by rfl) : PG X (.Tuple es k pos) ((Pat.tp ps).tg X.K) := by
  unfold Pat.tg
  refine ⟨fun pins s σ H v u Q I r hw => ?_⟩
  rcases hw with hw | hw
  · exact (pg_tup hc h hn hst).run pins s σ H v u Q I r hw
  · exact (pg_lst hc h hn hst).run pins s σ H v u Q I r hw
end

/-! statements -/
def dNext : DS := fun D env M => D.nx env M
def dSeq (t u : DS) : DS := fun D env M => t { D with nx := u D } env M
def dDrop (te : DE) : DS := fun D env M => te env M (fun _ M1 => D.nx env M1) (fun c f M1 => D.ex c f env M1)
def dRet (te : DE) : DS := fun D env M => te env M D.rt (fun c f M1 => D.ex c f env M1)
def dRetN : DS := fun D env M => D.rt .non M
def dIfS (tc : DT) (t u : DS) : DS := fun D env M => tc env M (fun b M1 => if b = true then t D env M1 else u D env M1) (fun c f M1 => D.ex c f env M1)
def dAsg (te : DE) (p : Pat) : DS := fun D env M => te env M (fun d M1 => match p.bind M1 d env with
  | some env1 => D.nx env1 M1
  | none => False) (fun c f M1 => D.ex c f env M1)
def dBrk : DS := fun D env M => D.bk env M
def dCont : DS := fun D env M => D.ct env M
theorem ends_ex {K : PySem.W.Frag} {W : WX} {H : Hp} {D : Ends} {env : DEnv} {σ : L2.St} (re : RepE K H env σ) : ∀ c f M1, (upEnds K W H D).ex c f env M1 → upX K W H σ c f M1 := fun c f M1 q d H' e s r => q d σ H' e s (re.mono e) r
theorem upN_mono {K : PySem.W.Frag} {H H1 : Hp} {Q : L2.St → Hp → Prop} (e : Ext K H H1) : ∀ env M1, upN K H Q env M1 → upN K H1 Q env M1 := fun c M1 q σ' H' e' s r => q σ' H' (e.trans e') s r
theorem upEnds_le {K : PySem.W.Frag} {W : WX} {H H1 : Hp} {D : Ends} (e : Ext K H H1) : (upEnds K W H D).Le (upEnds K W H1 D) :=
  ⟨upN_mono e, upK_mono e, upN_mono e, upN_mono e, fun c f env M1 q d σ' H' e' s r x => q d σ' H' (e.trans e') s r x⟩
theorem DEnds.Le.refl {D : DEnds} : D.Le D := ⟨fun _ _ h => h, fun _ _ h => h, fun _ _ h => h, fun _ _ h => h, fun _ _ _ _ h => h⟩
section
variable {X : Cx} {W : WX} {st : Stmt} {rest : List Stmt} {t u : DS} {e c : Expr} {te : DE} {tc : DT} {pos : Pos}
theorem xss_nil : XSs X W [] dNext := by
  refine ⟨fun D D' env M l h => l.nx _ _ h, PSsw pss_nil ?_⟩
  rintro D σ H ⟨env, M, re, s, h⟩
  exact h σ H Ext.refl s re
theorem dSeq_mono {t u : DS} (ht : MonoS t) (hu : MonoS u) : MonoS (dSeq t u) := fun D D' env M l => ht _ _ _ _ ⟨fun e M => hu _ _ _ _ l, l.rt, l.bk, l.ct, l.ex⟩
theorem xss_cons (h1 : XS X W st t) (h2 : XSs X W rest u) : XSs X W (st :: rest) (dSeq t u) := by
  refine ⟨dSeq_mono h1.mono h2.mono, PSsw (pss_cons h1.ps h2.ps) ?_⟩
  rintro D σ H ⟨env, M, re, s, h⟩
  refine ⟨env, M, re, s, h1.mono { upEnds X.K W H D with nx := u (upEnds X.K W H D) } _ _ _ ⟨fun env1 M1 q σ1 H1 e1 s1 re1 => ?_, fun _ _ q => q, fun _ _ q => q, fun _ _ q => q, fun _ _ _ _ q => q⟩ h⟩
  exact ⟨env1, M1, re1, s1, h2.mono _ _ _ _ (upEnds_le e1) q⟩
theorem xss_one (h1 : XS X W st t) : XSs X W [st] t := ⟨h1.mono, pss_one h1.ps⟩
theorem xs_pass : XS X W (.Pass pos) dNext := by
  refine ⟨fun D D' env M l h => l.nx _ _ h, PSw ps_pass ?_⟩
  rintro D σ H ⟨env, M, re, s, h⟩
  exact h σ H Ext.refl s re
theorem xs_break : XS X W (.Break pos) dBrk := by
  refine ⟨fun D D' env M l h => l.bk _ _ h, PSw ps_break ?_⟩
  rintro D σ H ⟨env, M, re, s, h⟩
  exact h σ H Ext.refl s re
theorem xs_continue : XS X W (.Continue pos) dCont := by
  refine ⟨fun D D' env M l h => l.ct _ _ h, PSw ps_continue ?_⟩
  rintro D σ H ⟨env, M, re, s, h⟩
  exact h σ H Ext.refl s re
theorem xs_expr (he : XE X W e te) (hs : swapsWith e none pos.line X.env = pure false := by rfl) : XS X W (.Expr e pos) (dDrop te) := by
  refine ⟨fun D D' env M l h => he.mono _ _ _ _ _ _ (fun _ M1 => l.nx _ M1) (fun c f M1 => l.ex c f _ M1) h, PSw (ps_expr he.pe hs) ?_⟩
  rintro D σ H ⟨env, M, re, s, h⟩
  exact stepE he.mono re s h (fun d M1 u H1 e1 s1 re1 r1 q => q σ H1 e1 s1 re1) (ends_ex re)
theorem xs_ret (he : XE X W e te) : XS X W (.Return (some e) pos) (dRet te) := by
  refine ⟨fun D D' env M l h => he.mono _ _ _ _ _ _ (fun d M1 => l.rt d M1) (fun c f M1 => l.ex c f _ M1) h, PSw (ps_ret he.pe) ?_⟩
  rintro D σ H ⟨env, M, re, s, h⟩
  exact stepE he.mono re s h (fun d M1 u H1 e1 s1 re1 r1 q => q u H1 e1 s1 r1) (ends_ex re)
theorem xs_retN : XS X W (.Return none pos) dRetN := by
  refine ⟨fun D D' env M l h => l.rt _ _ h, PSw ps_retN ?_⟩
  rintro D σ H ⟨env, M, re, s, h⟩
  exact h .non H Ext.refl s rep_of
theorem xs_if {a b : List Stmt} (hc : XT X W c tc) (ha : XSs X W a t) (hb : XSs X W b u) : XS X W (.If c a b pos) (dIfS tc t u) := by
  refine ⟨fun D D' env M l h => hc.mono _ _ _ _ _ _ (fun b M1 => ?_) (fun c f M1 => l.ex c f _ M1) h, PSw (ps_if hc.pt ha.ps hb.ps) ?_⟩
  · cases b with
    | true => rw [if_pos rfl, if_pos rfl]; exact ha.mono _ _ _ _ l
    | false => rw [if_neg Bool.false_ne_true, if_neg Bool.false_ne_true]; exact hb.mono _ _ _ _ l
  · rintro D σ H ⟨env, M, re, s, h⟩
    refine stepT hc.mono re s h (fun b M1 H1 e1 s1 re1 q => ?_) (ends_ex re)
    cases b with
    | true =>
      rw [if_pos rfl] at q ⊢
      exact ⟨env, M1, re1, s1, ha.mono _ _ _ _ (upEnds_le e1) q⟩
    | false =>
      rw [if_neg Bool.false_ne_true] at q ⊢
      exact ⟨env, M1, re1, s1, hb.mono _ _ _ _ (upEnds_le e1) q⟩
theorem bind_mono {p : Pat} {M1 : Mem} {d : D} {env : DEnv} {N N' : DEnv → Mem → Prop} (h : ∀ e M, N e M → N' e M) : (match p.bind M1 d env with | some env1 => N env1 M1 | none => False) → (match p.bind M1 d env with | some env1 => N' env1 M1 | none => False) := by
  cases p.bind M1 d env with
  | none => exact id
  | some e => exact h e M1
theorem asg_up (he : XE X W e te) (p : Pat) : ∀ D σ H, liftS X.K W (dAsg te p) D σ H → tAsg (liftE X.K W te) (p.tg X.K) D σ H := by
  rintro D σ H ⟨env, M, re, s, h⟩
  refine stepE he.mono re s h (fun d M1 u H1 e1 s1 re1 r1 q => ?_) (ends_ex re)
  split at q
  · rename_i env1 hb
    obtain ⟨σ', h1, _, h3⟩ := Pat.rep s1 p.slots p r1 re1 hb (fun _ h => h)
    exact h3 _ (q σ' H1 e1 s1 h1)
  · exact q.elim
theorem dAsg_mono (he : MonoE te) {p : Pat} : MonoS (dAsg te p) := fun D D' env M l h => he _ _ _ _ _ _ (fun d M1 => bind_mono l.nx) (fun c f M1 => l.ex c f _ M1) h
theorem xs_asg {tg : Expr} {p : Pat} (he : XE X W e te) (hg : PG X tg (p.tg X.K)) (hs : swapsWithSole [tg] e pos.line X.env = pure false := by rfl) (hw : swappedStores [tg] e X.env = pure none := by rfl)
    (h1 : (assignEach [tg] X.env).map (·.2) = [assign tg X.env] := by rfl) : XS X W (.Assign [tg] e pos) (dAsg te p) := ⟨dAsg_mono he.mono, PSw (ps_asg he.pe hg hs hw h1) (asg_up he p)⟩
theorem xs_set (i : Nat) {x : Str} {pos' : Pos} (hN : X.N.Nodup) (he : XE X W e te) (hi : X.N[i]? = some x := by rfl) (hx : Loc X.env.scope x := by first | exact .inl rfl | exact .inr rfl)
    (hs : swapsWith e (some (.Name x pos')) pos.line X.env = pure false := by rfl) (hf : X.fn x = true ∨ X.env.scope.names.lookup x = some .local := by first | exact .inl rfl | exact .inr rfl) : XS X W (.Assign [.Name x pos'] e pos) (dAsg te (.nm i)) := by
  refine ⟨dAsg_mono he.mono, PSw (ps_set hN hi hx he.pe hs hf) fun D σ H h => ?_⟩
  have := asg_up he (.nm i) D σ H h
  unfold Pat.tg at this
  exact this
/-- x op= e -/
def dAug (i : Nat) (r : DOp2) (te : DE) : DS := fun D env M => match env[i]? with
  | some (some x) => te env M (fun y M1 => (r x y M1).run M1 (fun z M2 => D.nx (env.set i (some z)) M2)) (fun c f M1 => D.ex c f env M1)
  | _ => False
theorem xs_aug (i : Nat) {x : Str} {op : Operator} {r : DOp2} {pos' : Pos} (hN : X.N.Nodup) (ho : XOp X (inplaceOp op) r) (he : XE X W e te) (hi : X.N[i]? = some x := by rfl) (hx : Loc X.env.scope x := by first | exact .inl rfl | exact .inr rfl)
    (hf : X.fn x = true ∨ X.env.scope.names.lookup x = some .local := by first | exact .inl rfl | exact .inr rfl) : XS X W (.AugAssign (.Name x pos') op e pos) (dAug i r te) := by
  refine ⟨fun D D' env M l h => ?_, PSw (ps_aug (ti := upR2 X.K r) hN hi hx he.pe ?_ hf) ?_⟩
  · unfold dAug at h ⊢
    split at h <;> first | exact h.elim | skip
    exact he.mono _ _ _ _ _ _ (fun y M1 => Res.mono fun z M2 => l.nx _ M2) (fun c f M1 => l.ex c f _ M1) h
  · intro pins s σ H x y v u Q I rx ry q
    exact ho pins s σ H x y v u Q I rx ry q
  · rintro D σ H ⟨env, M, re, s, h⟩
    unfold dAug at h
    split at h <;> first | exact h.elim | skip
    rename_i d hd
    obtain ⟨v, h1, h2⟩ := re.2 i d hd
    refine ⟨v, h1, stepE he.mono re s h (fun y M1 u H1 e1 s1 re1 r1 q => ?_) (ends_ex re)⟩
    exact ⟨d, y, M1, RepD.mono e1 _ h2, r1, s1, Res.mono (fun z M2 q2 u2 H2 e2 s2 r2 => q2 _ H2 (e1.trans e2) s2 (re1.mono e2 |>.set r2 i)) q⟩
theorem x_iadd : XOp X (inplaceOp .Add) (fun x y M => match x, y with | .v (.int i), .v (.int j) => .val True (.int (i + j)) | .v (.str a), .v (.str b) => .val (a.length + b.length ≤ sizeLine) (.str (a ++ b)) | _, _ => .bad) := by
  rintro pins s σ H x y v u Q I rx ry ⟨dx, dy, M, r1, r2, sm, h⟩
  dsimp only at h
  split at h <;> first | exact h.elim | skip
  all_goals rw [rep_v r1] at rx; rw [rep_v r2] at ry
  · exact iop_add pins s σ H _ _ v u Q I rx ry ⟨_, _, rfl, rfl, fin_val h.2 sm⟩
  · exact iop_add_str pins s σ H _ _ v u Q I rx ry ⟨_, _, rfl, rfl, h.1, fin_val h.2 sm⟩
theorem x_isub : XOp X (inplaceOp .Sub) opSub := by
  rintro pins s σ H x y v u Q I rx ry ⟨dx, dy, M, r1, r2, sm, h⟩
  unfold opSub at h
  split at h <;> first | exact h.elim | skip
  rw [rep_v r1] at rx; rw [rep_v r2] at ry
  exact iop_sub pins s σ H _ _ v u Q I rx ry ⟨_, _, rfl, rfl, fin_val h.2 sm⟩
end
def opIadd : DOp2 := fun x y M => match x, y with | .v (.int i), .v (.int j) => .val True (.int (i + j)) | .v (.str a), .v (.str b) => .val (a.length + b.length ≤ sizeLine) (.str (a ++ b)) | _, _ => .bad

/-! o[i] = v -/
def putD {κ : Type} [DecidableEq κ] (kvs : List (κ × D)) (k : κ) (d : D) : List (κ × D) := if (kvs.any fun kv => decide (kv.1 = k)) = true then kvs.map (fun kv => if kv.1 = k then (kv.1, d) else kv) else kvs ++ [(k, d)]
theorem RepKV.put {κ : Type} [DecidableEq κ] {K : PySem.W.Frag} {H : Hp} {k : κ} {d : D} {u : V} (q : RepD K H d u) {kvs : List (κ × D)} {us : List (κ × V)} (h : RepKV K H kvs us) : RepKV K H (putD kvs k d) (putK us k u) := by
  have a : ∀ {kvs : List (κ × D)} {us : List (κ × V)}, RepKV K H kvs us → (us.any fun kv => decide (kv.1 = k)) = (kvs.any fun kv => decide (kv.1 = k)) := by
    intro kvs
    induction kvs with
    | nil => intro us h; unfold RepKV at h; rw [h]; rfl
    | cons p r ih =>
      intro us h
      obtain ⟨u', t, rfl, _, z⟩ := h
      simp [List.any_cons, ih z]
  have b : ∀ {kvs : List (κ × D)} {us : List (κ × V)}, RepKV K H kvs us → RepKV K H (kvs.map fun kv => if kv.1 = k then (kv.1, d) else kv) (us.map fun kv => if kv.1 = k then (kv.1, u) else kv) := by
    intro kvs
    induction kvs with
    | nil => intro us h; unfold RepKV at h; rw [h]; rfl
    | cons p r ih =>
      intro us h
      obtain ⟨k', d'⟩ := p
      obtain ⟨u', t, rfl, q', z⟩ := h
      by_cases e : k' = k
      · simp only [List.map_cons, e, if_true]
        exact ⟨u, _, rfl, q, ih z⟩
      · simp only [List.map_cons, e, if_false]
        exact ⟨u', _, rfl, q', ih z⟩
  have c : ∀ {kvs : List (κ × D)} {us : List (κ × V)}, RepKV K H kvs us → RepKV K H (kvs ++ [(k, d)]) (us ++ [(k, u)]) := by
    intro kvs
    induction kvs with
    | nil => intro us h; unfold RepKV at h; rw [h]; exact ⟨u, [], rfl, q, rfl⟩
    | cons p r ih =>
      intro us h
      obtain ⟨k', d'⟩ := p
      obtain ⟨u', t, rfl, q', z⟩ := h
      exact ⟨u', _, rfl, q', ih z⟩
  unfold putD putK
  rw [a h]
  split
  · exact b h
  · exact c h
/-- o i v -/
def opPut : D → D → D → Mem → Res
  | .v (.ref a), y, z, M => match M a with
    | some (.lst ds) => match y with
      | .v (.int i) => match ixN ds.length i with
        | some j => .put True a (.lst (ds.set j z)) .non
        | none => .bad
      | _ => .bad
    | some (.dk kvs) => match y.key with
      | some k => .put (kvs.length < sizeLine) a (.dk (putD kvs k z)) .non
      | none => .bad
    | _ => .bad
  | _, _, _, _ => .bad
def dPut (te to ti : DE) : DS := fun D env M => te env M (fun z M1 => to env M1 (fun o M2 => ti env M2 (fun i M3 => (opPut o i z M3).run M3 (fun _ M4 => D.nx env M4)) (fun c f M' => D.ex c f env M')) (fun c f M' => D.ex c f env M')) (fun c f M' => D.ex c f env M')
section
variable {X : Cx} {W : WX} {o i e : Expr} {to ti te : DE} {pos pos' : Pos}
theorem x_put (hu : X.A.units + 200 < cLine) : PSet X (fun o i v H Q => ∃ d1 di dv M, RepD X.K H d1 o ∧ RepD X.K H di i ∧ RepD X.K H dv v ∧ Sim X.K H M ∧ (opPut d1 di dv M).run M (fun _ M' => ∀ H', Ext X.K H H' → Sim X.K H' M' → Q H')) := by
  rintro pins s σ H o i v ov iv u Q I ro ri rv ⟨d1, d2, d3, M, r1, r2, r3, sm, h⟩
  unfold opPut at h
  split at h <;> first | exact h.elim | skip
  have e1 := rep_v r1
  subst e1
  have ro2 := ro
  obtain rfl : ov = Value.ref _ := ro
  split at h <;> first | exact h.elim | skip
  · split at h <;> first | exact h.elim | skip
    split at h <;> first | exact h.elim | skip
    rename_i hm _ k _ j hj
    rw [rep_v r2] at ri
    obtain ⟨ws, e1, l1⟩ := sm.lst hm
    refine set_list pins s σ H _ _ v _ iv u Q I ro2 ri rv ⟨_, ws, _, j, rfl, rfl, e1, by rw [l1.length]; exact hj, ?_⟩
    exact h.2 _ (Ext.mut e1 True.intro) (sm.put e1 True.intro (repO_lst (Ext.mut e1 True.intro) (RepL.set r3 j l1)))
  · split at h <;> first | exact h.elim | skip
    rename_i kvs hm _ k hk
    obtain ⟨ws, e1, l1⟩ := sm _ _ hm
    have ei := key_rep hk r2
    subst ei
    refine d_setItem (by omega) I (DPut.k e1 (by rw [l1.length]; exact h.1)) ri rv fun s' I' => ⟨_, I', ?_⟩
    have ex := Ext.mut (K := X.K) (o' := .dK (putK ws k v)) e1 True.intro
    exact h.2 _ ex (sm.put e1 True.intro ⟨_, upd_same, RepKV.mono ex (RepKV.put r3 l1)⟩)
theorem xs_put (hu : X.A.units + 200 < cLine) (he : XE X W e te) (ho : XE X W o to) (hi : XE X W i ti) (hs : swapsWithSole [.Subscript o i pos'] e pos.line X.env = pure false := by rfl) (hw : swappedStores [.Subscript o i pos'] e X.env = pure none := by rfl)
    (h1 : (assignEach [.Subscript o i pos'] X.env).map (·.2) = [assign (.Subscript o i pos') X.env] := by rfl)
    (ha : ∀ v, assign (.Subscript o i pos') X.env v = (do let ov ← holding [v] (eval o X.env); let iv ← holding [v, ov] (eval i X.env); standAt pos'; holding [v, ov, iv] (setItem ov iv v); release [v, ov, iv] []) := by intro _; rfl) :
    XS X W (.Assign [.Subscript o i pos'] e pos) (dPut te to ti) := by
  refine ⟨fun D D' env M l h => he.mono _ _ _ _ _ _ (fun z M1 => ho.mono _ _ _ _ _ _ (fun o M2 => hi.mono _ _ _ _ _ _ (fun i M3 => Res.mono fun _ M4 => l.nx _ M4) (fun c f M' => l.ex c f _ M')) (fun c f M' => l.ex c f _ M')) (fun c f M' => l.ex c f _ M') h,
    PSw (ps_asg he.pe (pg_sub ho.pe hi.pe (x_put hu) ha) hs hw h1) ?_⟩
  rintro D σ H ⟨env, M, re, s, h⟩
  refine stepE he.mono re s h (fun z M1 u H1 e1 s1 re1 r1 h1 => ?_) (ends_ex re)
  refine stepE ho.mono re1 s1 h1 (fun o M2 u2 H2 e2 s2 re2 r2 h2 => ?_) fun c f M' q => upX_mono e1 c f M' (ends_ex re c f M' q)
  refine stepE hi.mono re2 s2 h2 (fun i M3 u3 H3 e3 s3 re3 r3 h3 => ?_) fun c f M' q => upX_mono (e1.trans e2) c f M' (ends_ex re c f M' q)
  exact ⟨o, i, z, M3, RepD.mono e3 _ r2, r3, RepD.mono (e2.trans e3) _ r1, s3, Res.mono (fun _ M4 q H' e4 s4 => q σ H' (((e1.trans e2).trans e3).trans e4) s4 (re3.mono e4)) h3⟩
end
end PL

namespace PL
open PySem PySem.Spec PyProof.Rows L2

/-! what is walked: items; what must stand while it is walked -/
structure DIt where
  items : List D
  keep : Mem → Prop
abbrev DI := DEnv → Mem → (DIt → Mem → Prop) → DX → Prop
def MonoI (t : DI) : Prop := ∀ env M (Q Q' : DIt → Mem → Prop) (E E' : DX), (∀ d M, Q d M → Q' d M) → (∀ c f M, E c f M → E' c f M) → t env M Q E → t env M Q' E'
structure ItRep (K : PySem.W.Frag) (H0 : Hp) (J' : It) (J : DIt) : Prop where
  go : ∀ i H M, Ext K H0 H → Sim K H M → J.keep M → i < J.items.length → J'.go i H
  yld : ∀ i H M x H', Ext K H0 H → Sim K H M → J.keep M → i < J.items.length → J'.yld i H x H' → ∃ d, J.items[i]? = some d ∧ RepD K H' d x ∧ Ext K H H' ∧ Sim K H' M
  stop : ∀ H M, Ext K H0 H → Sim K H M → J.keep M → J'.stop J.items.length H
def liftI (K : PySem.W.Frag) (W : WX) (t : DI) : TI := fun σ H R => ∃ env M, RepE K H env σ ∧ Sim K H M ∧ t env M (fun J M' => ∀ J' H', Ext K H H' → Sim K H' M' → ItRep K H' J' J → R J' H') (upX K W H σ)
structure XI (X : Cx) (W : WX) (tg e : Expr) (t : DI) : Prop where
  mono : MonoI t
  pi : PI X tg e (liftI X.K W t)
theorem PIw {X : Cx} {tg e : Expr} {t t' : TI} (h : PI X tg e t) (w : ∀ σ H Q, t' σ H Q → t σ H Q) : PI X tg e t' := ⟨fun pins s σ H Q I q => h.run pins s σ H Q I (w σ H Q q)⟩

theorem rep_list {K : PySem.W.Frag} {H0 : Hp} {a : Addr} {ds : List D} : ItRep K H0 (Itl K a) ⟨ds, fun M => M a = some (.lst ds) ∨ M a = some (.rol ds)⟩ where
  go := fun i H M _ s k hi => by
    obtain ⟨us, q, l⟩ := s.seq k
    have hl : i < us.length := by rw [l.length]; exact hi
    exact ⟨us, us[i], q, by simp [hl]⟩
  yld := fun i H M x H' _ s k _ y => by
    obtain ⟨us, q, l⟩ := s.seq k
    obtain ⟨rfl, y⟩ := y
    obtain ⟨d, h1, h2⟩ := l.get' (y us q)
    exact ⟨d, h1, h2, Ext.refl, s⟩
  stop := fun H M _ s k => by
    obtain ⟨us, q, l⟩ := s.seq k
    exact ⟨us, q, by rw [l.length]; exact Nat.le_refl _⟩
theorem rep_tupI {K : PySem.W.Frag} {H0 : Hp} {a : Addr} {ds : List D} {us : List V} (q : SqT K H0 a us) (l : RepL K H0 ds us) : ItRep K H0 (Itt K a) ⟨ds, fun _ => True⟩ where
  go := fun i H M e s k hi => by
    have hl : i < us.length := by rw [l.length]; exact hi
    exact ⟨us, us[i], e _ _ q, by simp [hl]⟩
  yld := fun i H M x H' e s k _ y => by
    obtain ⟨rfl, y⟩ := y
    obtain ⟨d, h1, h2⟩ := (RepL.mono e ds l).get' (y us (e _ _ q))
    exact ⟨d, h1, h2, Ext.refl, s⟩
  stop := fun H M e s k => ⟨us, e _ _ q, by rw [l.length]; exact Nat.le_refl _⟩

def rg (lo : Int) (n : Nat) : List D := (List.range n).map fun i => D.int (lo + (i : Nat))
theorem rg_length (lo : Int) (n : Nat) : (rg lo n).length = n := by simp [rg]
theorem rep_range {K : PySem.W.Frag} {H0 : Hp} {lo : Int} {n : Nat} : ItRep K H0 (Itr lo n) ⟨rg lo n, fun _ => True⟩ where
  go := fun i H M e s k hi => by rw [rg_length] at hi; exact hi
  yld := fun i H M x H' e s k hi y => by
    obtain ⟨rfl, rfl⟩ := y
    rw [rg_length] at hi
    exact ⟨.int (lo + (i : Nat)), by simp [rg, hi], rep_of, Ext.refl, s⟩
  stop := fun H M e s k => by rw [rg_length]; exact Nat.le_refl n
def signs (x : Str) : List D := x.cps.toList.map fun c => D.str ⟨#[c]⟩
theorem rep_str {K : PySem.W.Frag} {H0 : Hp} {x : Str} : ItRep K H0 (Its x) ⟨signs x, fun _ => True⟩ where
  go := fun i H M e s k hi => by
    have : (signs x).length = x.cps.size := by simp [signs]
    show i < x.cps.size
    rw [← this]
    exact hi
  yld := fun i H M v H' e s k hi y => by
    obtain ⟨rfl, c, hc, rfl⟩ := y
    refine ⟨.str ⟨#[c]⟩, ?_, rep_of, Ext.refl, s⟩
    simp [signs, List.getElem?_map, hc]
  stop := fun H M e s k => by
    have : (signs x).length = x.cps.size := by simp [signs]
    rw [this]
    exact Nat.le_refl _

/-! for over a list, a tuple, a text -/
def dWalk (te : DE) : DI := fun env M R E => te env M (fun d M1 => match d with
  | .tup ds => R ⟨ds, fun _ => True⟩ M1
  | .v (.str x) => R ⟨signs x, fun _ => True⟩ M1
  | .v (.ref a) => match M1 a with
    | some (.lst ds) => R ⟨ds, fun M => M a = some (.lst ds) ∨ M a = some (.rol ds)⟩ M1
    | some (.rol ds) => R ⟨ds, fun M => M a = some (.lst ds) ∨ M a = some (.rol ds)⟩ M1
    | _ => False
  | _ => False) E
section
variable {X : Cx} {W : WX} {tg e : Expr} {te : DE} {pos p : Pos}
theorem iter_list {pins : List (Addr × Obj)} {σ : L2.St} {H : Hp} {s : Shared} {a : Addr} {us : List V} {R : It → Hp → Prop} (I : Inv X pins σ H s) (h : SqL X.K H a us) (q : R (Itl X.K a) H) : wpAny (model X.prog X.w) X.A (pyIter (.ref a)) (PIE X pins σ tg R) X.xe s := by
  obtain ⟨its, rv, p, hz⟩ := I.list h
  exact wpAny_pyIter_list p.isList (pi_one (tk := s.toks) I _ (turn_list a _) ⟨_, Heap.get?_push_size _ rfl, rfl, rfl⟩ q)
theorem iter_tup {pins : List (Addr × Obj)} {σ : L2.St} {H : Hp} {s : Shared} {a : Addr} {us : List V} {R : It → Hp → Prop} (I : Inv X pins σ H s) (h : SqT X.K H a us) (q : R (Itt X.K a) H) : wpAny (model X.prog X.w) X.A (pyIter (.ref a)) (PIE X pins σ tg R) X.xe s := by
  obtain ⟨its, rv, p, hz⟩ := I.tuple h
  exact wpAny_pyIter_tuple (show s.heap.IsTuple a its.toArray from p) (pi_one (tk := s.toks) I _ (turn_tuple a _) ⟨_, Heap.get?_push_size _ rfl, rfl, rfl⟩ q)
theorem iter_str {pins : List (Addr × Obj)} {σ : L2.St} {H : Hp} {s : Shared} {x : Str} {t : Tok} {R : It → Hp → Prop} (I : Inv X pins σ H s) (q : R (Its x) H) : wpAny (model X.prog X.w) X.A (pyIter (.str x t)) (PIE X pins σ tg R) X.xe s := by
  cases hx : x.cps.all (· < 128) with
  | false => exact wpAny_pyIter_wide hx (pi_one (tk := s.toks) I _ (turn_str _ x t "str_iterator" (.inr rfl)) ⟨_, Heap.get?_push_size _ rfl, rfl, rfl⟩ q)
  | true => exact wpAny_pyIter_ascii hx (pi_one (tk := s.toks) I _ (turn_str _ x t "str_ascii_iterator" (.inl rfl)) ⟨_, Heap.get?_push_size _ rfl, rfl, rfl⟩ q)
theorem xi_walk (he : XE X W e te) : XI X W tg e (dWalk te) := by
  refine ⟨fun env M Q Q' E E' hQ hE => he.mono env M _ _ _ _ (fun d M1 => ?_) hE, ⟨fun pins s σ H R I h => ?_⟩⟩
  · cases d with
    | tup ds => exact hQ _ _
    | v x => cases x with
      | str z => exact hQ _ _
      | ref a =>
        dsimp only
        cases M1 a with
        | none => exact id
        | some o => cases o <;> first | exact id | exact hQ _ _
      | _ => exact id
  · obtain ⟨env, M, re, sm, h⟩ := h
    have q : liftE X.K W te σ H fun u H1 => (∃ a us, u = .ref a ∧ SqL X.K H1 a us ∧ R (Itl X.K a) H1) ∨ (∃ a us, u = .ref a ∧ SqT X.K H1 a us ∧ R (Itt X.K a) H1) ∨ ∃ x, u = .str x ∧ R (Its x) H1 := by
      refine stepE he.mono re sm h (fun d M1 u H1 e1 s1 re1 r1 q => ?_) fun _ _ _ z => z
      split at q
      · obtain ⟨a, us, rfl, q1, l1⟩ := rep_tup r1
        exact .inr (.inl ⟨a, us, rfl, q1, q _ H1 e1 s1 (rep_tupI q1 l1)⟩)
      · exact .inr (.inr ⟨_, rep_v r1, q _ H1 e1 s1 rep_str⟩)
      · split at q <;> first | exact q.elim | skip
        · rename_i hm
          obtain ⟨us, q1, l1⟩ := s1.seq (.inl hm)
          exact .inl ⟨_, us, rep_v r1, q1, q _ H1 e1 s1 rep_list⟩
        · rename_i hm
          obtain ⟨us, q1, l1⟩ := s1.seq (.inr hm)
          exact .inl ⟨_, us, rep_v r1, q1, q _ H1 e1 s1 rep_list⟩
      · exact q.elim
    refine thn (he.pe.run pins s σ H _ I q) fun v s1 ⟨u, H1, I1, r1, q1⟩ => ?_
    rcases q1 with ⟨a, us, rfl, q2, q3⟩ | ⟨a, us, rfl, q2, q3⟩ | ⟨x, rfl, q3⟩
    · obtain rfl : v = Value.ref a := r1
      exact iter_list I1 q2 q3
    · obtain rfl : v = Value.ref a := r1
      exact iter_tup I1 q2 q3
    · obtain ⟨t, rfl⟩ := r1
      exact iter_str I1 q3
def dRange1 (ta : DA) : DI := fun env M R E => ta env M (fun ds M1 => match ds with
  | [.v (.int j)] => (-(2 ^ 62) ≤ j ∧ j < 2 ^ 62) ∧ R ⟨rg 0 j.toNat, fun _ => True⟩ M1
  | _ => False) E
def dRange2 (ta : DA) : DI := fun env M R E => ta env M (fun ds M1 => match ds with
  | [.v (.int i), .v (.int j)] => (-(2 ^ 62) ≤ i ∧ i < 2 ^ 62 ∧ -(2 ^ 62) ≤ j ∧ j < 2 ^ 62) ∧ R ⟨rg i (j - i).toNat, fun _ => True⟩ M1
  | _ => False) E
variable {a b : Expr} {ta : DA}
theorem ran1_mono : ∀ (ds : List D) (M1 : Mem) {Q Q' : DIt → Mem → Prop} (_ : ∀ d M, Q d M → Q' d M), (match ds with
  | [.v (.int j)] => (-(2 ^ 62) ≤ j ∧ j < 2 ^ 62) ∧ Q ⟨rg 0 j.toNat, fun _ => True⟩ M1
  | _ => False) → (match ds with
  | [.v (.int j)] => (-(2 ^ 62) ≤ j ∧ j < 2 ^ 62) ∧ Q' ⟨rg 0 j.toNat, fun _ => True⟩ M1
  | _ => False)
  | [], _, _, _, _ => id
  | [.tup _], _, _, _, _ => id
  | [.v x], _, _, _, hQ => by cases x <;> first | exact id | exact fun h => ⟨h.1, hQ _ _ h.2⟩
  | .v x :: _ :: _, _, _, _, hQ => by cases x <;> exact id
  | .tup _ :: _ :: _, _, _, _, _ => id
theorem xi_range1 (hg : Gl X "range") (hm : X.mg "range" = none) (ha : XA X W [a] ta) (hs : starEach [a] X.env = [(false, eval a X.env)] := by rfl) : XI X W tg (.Call (.Name "range" p) [a] [] pos) (dRange1 ta) := by
  refine ⟨fun env M Q Q' E E' hQ hE => ha.mono env M _ _ _ _ (fun ds M1 => ran1_mono ds M1 hQ) hE, PIw (pi_range1 hg hm ha.pa hs) ?_⟩
  rintro σ H R ⟨env, M, re, s, h⟩
  refine stepA ha.mono re s h (fun ds M1 us H1 e1 s1 re1 r1 q => ?_) fun _ _ _ z => z
  split at q <;> first | exact q.elim | skip
  obtain ⟨u, rfl, q1⟩ := rl1 r1
  rw [rep_v q1]
  exact ⟨_, rfl, q.1.1, q.1.2, q.2 _ H1 e1 s1 rep_range⟩
theorem xi_range2 (hg : Gl X "range") (hm : X.mg "range" = none) (ha : XA X W [a, b] ta) (hs : starEach [a, b] X.env = [(false, eval a X.env), (false, eval b X.env)] := by rfl) (hs2 : starEach [b] X.env = [(false, eval b X.env)] := by rfl) :
    XI X W tg (.Call (.Name "range" p) [a, b] [] pos) (dRange2 ta) := by
  refine ⟨fun env M Q Q' E E' hQ hE h => ?_, PIw (pi_range2 hg hm ha.pa hs hs2) ?_⟩
  · refine ha.mono env M _ _ _ _ (fun ds M1 q => ?_) hE h
    split at q <;> first | exact q.elim | exact ⟨q.1, hQ _ _ q.2⟩
  rintro σ H R ⟨env, M, re, s, h⟩
  refine stepA ha.mono re s h (fun ds M1 us H1 e1 s1 re1 r1 q => ?_) fun _ _ _ z => z
  split at q <;> first | exact q.elim | skip
  obtain ⟨u, v, rfl, q1, q2⟩ := rl2 r1
  rw [rep_v q1, rep_v q2]
  exact ⟨_, _, rfl, q.1, q.2 _ H1 e1 s1 rep_range⟩
end

/-! the for statement: a recursion over the items -/
def dLoop (keep : Mem → Prop) (p : Pat) (tb : DS) (Z : DEnds) : List D → DEnv → Mem → Prop
  | [], env, M => keep M ∧ Z.nx env M
  | x :: r, env, M => keep M ∧ match p.bind M x env with
    | some env1 => tb { Z with nx := dLoop keep p tb Z r, ct := dLoop keep p tb Z r, bk := Z.nx } env1 M
    | none => False
def dFor (ti : DI) (p : Pat) (tb : DS) : DS := fun D env M => ti env M (fun J M1 => dLoop J.keep p tb D J.items env M1) (fun c f M1 => D.ex c f env M1)
theorem dLoop_mono {keep : Mem → Prop} {p : Pat} {tb : DS} (hb : MonoS tb) {Z Z' : DEnds} (l : Z.Le Z') : ∀ (xs : List D) (env : DEnv) (M : Mem), dLoop keep p tb Z xs env M → dLoop keep p tb Z' xs env M
  | [], env, M, h => ⟨h.1, l.nx _ _ h.2⟩
  | x :: r, env, M, h => by
    refine ⟨h.1, ?_⟩
    have h2 := h.2
    split
    · rename_i env1 hb1
      rw [hb1] at h2
      exact hb { Z with nx := dLoop keep p tb Z r, ct := dLoop keep p tb Z r, bk := Z.nx } _ _ _ ⟨dLoop_mono hb l r, l.rt, l.nx, dLoop_mono hb l r, l.ex⟩ h2
    · rename_i hb1
      rw [hb1] at h2
      exact h2
section
variable {X : Cx} {W : WX} {tg iter c : Expr} {body : List Stmt} {ti : DI} {p : Pat} {tb : DS} {tc : DT} {pos : Pos}
theorem xs_for (hp : PassesOwn (model X.prog X.w) X.A X.env X.xe) (hc : X.calm = true) (hi : XI X W tg iter ti) (hg : PG X tg (p.tg X.K)) (hb : XSs X W body tb) (hs : ∀ x, foldedSetIterable iter X.env x = pure x := by intro _; rfl) :
    XS X W (.For tg iter body [] pos) (dFor ti p tb) := by
  refine ⟨fun D D' env M l h => hi.mono _ _ _ _ _ _ (fun J M1 => dLoop_mono hb.mono l _ _ _) (fun c f M1 => l.ex c f _ M1) h, PSw (ps_for hp hc hi.pi hg hb.ps hs) ?_⟩
  rintro D σ H ⟨env, M, re, s, h⟩
  refine ⟨env, M, re, s, hi.mono _ _ _ _ _ _ (fun J M1 q J' H1 e1 s1 ir => ?_) (ends_ex re) h⟩
  refine ⟨fun i m σ' H' => m = J.items.length - i ∧ i ≤ J.items.length ∧ Ext X.K H1 H' ∧ ∃ env M, RepE X.K H' env σ' ∧ Sim X.K H' M ∧ dLoop J.keep p tb (upEnds X.K W H D) (J.items.drop i) env M,
    ⟨J.items.length, by simp, Nat.zero_le _, Ext.refl, env, M1, re.mono e1, s1, by simpa using q⟩, ?_⟩
  rintro i m σ2 H2 ⟨rfl, hi2, e2, env2, M2, re2, s2, q2⟩
  by_cases hlt : i < J.items.length
  · rw [List.drop_eq_getElem_cons hlt] at q2
    obtain ⟨kp, q2⟩ := q2
    refine .inr ⟨ir.go i H2 M2 e2 s2 kp hlt, fun σ' H' => Ext X.K H1 H' ∧ ∃ env M, RepE X.K H' env σ' ∧ Sim X.K H' M ∧ dLoop J.keep p tb (upEnds X.K W H D) (J.items.drop (i + 1)) env M, fun σ' H' n => ⟨_, by omega, rfl, hlt, n⟩, fun x H3 y => ?_⟩
    obtain ⟨d, hd, r3, e3, s3⟩ := ir.yld i H2 M2 x H3 e2 s2 kp hlt y
    rw [List.getElem?_eq_getElem hlt] at hd
    obtain rfl := Option.some.inj hd
    split at q2
    · rename_i env3 hb3
      obtain ⟨σ3, h1, _, h3⟩ := Pat.rep s3 p.slots p r3 (re2.mono e3) hb3 (fun _ h => h)
      refine h3 _ ⟨env3, M2, h1, s3, hb.mono _ _ _ _ ⟨?_, ?_, ?_, ?_, ?_⟩ q2⟩
      · exact fun env4 M4 n σ4 H4 e4 s4 re4 => ⟨(e2.trans e3).trans e4, env4, M4, re4, s4, n⟩
      · exact upK_mono ((e1.trans e2).trans e3)
      · exact upN_mono ((e1.trans e2).trans e3)
      · exact fun env4 M4 n σ4 H4 e4 s4 re4 => ⟨(e2.trans e3).trans e4, env4, M4, re4, s4, n⟩
      · exact fun c f env4 M4 n d σ4 H4 e4 s4 re4 x4 => n d σ4 H4 (((e1.trans e2).trans e3).trans e4) s4 re4 x4
    · exact q2.elim
  · have e : i = J.items.length := by omega
    subst e
    rw [List.drop_length] at q2
    exact .inl ⟨ir.stop H2 M2 e2 s2 q2.1, q2.2 σ2 H2 (e1.trans e2) s2 re2⟩

/-! while: some number of turns is enough -/
def dWhileN (tc : DT) (tb : DS) (D : DEnds) : Nat → DEnv → Mem → Prop
  | 0, _, _ => False
  | n + 1, env, M => tc env M (fun b M1 => if b = true then tb { D with nx := dWhileN tc tb D n, ct := dWhileN tc tb D n, bk := D.nx } env M1 else D.nx env M1) (fun c f M1 => D.ex c f env M1)
def dWhile (tc : DT) (tb : DS) : DS := fun D env M => ∃ n, dWhileN tc tb D n env M
theorem dWhileN_mono {tc : DT} {tb : DS} (hc : MonoT tc) (hb : MonoS tb) {D D' : DEnds} (l : D.Le D') : ∀ (n : Nat) (env : DEnv) (M : Mem), dWhileN tc tb D n env M → dWhileN tc tb D' n env M
  | 0, _, _, h => h
  | n + 1, env, M, h => by
    refine hc _ _ _ _ _ _ (fun b M1 => ?_) (fun c f M1 => l.ex c f _ M1) h
    cases b with
    | true => rw [if_pos rfl, if_pos rfl]; exact hb _ _ _ _ ⟨dWhileN_mono hc hb l n, l.rt, l.nx, dWhileN_mono hc hb l n, l.ex⟩
    | false => rw [if_neg Bool.false_ne_true, if_neg Bool.false_ne_true]; exact l.nx _ _
theorem xs_while (hp : PassesOwn (model X.prog X.w) X.A X.env X.xe) (hc : XT X W c tc) (hb : XSs X W body tb) : XS X W (.While c body [] pos) (dWhile tc tb) := by
  refine ⟨fun D D' env M l h => h.imp fun n => dWhileN_mono hc.mono hb.mono l n env M, PSw (ps_while hp hc.pt hb.ps) ?_⟩
  rintro D σ H ⟨env, M, re, s, n, h⟩
  refine ⟨fun m σ' H' => Ext X.K H H' ∧ ∃ env M, RepE X.K H' env σ' ∧ Sim X.K H' M ∧ dWhileN tc tb (upEnds X.K W H D) m env M, ⟨n, Ext.refl, env, M, re, s, h⟩, ?_⟩
  rintro m σ1 H1 ⟨e1, env1, M1, re1, s1, h1⟩
  match m, h1 with
  | m + 1, h1 =>
    refine stepT hc.mono re1 s1 h1 (fun b M2 H2 e2 s2 re2 q => ?_) fun c f M' z d H' e s' r => z d σ1 H' (e1.trans e) s' (re1.mono e) r
    cases b with
    | true =>
      rw [if_pos rfl] at q ⊢
      refine ⟨fun σ' H' => Ext X.K H H' ∧ ∃ env M, RepE X.K H' env σ' ∧ Sim X.K H' M ∧ dWhileN tc tb (upEnds X.K W H D) m env M, fun σ' H' z => ⟨m, Nat.lt_succ_self _, z⟩, env1, M2, re2, s2, hb.mono _ _ _ _ ⟨?_, ?_, ?_, ?_, ?_⟩ q⟩
      · exact fun env4 M4 n σ4 H4 e4 s4 re4 => ⟨(e1.trans e2).trans e4, env4, M4, re4, s4, n⟩
      · exact upK_mono (e1.trans e2)
      · exact upN_mono (e1.trans e2)
      · exact fun env4 M4 n σ4 H4 e4 s4 re4 => ⟨(e1.trans e2).trans e4, env4, M4, re4, s4, n⟩
      · exact fun c f env4 M4 n d σ4 H4 e4 s4 re4 x4 => n d σ4 H4 ((e1.trans e2).trans e4) s4 re4 x4
    | false =>
      rw [if_neg Bool.false_ne_true] at q ⊢
      exact q σ1 H2 (e1.trans e2) s2 re2
end
end PL

namespace PL
open PySem PySem.Spec PyProof.Rows L2

/-! list comprehensions -/
def wipeD (env : DEnv) : List Nat → DEnv
  | [] => env
  | v :: vs => (wipeD env vs).set v none
theorem RepE.clear {K : PySem.W.Frag} {H : Hp} {env : DEnv} {σ : L2.St} (r : RepE K H env σ) (v : Nat) : RepE K H (env.set v none) (σ.set v none) := by
  refine ⟨by simp [r.1], fun i d q => ?_⟩
  by_cases hj : v = i
  · subst hj
    by_cases hi : v < env.length
    · rw [List.getElem?_set_self hi] at q; cases q
    · rw [List.getElem?_eq_none (by simpa using hi)] at q; cases q
  · rw [List.getElem?_set_ne hj] at q ⊢
    exact r.2 i d q
theorem RepE.wipe {K : PySem.W.Frag} {H : Hp} {env : DEnv} {σ : L2.St} (r : RepE K H env σ) : ∀ vs : List Nat, RepE K H (wipeD env vs) (L2.wipe σ vs)
  | [] => r
  | v :: vs => (r.wipe vs).clear v
theorem wipe_wipe {σ : L2.St} : ∀ vs : List Nat, L2.wipe (L2.wipe σ vs) vs = L2.wipe σ vs := by
  have comm : ∀ (vs : List Nat) (σ : L2.St) (v : Nat), L2.wipe (σ.set v none) vs = (L2.wipe σ vs).set v none := by
    intro vs
    induction vs with
    | nil => intro σ v; rfl
    | cons w ws ih =>
      intro σ v
      show (L2.wipe (σ.set v none) ws).set w none = ((L2.wipe σ ws).set w none).set v none
      rw [ih]
      by_cases e : v = w
      · subst e; rfl
      · rw [List.set_comm _ _ e]
  intro vs
  induction vs with
  | nil => rfl
  | cons v vs ih =>
    show (L2.wipe ((L2.wipe σ vs).set v none) vs).set v none = (L2.wipe σ vs).set v none
    rw [comm, ih, List.set_set]
abbrev noX : DX := fun _ _ _ => False
/-- a: the new list; the items, what is made so far -/
def dLcGo (keep : Mem → Prop) (p : Pat) (tt : DT) (te : DE) (env : DEnv) (a : Addr) (Q : DK) : List D → List D → Mem → Prop
  | [], acc, M => keep M ∧ M a = some (.lst acc) ∧ Q (.ob a) M
  | x :: r, acc, M => keep M ∧ match p.bind M x env with
    | some env1 => tt env1 M (fun b M2 => if b = true then te env1 M2 (fun y M3 => M3 a = some (.lst acc) ∧ acc.length < sizeLine ∧ dLcGo keep p tt te env a Q r (acc ++ [y]) (mupd M3 a (.lst (acc ++ [y])))) noX else dLcGo keep p tt te env a Q r acc M2) noX
    | none => False
def dLc (ti : DI) (p : Pat) (tt : DT) (te : DE) (vs : List Nat) : DE := fun env M Q E => ti env M (fun J M1 => ∀ a, M1 a = none → dLcGo J.keep p tt te (wipeD env vs) a Q J.items [] (mupd M1 a (.lst []))) E
def dYes : DT := fun _ M Q _ => Q true M
theorem dYes_mono : MonoT dYes := fun _ _ _ _ _ _ hQ _ h => hQ _ _ h
theorem dLcGo_mono {keep : Mem → Prop} {p : Pat} {tt : DT} {te : DE} (ht : MonoT tt) (he : MonoE te) {env : DEnv} {a : Addr} {Q Q' : DK} (hQ : ∀ d M, Q d M → Q' d M) : ∀ (xs acc : List D) (M : Mem), dLcGo keep p tt te env a Q xs acc M → dLcGo keep p tt te env a Q' xs acc M
  | [], acc, M, h => ⟨h.1, h.2.1, hQ _ _ h.2.2⟩
  | x :: r, acc, M, h => by
    refine ⟨h.1, ?_⟩
    have h2 := h.2
    split
    · rename_i env1 hb1
      rw [hb1] at h2
      refine ht _ _ _ _ _ _ (fun b M2 => ?_) (fun _ _ _ z => z) h2
      cases b with
      | true =>
        rw [if_pos rfl, if_pos rfl]
        exact he _ _ _ _ _ _ (fun y M3 z => ⟨z.1, z.2.1, dLcGo_mono ht he hQ r _ _ z.2.2⟩) (fun _ _ _ z => z)
      | false =>
        rw [if_neg Bool.false_ne_true, if_neg Bool.false_ne_true]
        exact dLcGo_mono ht he hQ r _ _
    · rename_i hb1
      rw [hb1] at h2
      exact h2
abbrev W0 : WX := fun _ _ _ _ => False
structure XTs (X : Cx) (W : WX) (es : List Expr) (t : DT) : Prop where
  mono : MonoT t
  pts : PTs X es (liftT X.K W t)
theorem xts_nil {X : Cx} {W : WX} : XTs X W [] dYes := by
  refine ⟨dYes_mono, ⟨fun pins s σ H Q I h => ?_⟩⟩
  obtain ⟨env, M, re, sm, h⟩ := h
  exact pts_nil.run pins s σ H Q I (h H Ext.refl sm)
theorem xts_one {X : Cx} {W : WX} {c : Expr} {t : DT} (h : XT X W c t) : XTs X W [c] t := ⟨h.mono, pts_one h.pt⟩

section
variable {X : Cx} {W : WX} {elt tg iter : Expr} {ifs : List Expr} {scope : Scope} {own : List (Str × Nat)} {pos : Pos} {ti : DI} {p : Pat} {tt : DT} {te : DE}
theorem lc_up (hi : XI X W tg iter ti) (mt : MonoT tt) (me : MonoE te) (vs : List Nat) (hv : ∀ i ∈ p.slots, i ∈ vs) : ∀ σ H Q, liftE X.K W (dLc ti p tt te vs) σ H Q → tLc (liftI X.K W ti) (p.tg X.K) (liftT X.K W0 tt) (liftE X.K W0 te) vs σ H Q := by
  rintro σ H Q ⟨env, M, re, s, h⟩
  refine ⟨env, M, re, s, hi.mono _ _ _ _ _ _ (fun J M1 q J' H1 e1 s1 ir => ?_) (fun _ _ _ z => z) h⟩
  intro a ha
  have q := q a (s1.free ha)
  have sA : Sim X.K (upd H1 a (.lst [])) (mupd M1 a (.lst [])) := s1.new ha (repO_lst (Ext.new ha) .nil)
  have eA : Ext X.K H1 (upd H1 a (.lst [])) := Ext.new ha
  refine ⟨fun i m H' => m = J.items.length - i ∧ i ≤ J.items.length ∧ Ext X.K H1 H' ∧ ∃ M acc, Sim X.K H' M ∧ dLcGo J.keep p tt te (wipeD env vs) a (upK X.K H Q) (J.items.drop i) acc M,
    ⟨J.items.length, by simp, Nat.zero_le _, eA, _, [], sA, by simpa using q⟩, ?_⟩
  rintro i m H2 ⟨rfl, hi2, e2, M2, acc, s2, q2⟩
  by_cases hlt : i < J.items.length
  · rw [List.drop_eq_getElem_cons hlt] at q2
    obtain ⟨kp, q2⟩ := q2
    refine .inr ⟨ir.go i H2 M2 e2 s2 kp hlt, fun H' => Ext X.K H1 H' ∧ ∃ M acc, Sim X.K H' M ∧ dLcGo J.keep p tt te (wipeD env vs) a (upK X.K H Q) (J.items.drop (i + 1)) acc M, fun H' n => ⟨_, by omega, rfl, hlt, n⟩, fun x H3 y => ?_⟩
    obtain ⟨d, hd, r3, e3, s3⟩ := ir.yld i H2 M2 x H3 e2 s2 kp hlt y
    rw [List.getElem?_eq_getElem hlt] at hd
    obtain rfl := Option.some.inj hd
    split at q2
    · rename_i env3 hb3
      have re3 : RepE X.K H3 (wipeD env vs) (L2.wipe σ vs) := (re.mono ((e1.trans e2).trans e3)).wipe vs
      obtain ⟨σ3, h1, hw, h3⟩ := Pat.rep s3 vs p r3 re3 hb3 hv
      refine h3 _ ⟨hw.trans (wipe_wipe vs), ?_⟩
      refine stepT mt h1 s3 q2 (fun b M4 H4 e4 s4 re4 q4 => ?_) fun _ _ _ z => z.elim
      cases b with
      | true =>
        rw [if_pos rfl] at q4 ⊢
        refine stepE me re4 s4 q4 (fun y M5 u H5 e5 s5 re5 r5 q5 => ?_) fun _ _ _ z => z.elim
        obtain ⟨ma5, lz, q5⟩ := q5
        obtain ⟨us, h5, l5⟩ := s5.lst ma5
        have ex : Ext X.K H5 (upd H5 a (.lst (us ++ [u]))) := Ext.mut h5 True.intro
        refine ⟨us, h5, by rw [l5.length]; exact lz, (((e2.trans e3).trans e4).trans e5).trans ex, _, _, s5.put h5 True.intro (repO_lst ex (RepL.append l5 (.cons r5 .nil))), q5⟩
      | false =>
        rw [if_neg Bool.false_ne_true] at q4 ⊢
        exact ⟨(e2.trans e3).trans e4, M4, acc, s4, q4⟩
    · exact q2.elim
  · have e : i = J.items.length := by omega
    subst e
    rw [List.drop_length] at q2
    exact .inl ⟨ir.stop H2 M2 e2 s2 q2.1, q2.2.2 (.ref a) H2 (e1.trans e2) s2 rep_of⟩
theorem dLc_mono {vs : List Nat} (hi : MonoI ti) (mt : MonoT tt) (me : MonoE te) : MonoE (dLc ti p tt te vs) := fun env M Q Q' E E' hQ hE => hi _ _ _ _ _ _ (fun J M1 q a ha => dLcGo_mono mt me hQ _ _ _ (q a ha)) hE
abbrev BlkAll (X : Cx) (scope : Scope) (P : Cx → Prop) : Prop := ∀ (s : Shared) (H : Hp) (C : Addr) (cl : List (Str × Addr)) (fp : List Addr), P (X.blk s H scope (compEnvC scope cl C X.env) fp)
theorem xe_lc (hc : X.calm = true) (hN : X.N.Nodup) (hi : XI X W tg iter ti) (ok : BlkOk X.N X.env.scope scope own) (hg : BlkAll X scope fun Y => PG Y tg (p.tg X.K)) (ht : BlkAll X scope fun Y => XTs Y W0 ifs tt) (he : BlkAll X scope fun Y => XE Y W0 elt te)
    (hv : p.slots.all (fun i => decide (i ∈ own.map (·.2))) = true := by decide) (hs : ∀ x, foldedSetIterable iter X.env x = pure x := by intro _; rfl) : XE X W (.ListComp elt [⟨tg, iter, ifs, 0⟩] scope pos) (dLc ti p tt te (own.map (·.2))) := by
  have mt := (ht X.s_0 X.H_0 0 [] []).mono
  have me := (he X.s_0 X.H_0 0 [] []).mono
  refine ⟨dLc_mono hi.mono mt me, PEw (pe_lc (g := p.tg X.K) (tt := liftT X.K W0 tt) (te := liftE X.K W0 te) hc hN hi.pi ok hg (fun s H C cl fp => (ht s H C cl fp).pts) (fun s H C cl fp => (he s H C cl fp).pe) hs) (lc_up hi mt me _ fun i h => ?_)⟩
  exact of_decide_eq_true (List.all_eq_true.mp hv i h)
theorem xs_setLc (i : Nat) {y : Str} {py : Pos} {spos : Pos} (hc : X.calm = true) (hN : X.N.Nodup) (hyl : X.env.scope.names.lookup y = some .local) (hsw : swapsWith (.ListComp elt [⟨tg, iter, ifs, 0⟩] scope pos) (some (.Name y py)) spos.line X.env = pure true)
    (hi : XI X W tg iter ti) (ok : BlkOk X.N X.env.scope scope own) (hg : BlkAll X scope fun Y => PG Y tg (p.tg X.K)) (ht : BlkAll X scope fun Y => XTs Y W0 ifs tt) (he : BlkAll X scope fun Y => XE Y W0 elt te)
    (hy : X.N[i]? = some y := by rfl) (hv : p.slots.all (fun i => decide (i ∈ own.map (·.2))) = true := by decide) (hs : ∀ x, foldedSetIterable iter X.env x = pure x := by intro _; rfl) :
    XS X W (.Assign [.Name y py] (.ListComp elt [⟨tg, iter, ifs, 0⟩] scope pos) spos) (dAsg (dLc ti p tt te (own.map (·.2))) (.nm i)) := by
  have mt := (ht X.s_0 X.H_0 0 [] []).mono
  have me := (he X.s_0 X.H_0 0 [] []).mono
  have ml := dLc_mono (p := p) (vs := own.map (·.2)) hi.mono mt me
  refine ⟨dAsg_mono ml, PSw (ps_setLc (g := p.tg X.K) (tt := liftT X.K W0 tt) (te := liftE X.K W0 te) hc hN hy hyl hsw hi.pi ok hg (fun s H C cl fp => (ht s H C cl fp).pts) (fun s H C cl fp => (he s H C cl fp).pe) hs) ?_⟩
  rintro D σ H ⟨env, M, re, s, h⟩
  refine lc_up hi mt me _ (fun i h => of_decide_eq_true (List.all_eq_true.mp hv i h)) σ H _ (stepE ml re s h (fun d M1 u H1 e1 s1 re1 r1 q => ?_) (ends_ex re))
  exact q (σ.set i (some u)) H1 e1 s1 (re1.set r1 i)
end
end PL

namespace PL
open PySem PySem.Spec PyProof.Rows L2

/-! a def's body -/
abbrev bx (P : Program) (w : World) (K : PySem.W.Frag) (mg : Str → Option Value) (base : Heap) (N : List Str) (qual : Str) (st : Stmt) (f : Addr) (cdv : Value) (A : Around) (outer : List Env) (s : Shared) (H : Hp) (E : XK) : Cx :=
  cxOf (L2.CX P w) P w K mg base N qual (defScope st) f cdv A outer s H E
abbrev bW (E : XK) : WX := fun cls d _ H => E cls d H
theorem bx_takes {P : Program} {w : World} {K : PySem.W.Frag} {mg : Str → Option Value} {base : Heap} {N : List Str} {qual : Str} {st : Stmt} {f : Addr} {cdv : Value} {A : Around} {outer : List Env} {s : Shared} {H : Hp} {E : XK} : Takes (bx P w K mg base N qual st f cdv A outer s H E) (bW E) := takes_of rfl rfl rfl rfl
theorem bx_passes {P : Program} {w : World} {K : PySem.W.Frag} {mg : Str → Option Value} {base : Heap} {N : List Str} {qual : Str} {st : Stmt} {f : Addr} {cdv : Value} {A : Around} {outer : List Env} {s : Shared} {H : Hp} {E : XK} :
    PassesOwn (model (bx P w K mg base N qual st f cdv A outer s H E).prog (bx P w K mg base N qual st f cdv A outer s H E).w) (bx P w K mg base N qual st f cdv A outer s H E).A (bx P w K mg base N qual st f cdv A outer s H E).env (bx P w K mg base N qual st f cdv A outer s H E).xe := passes_of rfl
def startD (N : List Str) (ds : List D) : DEnv := ds.map some ++ List.replicate (N.length - ds.length) none
theorem rep_start {K : PySem.W.Frag} {H : Hp} {N : List Str} {ds : List D} {vs : List V} (r : RepL K H ds vs) : RepE K H (startD N ds) (L2.start N vs) := by
  refine ⟨by simp [startD, L2.start, r.length], fun i d h => ?_⟩
  have hi : i < ds.length := by
    by_cases hi : i < ds.length
    · exact hi
    · unfold startD at h
      rw [List.getElem?_append_right (by simpa using hi), List.getElem?_replicate] at h
      split at h <;> cases h
  unfold startD at h
  rw [List.getElem?_append_left (by simpa using hi), List.getElem?_map] at h
  cases e : ds[i]? with
  | none => rw [e] at h; cases h
  | some d' =>
    rw [e] at h
    cases h
    obtain ⟨u, h1, h2⟩ := r.get e
    refine ⟨u, ?_, h2⟩
    unfold L2.start
    rw [List.getElem?_append_left (by simpa [r.length] using hi), List.getElem?_map, h1]
    rfl
def retEnds (Q : DK) (E : DX) : DEnds := { nx := fun _ M' => Q .non M', rt := Q, ex := fun c fs _ M' => E c fs M' }
theorem fn_ok {P : Program} {w : World} {K : PySem.W.Frag} {mg : Str → Option Value} {base : Heap} {x qual : Str} {st : Stmt} {f : Addr} {fd : FuncData} {N ps : List Str} {k : Nat} {sp : DSp} (F : Fun K x qual st f fd) (S : FnScope N ps (defScope st))
    (len : ∀ ds M Q E, sp ds M Q E → ds.length = ps.length)
    (hb : ∃ t : DS, (∀ cdv A outer s H E, Room k (A.deeper (envOfC qual (defScope st) s.heap.objs.size f cdv)) → XSs (bx P w K mg base N qual st f cdv A outer s H E) (bW E) (defBody st) t) ∧
      ∀ ds M Q E, sp ds M Q E → t (retEnds Q E) (startD N ds) M) : FnOk P w K mg base (L2.CX P w) (k + 1) f fd ps (liftSp K sp) := by
  obtain ⟨t, ht, hq⟩ := hb
  refine F.okX S (fun vs H Q E h => ?_) (fun cdv A outer s H vs Q E hr h => ?_)
  · obtain ⟨ds, M, r, _, h⟩ := h
    rw [r.length]
    exact len _ _ _ _ h
  · obtain ⟨ds, M, r, sm, h⟩ := h
    refine ⟨_, (ht cdv A outer s H E hr).ps, startD N ds, M, rep_start r, sm, (ht cdv A outer s H E hr).mono _ _ _ _ ⟨?_, ?_, ?_, ?_, ?_⟩ (hq _ _ _ _ h)⟩
    · exact fun e M' q σ' H' e' s' _ => q .non H' e' s' rep_of
    · exact fun d M' q => q
    · exact fun e M' q => q.elim
    · exact fun e M' q => q.elim
    · exact fun c fs e M' q d σ' H' e' s' _ x => q d H' e' s' x
theorem _root_.L2.Room.u200 {k : Nat} {A : Around} (r : Room k A) : A.units + 200 < cLine := by have := r.un; omega
theorem mkFn {P : Program} {w : World} {K : PySem.W.Frag} {mg : Str → Option Value} {base : Heap} {x : Str} {f : Addr} {fd : FuncData} {ps : List Str} {k : Nat} {sp : DSp} (m : MonoSp sp) (F : FnOk P w K mg base (L2.CX P w) k f fd ps (liftSp K sp)) (hm : mg x = some (.ref f))
    (hk : PySem.W.keepIn K (.ref f) = true) (hb : Binds K fd ps []) : Fn P w K mg base k x sp [] := ⟨m, f, fd, ps, [], [], F, hm, hk, hb, .nil, fun _ => .nil⟩

theorem xe_globE {X : Cx} {W : WX} {x : Str} {v : V} {pos : Pos} (hg : Gl X x) (h : ∃ u, X.mg x = some u ∧ RelV v u) (hd : (x == ("__debug__" : Str)) = false := by decide) : XE X W (.Name x pos) (dC (.v v)) := by
  obtain ⟨u, hm, r⟩ := h
  exact xe_glob hg hm r hd

/-! raise -/
def dRaise (c : Value) (fs : List (Str × D)) : DS := fun Z env M => Z.ex c fs env M
section
variable {X : Cx} {W : WX} {pos : Pos}
theorem xs_raise0 {C : Addr} {e : Expr} (hc : X.calm = true) (tk : Takes X W) (h : PMk X e (fun _ H Q => Q (.ref C) none H)) : XS X W (.Raise (some e) none pos) (dRaise (.ref C) []) := by
  refine ⟨fun D D' env M l h => l.ex _ _ _ _ h, PSw (ps_raise hc tk h) ?_⟩
  rintro D σ H ⟨env, M, re, s, q⟩
  exact q none σ H Ext.refl s re rfl

/-! try: .. except C as n: .. -/
def suiteEnds (i : Nat) (Z : DEnds) : DEnds where
  nx := fun e' => Z.nx (e'.set i none)
  rt := Z.rt
  bk := fun e' => Z.bk (e'.set i none)
  ct := fun e' => Z.ct (e'.set i none)
theorem suiteEnds_le {i : Nat} {Z Z' : DEnds} (l : Z.Le Z') : (suiteEnds i Z).Le (suiteEnds i Z') := ⟨fun _ _ => l.nx _ _, l.rt, fun _ _ => l.bk _ _, fun _ _ => l.ct _ _, fun _ _ _ _ h => h⟩
def exTry (hd : Value → Option Bool) (i : Nat) (ts : Addr → Value → DS) (Z : DEnds) : Value → List (Str × D) → DEnv → Mem → Prop := fun c fs e M' => match hd c with
  | some true => fs = [] ∧ ∀ a, M' a = none → ts a c (suiteEnds i Z) (e.set i (some (.ob a))) M'
  | some false => Z.ex c fs e M'
  | none => False
theorem exTry_mono {hd : Value → Option Bool} {i : Nat} {ts : Addr → Value → DS} (mt : ∀ a c, MonoS (ts a c)) {Z Z' : DEnds} (l : Z.Le Z') : ∀ c fs e M', exTry hd i ts Z c fs e M' → exTry hd i ts Z' c fs e M' := fun c fs e M' q => by
  unfold exTry at q ⊢
  cases hq : hd c with
  | none => rw [hq] at q; exact q
  | some b =>
    rw [hq] at q
    cases b with
    | true => exact ⟨q.1, fun a ha => mt _ _ _ _ _ _ (suiteEnds_le l) (q.2 a ha)⟩
    | false => exact l.ex _ _ _ _ q
def dTryAs (hd : Value → Option Bool) (i : Nat) (tb : DS) (ts : Addr → Value → DS) : DS := fun Z env M => tb { Z with ex := exTry hd i ts Z } env M
theorem xs_tryAs {x n : Str} {c : Value} (i : Nat) {body suite : List Stmt} {b₀ : Stmt} {np pos' : Pos} {tb : DS} {ts : Addr → Value → DS} (hs : X.stack = X.env :: X.outer) (hf : X.env.frame = some X.env.locals) (hN : X.N.Nodup) (hln : X.env.kindOf n = some .local) (hc : Names X x c) (tk : Takes X W)
    (mt : ∀ a c, MonoS (ts a c)) (hb : ∀ (W : WX) (pn : List (Addr × Obj)) (xe : Value → Shared → Prop), Takes (X.tr pn xe) W → PassesOwn (model X.prog X.w) X.A X.env xe → XSs (X.tr pn xe) W body tb)
    (hsu : ∀ (a : Addr) (oe : Obj) (cls : Value) (pn : List (Addr × Obj)), Zc cls none oe → (∃ vs, oe.data = .fields vs) → XSs (X.suite a ((a, oe) :: pn)) W0 (b₀ :: suite) (ts a cls)) (mb : MonoS tb) (hi : X.N[i]? = some n := by rfl) :
    XS X W (.Try body [.ExceptHandler (some (.Name x np)) (some n) (b₀ :: suite) pos'] [] [] pos) (dTryAs (fun z => PySem.W.exmOne X.K z c) i tb ts) := by
  refine ⟨fun Z Z' env M l h => mb { Z with ex := exTry _ i ts Z } _ _ _ ⟨l.nx, l.rt, l.bk, l.ct, exTry_mono mt l⟩ h, PSw (ps_try_as (tb := fun W' => liftS X.K W' tb) (ts := fun a cls d D σ H => d = none ∧ liftS X.K W0 (ts a cls) D σ H) hs hf hN hi hln hc tk (fun W' pn xe t p => (hb W' pn xe t p).ps) fun a oe cls d pn hz hv => ?_) ?_⟩
  · refine ⟨fun pins s σ H D I h => ?_⟩
    obtain ⟨rfl, h⟩ := h
    exact (hsu a oe cls pn hz hv).ps.run pins s σ H D I h
  · rintro D σ H ⟨env, M, re, s, h⟩
    refine ⟨env, M, re, s, mb { upEnds X.K W H D with ex := exTry (fun z => PySem.W.exmOne X.K z c) i ts (upEnds X.K W H D) } _ _ _ ⟨fun _ _ q => q, fun _ _ q => q, fun _ _ q => q, fun _ _ q => q, fun c' fs e M' q d σ' H' e' s' re' rx => ?_⟩ h⟩
    have q : exTry (fun z => PySem.W.exmOne X.K z c) i ts (upEnds X.K W H D) c' fs e M' := q
    unfold exTry at q
    dsimp only at q
    cases hq : PySem.W.exmOne X.K c' c with
    | none => rw [hq] at q; exact q.elim
    | some b =>
      rw [hq] at q
      refine ⟨b, hq, ?_, ?_⟩
      · rintro rfl a ha
        obtain ⟨hfs, q⟩ := q
        have hd : d = none := by
          cases d with
          | none => rfl
          | some d => exact absurd hfs rx.1
        refine ⟨hd, e.set i (some (.ob a)), M', re'.set rep_of i, s', mt _ _ (suiteEnds i (upEnds X.K W H D)) _ _ _ ⟨?_, ?_, ?_, ?_, ?_⟩ (q a (s'.free ha))⟩
        · exact fun e2 M2 z σ2 H2 x2 s2 r2 => z (σ2.set i none) H2 (e'.trans x2) s2 (r2.clear i)
        · exact fun d2 M2 z u2 H2 x2 s2 r2 => z u2 H2 (e'.trans x2) s2 r2
        · exact fun e2 M2 z σ2 H2 x2 s2 r2 => z (σ2.set i none) H2 (e'.trans x2) s2 (r2.clear i)
        · exact fun e2 M2 z σ2 H2 x2 s2 r2 => z (σ2.set i none) H2 (e'.trans x2) s2 (r2.clear i)
        · exact fun c f e2 M2 z => z.elim
      · rintro rfl
        exact q d σ' H' e' s' re' rx
end
end PL

namespace PL
open PySem PySem.Spec PyProof.Rows L2

/-! stepping: each rule fires only where a reading has all its arguments -/
def DEnds.to (Z : DEnds) (n : DEnv → Mem → Prop) : DEnds := { Z with nx := n }
def DEnds.lp (Z : DEnds) (n : DEnv → Mem → Prop) : DEnds := { Z with nx := n, ct := n, bk := Z.nx }
def exK (Z : DEnds) (env : DEnv) : DX := fun c f M => Z.ex c f env M
def bifM (b : Bool) (f g : Mem → Prop) (M : Mem) : Prop := if b = true then f M else g M
def optB (b : Option Bool) (Q : Bool → Mem → Prop) (M : Mem) : Prop := match b with
  | some b => Q b M
  | none => False
def optE (e : Option DEnv) (Q : DEnv → Mem → Prop) (M : Mem) : Prop := match e with
  | some e => Q e M
  | none => False
def nxD (Z : DEnds) (env : DEnv) : DK := fun _ M => Z.nx env M
def ifK (t u : DS) (Z : DEnds) (env : DEnv) : Bool → Mem → Prop := fun b M => bifM b (t Z env) (u Z env) M
def asgK (p : Pat) (Z : DEnds) (env : DEnv) : DK := fun d M => optE (p.bind M d env) Z.nx M
def putK3 (o z : D) (Z : DEnds) (env : DEnv) : DK := fun i M => (opPut o i z M).run M (nxD Z env)
def putK2 (ti : DE) (z : D) (Z : DEnds) (env : DEnv) : DK := fun o M => ti env M (putK3 o z Z env) (exK Z env)
def putK1 (to ti : DE) (Z : DEnds) (env : DEnv) : DK := fun z M => to env M (putK2 ti z Z env) (exK Z env)
def augK2 (i : Nat) (Z : DEnds) (env : DEnv) : DK := fun z M => Z.nx (env.set i (some z)) M
def augK (i : Nat) (r : DOp2) (x : D) (Z : DEnds) (env : DEnv) : DK := fun y M => (r x y M).run M (augK2 i Z env)
def augV (i : Nat) (r : DOp2) (te : DE) (Z : DEnds) (env : DEnv) (M : Mem) : Option (Option D) → Prop
  | some (some x) => te env M (augK i r x Z env) (exK Z env)
  | _ => False
def varK (M : Mem) (Q : DK) : Option (Option D) → Prop
  | some (some x) => Q x M
  | _ => False
def binK2 (r : DOp2) (x : D) (Q : DK) : DK := fun y M => (r x y M).run M Q
def binK1 (r : DOp2) (tb : DE) (env : DEnv) (Q : DK) (E : DX) : DK := fun x M => tb env M (binK2 r x Q) E
def cbK (r : DCall) (Q : DK) : List D → Mem → Prop := fun ds M => (r ds M).run M Q
def callK (sp : DSp) (dvs : List D) (Q : DK) (E : DX) : List D → Mem → Prop := fun ds M => sp (ds ++ dvs) M Q E
def mK2 (r : DMeth) (x : D) (Q : DK) : List D → Mem → Prop := fun ds M => (r x ds M).run M Q
def mK1 (T : String) (r : DMeth) (t : DA) (env : DEnv) (Q : DK) (E : DX) : DK := fun x M => isTy T x M ∧ t env M (mK2 r x Q) E
def consK2 (d : D) (Q : List D → Mem → Prop) : List D → Mem → Prop := fun ds M => Q (d :: ds) M
def consK1 (tr : DA) (env : DEnv) (Q : List D → Mem → Prop) (E : DX) : DK := fun d M => tr env M (consK2 d Q) E
def tupK (n : Nat) (Q : DK) : List D → Mem → Prop := fun ds M => ds.length = n ∧ Q (.tup ds) M
def lstK (n : Nat) (Q : DK) : List D → Mem → Prop := fun ds M => ds.length = n ∧ (Res.new True (.lst ds)).run M Q
def trK (Q : Bool → Mem → Prop) : DK := fun d M => optB (truth M d) Q M
def tK (u : DT) (env : DEnv) (Q : Bool → Mem → Prop) (E : DX) : Mem → Prop := fun M => u env M Q E
def eK (u : DE) (env : DEnv) (Q : DK) (E : DX) : Mem → Prop := fun M => u env M Q E
def cK {α : Type} (x : α) (Q : α → Mem → Prop) : Mem → Prop := fun M => Q x M
def andK (u : DT) (env : DEnv) (Q : Bool → Mem → Prop) (E : DX) : Bool → Mem → Prop := fun b M => bifM b (tK u env Q E) (cK false Q) M
def orK (u : DT) (env : DEnv) (Q : Bool → Mem → Prop) (E : DX) : Bool → Mem → Prop := fun b M => bifM b (cK true Q) (tK u env Q E) M
def notK (Q : Bool → Mem → Prop) : Bool → Mem → Prop := fun b M => Q (!b) M
def ifeK (ta tb : DE) (env : DEnv) (Q : DK) (E : DX) : Bool → Mem → Prop := fun b M => bifM b (eK ta env Q E) (eK tb env Q E) M
def andvK2 (d : D) (tb : DE) (env : DEnv) (Q : DK) (E : DX) : Bool → Mem → Prop := fun b M => bifM b (eK tb env Q E) (cK d Q) M
def orvK2 (d : D) (tb : DE) (env : DEnv) (Q : DK) (E : DX) : Bool → Mem → Prop := fun b M => bifM b (cK d Q) (eK tb env Q E) M
def andvK (tb : DE) (env : DEnv) (Q : DK) (E : DX) : DK := fun d M => optB (truth M d) (andvK2 d tb env Q E) M
def orvK (tb : DE) (env : DEnv) (Q : DK) (E : DX) : DK := fun d M => optB (truth M d) (orvK2 d tb env Q E) M
def blK (Q : DK) : Bool → Mem → Prop := fun b M => Q (.bl b) M
def notvK (Q : DK) : DK := fun d M => optB (truth M d) (notK (blK Q)) M
def negK (Q : DK) : DK := fun d M => match d with
  | .v (.int i) => Q (.int (-i)) M
  | _ => False
def slK3 (x : D) (l : Option Int) (Q : DK) : Option Int → Mem → Prop := fun u M => (opSl x l u M).run M Q
def slK2 (x : D) (th : DO) (env : DEnv) (Q : DK) (E : DX) : Option Int → Mem → Prop := fun l M => th env M (slK3 x l Q) E
def slK1 (tl th : DO) (env : DEnv) (Q : DK) (E : DX) : DK := fun x M => tl env M (slK2 x th env Q E) E
def partK (Q : Option Int → Mem → Prop) : DK := fun d M => match d with
  | .v (.int i) => Q (some i) M
  | _ => False
def revR : D → Mem → Res
  | .v (.ref a), M => match M a with
    | some (.lst ds) => .new True (.lst ds.reverse)
    | _ => .bad
  | _, _ => .bad
def revK (Q : DK) : DK := fun d M => (revR d M).run M Q
def forK (p : Pat) (tb : DS) (Z : DEnds) (env : DEnv) : DIt → Mem → Prop := fun J M => dLoop J.keep p tb Z J.items env M
def lcK (p : Pat) (tt : DT) (te : DE) (vs : List Nat) (env : DEnv) (Q : DK) : DIt → Mem → Prop := fun J M => ∀ a, M a = none → dLcGo J.keep p tt te (wipeD env vs) a Q J.items [] (mupd M a (.lst []))
def walkO (R : DIt → Mem → Prop) (a : Addr) (M : Mem) : Option Ob → Prop
  | some (.lst ds) => R ⟨ds, fun M => M a = some (.lst ds) ∨ M a = some (.rol ds)⟩ M
  | some (.rol ds) => R ⟨ds, fun M => M a = some (.lst ds) ∨ M a = some (.rol ds)⟩ M
  | _ => False
def walkR (R : DIt → Mem → Prop) : DK := fun d M => match d with
  | .tup ds => R ⟨ds, fun _ => True⟩ M
  | .v (.str x) => R ⟨signs x, fun _ => True⟩ M
  | .v (.ref a) => walkO R a M (M a)
  | _ => False
def rng1K (R : DIt → Mem → Prop) : List D → Mem → Prop := fun ds M => match ds with
  | [.v (.int j)] => (-(2 ^ 62) ≤ j ∧ j < 2 ^ 62) ∧ R ⟨rg 0 j.toNat, fun _ => True⟩ M
  | _ => False
def rng2K (R : DIt → Mem → Prop) : List D → Mem → Prop := fun ds M => match ds with
  | [.v (.int i), .v (.int j)] => (-(2 ^ 62) ≤ i ∧ i < 2 ^ 62 ∧ -(2 ^ 62) ≤ j ∧ j < 2 ^ 62) ∧ R ⟨rg i (j - i).toNat, fun _ => True⟩ M
  | _ => False
def clK (sp : DSp) (Q : DK) (E : DX) : List D → Mem → Prop := fun ds M => sp ds M Q E
def callLO (t : DA) (env : DEnv) (M : Mem) (Q : DK) (E : DX) : Option DSp → Prop
  | some sp => t env M (clK sp Q E) E
  | none => False
def callLK (S : Addr → Option DSp) (t : DA) (env : DEnv) (M : Mem) (Q : DK) (E : DX) : Option (Option D) → Prop
  | some (some (.v (.ref f))) => callLO t env M Q E (S f)
  | _ => False

section
variable {Z : DEnds} {env : DEnv} {M : Mem} {Q : DK} {E : DX} {n : DEnv → Mem → Prop}
theorem to_nx : (Z.to n).nx = n := id rfl
theorem to_rt : (Z.to n).rt = Z.rt := id rfl
theorem to_bk : (Z.to n).bk = Z.bk := id rfl
theorem to_ct : (Z.to n).ct = Z.ct := id rfl
theorem to_ex : (Z.to n).ex = Z.ex := id rfl
theorem lp_nx : (Z.lp n).nx = n := id rfl
theorem lp_rt : (Z.lp n).rt = Z.rt := id rfl
theorem lp_bk : (Z.lp n).bk = Z.nx := id rfl
theorem lp_ct : (Z.lp n).ct = n := id rfl
theorem lp_ex : (Z.lp n).ex = Z.ex := id rfl
theorem ret_nx {E : DX} : (retEnds Q E).nx env M = Q .non M := id rfl
theorem ret_rt {E : DX} : (retEnds Q E).rt = Q := id rfl
theorem ret_ex {E : DX} {c f} : (retEnds Q E).ex c f env M = E c f M := id rfl
theorem s_exK {c f} : exK Z env c f M = Z.ex c f env M := id rfl
theorem s_bif1 {f g} : bifM true f g M = f M := id rfl
theorem s_bif0 {f g} : bifM false f g M = g M := id rfl
theorem s_optB {b R} : optB (some b) R M = R b M := id rfl
theorem s_optE {e R} : optE (some e) R M = R e M := id rfl
theorem s_nxD {d} : nxD Z env d M = Z.nx env M := id rfl
theorem s_ifK {t u b} : ifK t u Z env b M = bifM b (t Z env) (u Z env) M := id rfl
theorem s_asgN {i d} : asgK (.nm i) Z env d M = Z.nx (env.set i (some d)) M := id rfl
theorem s_asgT {ps ds} : asgK (.tp ps) Z env (.tup ds) M = optE (bindL M ps ds env) Z.nx M := by simp only [asgK, Pat.bind, seqOf]
theorem s_asgL {ps a} : asgK (.tp ps) Z env (.ob a) M = optE ((Pat.tp ps).bind M (.ob a) env) Z.nx M := id rfl
theorem b_nil : bindL M [] [] env = some env := id rfl
theorem b_nm {i d ps ds} : bindL M (.nm i :: ps) (d :: ds) env = bindL M ps ds (env.set i (some d)) := id rfl
theorem b_tp {qs es ps ds} : bindL M (.tp qs :: ps) (.tup es :: ds) env = (match bindL M qs es env with | some e => bindL M ps ds e | none => none) := by simp only [bindL, Pat.bind, seqOf] <;> rfl
theorem s_next : dNext Z env M = Z.nx env M := id rfl
theorem s_seq {t u} : dSeq t u Z env M = t (Z.to (u Z)) env M := id rfl
theorem s_drop {te} : dDrop te Z env M = te env M (nxD Z env) (exK Z env) := id rfl
theorem s_ret {te} : dRet te Z env M = te env M Z.rt (exK Z env) := id rfl
theorem s_retN : dRetN Z env M = Z.rt .non M := id rfl
theorem s_ifS {tc t u} : dIfS tc t u Z env M = tc env M (ifK t u Z env) (exK Z env) := id rfl
theorem s_asg {te p} : dAsg te p Z env M = te env M (asgK p Z env) (exK Z env) := id rfl
theorem s_brk : dBrk Z env M = Z.bk env M := id rfl
theorem s_cont : dCont Z env M = Z.ct env M := id rfl
theorem s_put {te to ti} : dPut te to ti Z env M = te env M (putK1 to ti Z env) (exK Z env) := id rfl
theorem s_put1 {to ti z} : putK1 to ti Z env z M = to env M (putK2 ti z Z env) (exK Z env) := id rfl
theorem s_put2 {ti z o} : putK2 ti z Z env o M = ti env M (putK3 o z Z env) (exK Z env) := id rfl
theorem s_put3 {z o i} : putK3 o z Z env i M = (opPut o i z M).run M (nxD Z env) := id rfl
theorem s_aug {i r te} : dAug i r te Z env M = augV i r te Z env M env[i]? := id rfl
theorem s_augV {i r te} {x : D} : augV i r te Z env M (some (some x)) = te env M (augK i r x Z env) (exK Z env) := id rfl
theorem s_augK {i r x y} : augK i r x Z env y M = (r x y M).run M (augK2 i Z env) := id rfl
theorem s_augK2 {i z} : augK2 i Z env z M = Z.nx (env.set i (some z)) M := id rfl
theorem s_bin {r ta tb} : dBin r ta tb env M Q E = ta env M (binK1 r tb env Q E) E := id rfl
theorem s_bin1 {r tb x} : binK1 r tb env Q E x M = tb env M (binK2 r x Q) E := id rfl
theorem s_bin2 {r x y} : binK2 r x Q y M = (r x y M).run M Q := id rfl
theorem s_var {i} : dVar i env M Q E = varK M Q env[i]? := id rfl
theorem s_varK {x : D} : varK M Q (some (some x)) = Q x M := id rfl
theorem s_C {d} : dC d env M Q E = Q d M := id rfl
theorem s_cb {r t} : dCB r t env M Q E = t env M (cbK r Q) E := id rfl
theorem s_cbK {r ds} : cbK r Q ds M = (r ds M).run M Q := id rfl
theorem s_call {sp dvs t} : dCall sp dvs t env M Q E = t env M (callK sp dvs Q E) E := id rfl
theorem s_callK {sp ds} : callK sp [] Q E ds M = sp ds M Q E := by unfold callK; rw [List.append_nil]
theorem s_m {T r to t} : dBM T r to t env M Q E = to env M (mK1 T r t env Q E) E := id rfl
theorem s_m1 {T r t x} : mK1 T r t env Q E x M = (isTy T x M ∧ t env M (mK2 r x Q) E) := id rfl
theorem s_m2 {r x ds} : mK2 r x Q ds M = (r x ds M).run M Q := id rfl
theorem s_nil {R} : dNil env M R E = R [] M := id rfl
theorem s_cons {ta tr R} : dCons ta tr env M R E = ta env M (consK1 tr env R E) E := id rfl
theorem s_cons1 {tr R d} : consK1 tr env R E d M = tr env M (consK2 d R) E := id rfl
theorem s_cons2 {d R ds} : consK2 d R ds M = R (d :: ds) M := id rfl
theorem s_tup {n t} : dTup n t env M Q E = t env M (tupK n Q) E := id rfl
theorem s_tupK {n ds} : tupK n Q ds M = (ds.length = n ∧ Q (.tup ds) M) := id rfl
theorem s_lst {n t} : dLst n t env M Q E = t env M (lstK n Q) E := by unfold dLst lstK; simp [Res.run]
theorem s_lstK {n ds} : lstK n Q ds M = (ds.length = n ∧ (Res.new True (.lst ds)).run M Q) := id rfl
theorem s_truth {t R} : dTruth t env M R E = t env M (trK R) E := id rfl
theorem s_trK {R d} : trK R d M = optB (truth M d) R M := id rfl
theorem s_tK {u R} : tK u env R E M = u env M R E := id rfl
theorem s_eK {u} : eK u env Q E M = u env M Q E := id rfl
theorem s_cK {α} {x : α} {R} : cK x R M = R x M := id rfl
theorem s_and {t u R} : dAnd t u env M R E = t env M (andK u env R E) E := id rfl
theorem s_andK {u R b} : andK u env R E b M = bifM b (tK u env R E) (cK false R) M := id rfl
theorem s_or {t u R} : dOr t u env M R E = t env M (orK u env R E) E := id rfl
theorem s_orK {u R b} : orK u env R E b M = bifM b (cK true R) (tK u env R E) M := id rfl
theorem s_not {t R} : dNot t env M R E = t env M (notK R) E := id rfl
theorem s_notK {R b} : notK R b M = R (!b) M := id rfl
theorem s_ife {t ta tb} : dIf t ta tb env M Q E = t env M (ifeK ta tb env Q E) E := id rfl
theorem s_ifeK {ta tb b} : ifeK ta tb env Q E b M = bifM b (eK ta env Q E) (eK tb env Q E) M := id rfl
theorem optB_if {b : Option Bool} {f g : Mem → Prop} : (match b with | some true => f M | some false => g M | none => False) = optB b (fun b M => bifM b f g M) M := by
  cases b with
  | none => rfl
  | some b => cases b <;> rfl
theorem s_andV {ta tb} : dAndV ta tb env M Q E = ta env M (andvK tb env Q E) E := by
  unfold dAndV andvK
  congr 1
  funext d M1
  cases truth M1 d with
  | none => rfl
  | some b => cases b <;> rfl
theorem s_orV {ta tb} : dOrV ta tb env M Q E = ta env M (orvK tb env Q E) E := by
  unfold dOrV orvK
  congr 1
  funext d M1
  cases truth M1 d with
  | none => rfl
  | some b => cases b <;> rfl
theorem s_andvK {tb d} : andvK tb env Q E d M = optB (truth M d) (andvK2 d tb env Q E) M := id rfl
theorem s_orvK {tb d} : orvK tb env Q E d M = optB (truth M d) (orvK2 d tb env Q E) M := id rfl
theorem s_andvK2 {tb d b} : andvK2 d tb env Q E b M = bifM b (eK tb env Q E) (cK d Q) M := id rfl
theorem s_orvK2 {tb d b} : orvK2 d tb env Q E b M = bifM b (cK d Q) (eK tb env Q E) M := id rfl
theorem s_notV {ta} : dNotV ta env M Q E = ta env M (notvK Q) E := id rfl
theorem s_notvK {d} : notvK Q d M = optB (truth M d) (notK (blK Q)) M := id rfl
theorem s_blK {b} : blK Q b M = Q (.bl b) M := id rfl
theorem s_neg {ta} : dNeg ta env M Q E = ta env M (negK Q) E := id rfl
theorem s_negK {i} : negK Q (.int i) M = Q (.int (-i)) M := id rfl
theorem s_sl {ta tl th} : dSl ta tl th env M Q E = ta env M (slK1 tl th env Q E) E := id rfl
theorem s_sl1 {tl th x} : slK1 tl th env Q E x M = tl env M (slK2 x th env Q E) E := id rfl
theorem s_sl2 {th x l} : slK2 x th env Q E l M = th env M (slK3 x l Q) E := id rfl
theorem s_sl3 {x l u} : slK3 x l Q u M = (opSl x l u M).run M Q := id rfl
theorem s_noPart {R} : dNoPart env M R E = R none M := id rfl
theorem s_part {t R} : dPart t env M R E = t env M (partK R) E := id rfl
theorem s_partK {R i} : partK R (.int i) M = R (some i) M := id rfl
theorem s_rev {te} : dRev te env M Q E = te env M (revK Q) E := by
  unfold dRev
  congr 1
  funext d M1
  unfold revK revR
  cases d with
  | tup _ => rfl
  | v x => cases x with
    | ref a =>
      dsimp only
      cases M1 a with
      | none => rfl
      | some o => cases o <;> simp [Res.run]
    | _ => rfl
theorem s_revK {d} : revK Q d M = (revR d M).run M Q := id rfl
theorem s_for {ti p tb} : dFor ti p tb Z env M = ti env M (forK p tb Z env) (exK Z env) := id rfl
theorem s_forK {p tb its kp} : forK p tb Z env ⟨its, kp⟩ M = dLoop kp p tb Z its env M := id rfl
theorem s_lc {ti p tt te vs} : dLc ti p tt te vs env M Q E = ti env M (lcK p tt te vs env Q) E := id rfl
theorem s_lcK {p tt te vs its kp} : lcK p tt te vs env Q ⟨its, kp⟩ M = ∀ a, M a = none → dLcGo kp p tt te (wipeD env vs) a Q its [] (mupd M a (.lst [])) := id rfl
theorem s_yes {R} : dYes env M R E = R true M := id rfl
theorem s_walk {te R} : dWalk te env M R E = te env M (walkR R) E := id rfl
theorem s_walkT {R ds} : walkR R (.tup ds) M = R ⟨ds, fun _ => True⟩ M := id rfl
theorem s_walkS {R x} : walkR R (.str x) M = R ⟨signs x, fun _ => True⟩ M := id rfl
theorem s_walkA {R a} : walkR R (.ob a) M = walkO R a M (M a) := id rfl
theorem s_walkL {R a ds} : walkO R a M (some (.lst ds)) = R ⟨ds, fun M => M a = some (.lst ds) ∨ M a = some (.rol ds)⟩ M := id rfl
theorem s_walkR {R a ds} : walkO R a M (some (.rol ds)) = R ⟨ds, fun M => M a = some (.lst ds) ∨ M a = some (.rol ds)⟩ M := id rfl
theorem s_rng1 {ta R} : dRange1 ta env M R E = ta env M (rng1K R) E := id rfl
theorem s_rng2 {ta R} : dRange2 ta env M R E = ta env M (rng2K R) E := id rfl
theorem s_rng1K {R j} : rng1K R [.int j] M = ((-(2 ^ 62) ≤ j ∧ j < 2 ^ 62) ∧ R ⟨rg 0 j.toNat, fun _ => True⟩ M) := id rfl
theorem s_rng2K {R i j} : rng2K R [.int i, .int j] M = ((-(2 ^ 62) ≤ i ∧ i < 2 ^ 62 ∧ -(2 ^ 62) ≤ j ∧ j < 2 ^ 62) ∧ R ⟨rg i (j - i).toNat, fun _ => True⟩ M) := id rfl
theorem s_callL {i S t} : dCallL i S t env M Q E = callLK S t env M Q E env[i]? := id rfl
theorem s_callLK {S f t} : callLK S t env M Q E (some (some (.ob f))) = callLO t env M Q E (S f) := id rfl
theorem s_callLO {sp t} : callLO t env M Q E (some sp) = t env M (clK sp Q E) E := id rfl
theorem s_clK {sp ds} : clK sp Q E ds M = sp ds M Q E := id rfl
theorem s_raise {c fs} : dRaise c fs Z env M = Z.ex c fs env M := id rfl

/-! results -/
theorem r_val {c d} : (Res.val c d).run M Q = (c ∧ Q d M) := id rfl
theorem r_new {c o} : (Res.new c o).run M Q = (c ∧ ∀ p, M p = none → Q (.ob p) (mupd M p o)) := id rfl
theorem r_put {c a o d} : (Res.put c a o d).run M Q = (c ∧ Q d (mupd M a o)) := id rfl
end
/-- memory grows, but for what is told -/
def Keep (S : List Addr) (M M' : Mem) : Prop := ∀ b o, M b = some o → b ∉ S → M' b = some o
theorem Keep.refl {S M} : Keep S M M := fun _ _ h _ => h
theorem Keep.trans {S M M' M''} (h : Keep S M M') (g : Keep S M' M'') : Keep S M M'' := fun b o e n => g b o (h b o e n) n
theorem Keep.new {S M p o} (h : M p = none) : Keep S M (mupd M p o) := fun b o' e _ => by
  have : b ≠ p := fun z => by rw [z, h] at e; cases e
  show (if b = p then _ else _) = _
  rw [if_neg this]; exact e
theorem Keep.put {S M a o} (h : a ∈ S) : Keep S M (mupd M a o) := fun b o' e n => by
  have : b ≠ a := fun z => n (z ▸ h)
  show (if b = a then _ else _) = _
  rw [if_neg this]; exact e
theorem Keep.weaken {S T M M'} (h : Keep S M M') (s : ∀ a ∈ S, a ∈ T) : Keep T M M' := fun b o e n => h b o e fun z => n (s _ z)
/-- changes at new places are free -/
theorem Keep.drop {S M M' p} (h : Keep (p :: S) M M') (hp : M p = none) : Keep S M M' := fun b o e n => h b o e fun z => by
  rcases List.mem_cons.mp z with z | z
  · rw [z, hp] at e; cases e
  · exact n z
theorem Keep.fresh {M M' p} (h : Keep [] M M') (hp : M' p = none) : M p = none := by
  cases e : M p with
  | none => rfl
  | some o =>
    have := h p o e (by simp)
    rw [hp] at this
    cases this
theorem ne_new {M : Mem} {a p : Addr} {o} (ha : M a = some o) (hp : M p = none) : a ≠ p := fun e => by rw [e, hp] at ha; cases ha
theorem ne_new' {M : Mem} {a p : Addr} {o} (ha : M a = some o) (hp : M p = none) : p ≠ a := (ne_new ha hp).symm
theorem mupd_none {M : Mem} {p q : Addr} {o} : (mupd M p o q = none) = (q ≠ p ∧ M q = none) := by
  unfold mupd
  by_cases h : q = p <;> simp [h]
/-- a new list -/
theorem run_new {c : Prop} {o : Ob} {M : Mem} {Q : DK} (hc : c) (h : ∀ p M1, M p = none → M1 p = some o → Keep [] M M1 → Q (.ob p) M1) : (Res.new c o).run M Q :=
  ⟨hc, fun p hp => h p _ hp mupd_same (Keep.new hp)⟩
theorem bif_of {b : Bool} {f g : Mem → Prop} {M : Mem} (h1 : b = true → f M) (h0 : b = false → g M) : bifM b f g M := by
  cases b with
  | true => exact h1 rfl
  | false => exact h0 rfl
theorem bif_dec {p : Prop} [Decidable p] {f g : Mem → Prop} {M : Mem} (h1 : p → f M) (h0 : ¬ p → g M) : bifM (decide p) f g M := bif_of (fun h => h1 (of_decide_eq_true h)) fun h => h0 (of_decide_eq_false h)
theorem bif_pos {p : Prop} [Decidable p] {f g : Mem → Prop} {M : Mem} (h : p) (q : f M) : bifM (decide p) f g M := by rw [decide_eq_true h]; exact q
theorem bif_neg {p : Prop} [Decidable p] {f g : Mem → Prop} {M : Mem} (h : ¬ p) (q : g M) : bifM (decide p) f g M := by rw [decide_eq_false h]; exact q

/-- a test that gives b -/
theorem ifS_by {tc : DT} {t u : DS} {Z : DEnds} {env : DEnv} {M : Mem} (p : Prop) [Decidable p] (h : ∀ Q E, Q (decide p) M → tc env M Q E) (h1 : p → t Z env M) (h0 : ¬ p → u Z env M) : dIfS tc t u Z env M := by
  refine h _ _ ?_
  by_cases z : p
  · rw [decide_eq_true z]; exact h1 z
  · rw [decide_eq_false z]; exact h0 z
/-- two statements: what is true between them -/
theorem seq_mid {t u : DS} {Z : DEnds} {env : DEnv} {M : Mem} (R : DEnv → Mem → Prop) (h1 : ∀ N, (∀ e M', R e M' → N e M') → t (Z.to N) env M) (h2 : ∀ e M', R e M' → u Z e M') : dSeq t u Z env M := h1 (u Z) h2
/-- an if with statements behind it: what is true there -/
theorem bif_mid {b : Bool} {t u : DS} {Z : DEnds} {n : DEnv → Mem → Prop} {env : DEnv} {M : Mem} (R : DEnv → Mem → Prop) (h1 : b = true → ∀ N, (∀ e M', R e M' → N e M') → t (Z.to N) env M) (h0 : b = false → ∀ N, (∀ e M', R e M' → N e M') → u (Z.to N) env M) (h2 : ∀ e M', R e M' → n e M') :
    bifM b (t (Z.to n) env) (u (Z.to n) env) M := by
  cases b with
  | true => exact h1 rfl n h2
  | false => exact h0 rfl n h2
theorem bif_midD {p : Prop} [Decidable p] {t u : DS} {Z : DEnds} {n : DEnv → Mem → Prop} {env : DEnv} {M : Mem} (R : DEnv → Mem → Prop) (h1 : p → ∀ N, (∀ e M', R e M' → N e M') → t (Z.to N) env M) (h0 : ¬ p → ∀ N, (∀ e M', R e M' → N e M') → u (Z.to N) env M) (h2 : ∀ e M', R e M' → n e M') :
    bifM (decide p) (t (Z.to n) env) (u (Z.to n) env) M := bif_mid R (fun h => h1 (of_decide_eq_true h)) (fun h => h0 (of_decide_eq_false h)) h2
/-- for: what is true ahead of each turn; items are the pictures of xs -/
theorem loop_inv {α : Type} (f : α → D) {kp : Mem → Prop} {p : Pat} {tb : DS} {Z : DEnds} (I : List α → DEnv → Mem → Prop) (hk : ∀ r env M, I r env M → kp M)
    (step : ∀ x r env M N, I (x :: r) env M → (∀ e M', I r e M' → N e M') → optE (p.bind M (f x) env) (tb (Z.lp N)) M) (done : ∀ env M, I [] env M → Z.nx env M) :
    ∀ (xs : List α) (env : DEnv) (M : Mem), I xs env M → dLoop kp p tb Z (xs.map f) env M
  | [], env, M, h => ⟨hk _ _ _ h, done _ _ h⟩
  | x :: r, env, M, h => by
    refine ⟨hk _ _ _ h, ?_⟩
    have q := step x r env M (dLoop kp p tb Z (r.map f)) h (loop_inv f I hk step done r)
    unfold optE at q
    split at q
    · rename_i env1 hb
      first | exact q | (rw [hb]; exact q)
    · exact q.elim
def whK (tb : DS) (Z : DEnds) (N : DEnv → Mem → Prop) (env : DEnv) : Bool → Mem → Prop := fun b M => bifM b (tb (Z.lp N) env) (Z.nx env) M
theorem s_whK {tb : DS} {Z : DEnds} {N : DEnv → Mem → Prop} {env : DEnv} {b : Bool} {M : Mem} : whK tb Z N env b M = bifM b (tb (Z.lp N) env) (Z.nx env) M := id rfl
/-- while: what is true ahead of each turn, with a number that falls -/
theorem while_inv {tc : DT} {tb : DS} {Z : DEnds} (I : Nat → DEnv → Mem → Prop)
    (step : ∀ n env M N, I n env M → (∀ m e M', m < n → I m e M' → N e M') → tc env M (whK tb Z N env) (exK Z env)) {n : Nat} {env : DEnv} {M : Mem} (h : I n env M) : dWhile tc tb Z env M := by
  have go : ∀ k n env M, n < k → I n env M → dWhileN tc tb Z k env M := by
    intro k
    induction k with
    | zero => intro n env M h; omega
    | succ k ih => exact fun n env M hk h => step n env M (dWhileN tc tb Z k) h fun m e M' hm => ih m e M' (by omega)
  exact ⟨n + 1, go (n + 1) n env M (Nat.lt_succ_self n) h⟩
def lcY (a : Addr) (acc : List D) (N : List D → Mem → Prop) : DK := fun y M => M a = some (.lst acc) ∧ acc.length < sizeLine ∧ N (acc ++ [y]) (mupd M a (.lst (acc ++ [y])))
def lcT (te : DE) (a : Addr) (acc : List D) (N : List D → Mem → Prop) (env : DEnv) : Bool → Mem → Prop := fun b M => bifM b (eK te env (lcY a acc N) noX) (N acc) M
def lcE (tt : DT) (te : DE) (a : Addr) (acc : List D) (N : List D → Mem → Prop) (env : DEnv) (M : Mem) : Prop := tt env M (lcT te a acc N env) noX
section
variable {te : DE} {tt : DT} {a : Addr} {acc : List D} {N : List D → Mem → Prop} {env : DEnv} {M : Mem} {y : D} {b : Bool}
theorem s_lcY : lcY a acc N y M = (M a = some (.lst acc) ∧ acc.length < sizeLine ∧ N (acc ++ [y]) (mupd M a (.lst (acc ++ [y])))) := id rfl
theorem s_lcT : lcT te a acc N env b M = bifM b (eK te env (lcY a acc N) noX) (N acc) M := id rfl
theorem s_lcE : lcE tt te a acc N env M = tt env M (lcT te a acc N env) noX := id rfl
end
/-- a comprehension: what is true ahead of each turn; a: the new list -/
theorem lc_inv {α : Type} (f : α → D) {kp : Mem → Prop} {p : Pat} {tt : DT} {te : DE} {env : DEnv} {a : Addr} {Q : DK} (I : List α → List D → Mem → Prop) (hk : ∀ r acc M, I r acc M → kp M ∧ M a = some (.lst acc))
    (step : ∀ x r acc M (N : List D → Mem → Prop), I (x :: r) acc M → (∀ acc' M', I r acc' M' → N acc' M') → optE (p.bind M (f x) env) (lcE tt te a acc N) M)
    (done : ∀ acc M, I [] acc M → Q (.ob a) M) : ∀ (xs : List α) (acc : List D) (M : Mem), I xs acc M → dLcGo kp p tt te env a Q (xs.map f) acc M
  | [], acc, M, h => ⟨(hk _ _ _ h).1, (hk _ _ _ h).2, done _ _ h⟩
  | x :: r, acc, M, h => by
    refine ⟨(hk _ _ _ h).1, ?_⟩
    have q := step x r acc M (fun acc' M' => dLcGo kp p tt te env a Q (r.map f) acc' M') h (fun acc' M' => lc_inv f I hk step done r acc' M')
    unfold optE at q
    split at q
    · rename_i env1 hb
      first | exact q | (rw [hb]; exact q)
    · exact q.elim
theorem x_iaddN {X : Cx} : XOp X (inplaceOp .Add) opIadd := x_iadd
theorem ix_lit0 {n : Nat} (h : 0 < n) : ixN n 0 = some 0 := by unfold ixN; simp; omega
theorem ix_lit {n k : Nat} (h : k < n) : ixN n (k : Int) = some k := by unfold ixN; simp; omega
end PL

namespace PL
open PySem PySem.Spec PyProof.Rows L2

/-! built-ins that may answer in more than one way -/
abbrev DCallG := List D → Mem → DK → Prop
def MonoC (r : DCallG) : Prop := ∀ ds M (Q Q' : DK), (∀ d M, Q d M → Q' d M) → r ds M Q → r ds M Q'
def upCallG (K : PySem.W.Frag) (r : DCallG) : List V → Hp → VK → Prop := fun xs H Q => ∃ ds M, RepL K H ds xs ∧ Sim K H M ∧ r ds M (upK K H Q)
def cgK (r : DCallG) (Q : DK) : List D → Mem → Prop := fun ds M => r ds M Q
def dCG (r : DCallG) (t : DA) : DE := fun env M Q E => t env M (cgK r Q) E
theorem s_cg {r t env M Q E} : dCG r t env M Q E = t env M (cgK r Q) E := id rfl
theorem s_cgK {r Q ds M} : cgK r Q ds M = r ds M Q := id rfl
section
variable {X : Cx} {W : WX} {x : Str} {p pos : Pos} {e : Expr} {es : List Expr} {t : DA} {id T : String} {r : DCallG}
theorem cg_up (mr : MonoC r) (ha : XA X W es t) : ∀ σ H Q, liftE X.K W (dCG r t) σ H Q → tCB (upCallG X.K r) (liftA X.K W t) σ H Q := by
  rintro σ H Q ⟨env, M, re, s, h⟩
  refine stepA ha.mono re s h (fun ds M1 us H1 e1 s1 re1 r1 h1 => ?_) fun _ _ _ z => z
  exact ⟨ds, M1, r1, s1, mr _ _ _ _ (upK_mono e1) h1⟩
theorem xe_callG (mr : MonoC r) (hc : CallR X (.builtin id) (upCallG X.K r)) (hg : Gl X x) (hm : X.mg x = none) (hv : bootBuiltins x = some (.builtin id)) (ha : XA X W (e :: es) t) (hn : x ≠ "__name__" := by decide) (hdb : (x == ("__debug__" : Str)) = false := by decide)
    (he : starEach (e :: es) X.env = (false, eval e X.env) :: starEach es X.env := by rfl) (hpl : (backTo pos (starEach es X.env)).any (·.1) = false := by rfl) : XE X W (.Call (.Name x p) (e :: es) [] pos) (dCG r t) :=
  ⟨fun env M Q Q' E E' hQ hE => ha.mono _ _ _ _ _ _ (fun ds M1 => mr ds M1 _ _ hQ) hE, PEw (pe_callB hc hg hm hv ha.pa hn hdb he hpl) (cg_up mr ha)⟩
end

/-! sorted -/
def SortsTo (dd : Bool) (ss ys : List Str) : Prop := sortedS ys = true ∧ if dd = true then ys.Nodup ∧ ∀ x, x ∈ ys ↔ x ∈ ss else ys.Perm ss
def intsOf : List D → Option (List Int)
  | [] => some []
  | .v (.int b) :: r => (intsOf r).map (b :: ·)
  | _ :: _ => none
theorem intsOf_eq : ∀ {ds : List D} {bs : List Int}, intsOf ds = some bs → ds = bs.map D.int
  | [], bs, h => by simp [intsOf] at h; subst h; rfl
  | .v (.int b) :: r, bs, h => by
    simp only [intsOf, Option.map_eq_some_iff] at h
    obtain ⟨cs, h1, rfl⟩ := h
    rw [intsOf_eq h1]; rfl
  | .tup _ :: _, _, h => by simp [intsOf] at h
  | .v .non :: _, _, h => by simp [intsOf] at h
  | .v (.str _) :: _, _, h => by simp [intsOf] at h
  | .v (.bl _) :: _, _, h => by simp [intsOf] at h
  | .v (.byt _) :: _, _, h => by simp [intsOf] at h
  | .v (.flt _) :: _, _, h => by simp [intsOf] at h
  | .v (.ref _) :: _, _, h => by simp [intsOf] at h
  | .v (.ty _) :: _, _, h => by simp [intsOf] at h
theorem intsOf_map : ∀ bs : List Int, intsOf (bs.map D.int) = some bs
  | [] => rfl
  | b :: bs => by show (intsOf (bs.map D.int)).map _ = _; rw [intsOf_map bs]; rfl
def lstAt (M : Mem) (d : D) : Option (List D) := match d with
  | .v (.ref a) => match M a with
    | some (.lst ds) => some ds
    | some (.rol ds) => some ds
    | _ => none
  | _ => none
theorem lstAt_rep {K : PySem.W.Frag} {H : Hp} {M : Mem} {d : D} {u : V} {ds : List D} (s : Sim K H M) (r : RepD K H d u) (h : lstAt M d = some ds) : ∃ a us, u = .ref a ∧ SqL K H a us ∧ RepL K H ds us := by
  unfold lstAt at h
  split at h
  · have e := rep_v r
    subst e
    split at h
    · rename_i hm; cases h; obtain ⟨us, q, l⟩ := s.seq (.inl hm); exact ⟨_, us, rfl, q, l⟩
    · rename_i hm; cases h; obtain ⟨us, q, l⟩ := s.seq (.inr hm); exact ⟨_, us, rfl, q, l⟩
    · cases h
  · cases h
/-- sorted of a list of texts -/
def bSortS : DCallG := fun ds M Q => ∃ d es ss, ds = [d] ∧ lstAt M d = some es ∧ strsOf es = some ss ∧ ss.length < 64 ∧ ∀ ys p, SortsTo false ss ys → M p = none → Q (.ob p) (mupd M p (.lst (ys.map D.str)))
def bSortI : DCallG := fun ds M Q => ∃ d es ss, ds = [d] ∧ lstAt M d = some es ∧ intsOf es = some ss ∧ ∀ (ys : List Int) p, ys.Perm ss → ys.Pairwise (· ≤ ·) → M p = none → Q (.ob p) (mupd M p (.lst (ys.map D.int)))
def bSorted : DCallG := fun ds M Q => bSortS ds M Q ∨ bSortI ds M Q
theorem bSorted_mono : MonoC bSorted := by
  rintro ds M Q Q' hQ (⟨d, es, ss, h1, h2, h3, h4, h⟩ | ⟨d, es, ss, h1, h2, h3, h⟩)
  · exact .inl ⟨d, es, ss, h1, h2, h3, h4, fun ys p a b => hQ _ _ (h ys p a b)⟩
  · exact .inr ⟨d, es, ss, h1, h2, h3, fun ys p a b c => hQ _ _ (h ys p a b c)⟩
section
variable {X : Cx}
theorem c_sorted : CallR X (.builtin "sorted") (upCallG X.K bSorted) := by
  rintro pins s σ H xs us Q I r ⟨ds, M, rl, sm, (⟨d, es, ss, rfl, h2, h3, h4, h⟩ | ⟨d, es, ss, rfl, h2, h3, h⟩)⟩
  · obtain ⟨u, rfl, q⟩ := rl1 rl
    obtain ⟨a, ws, rfl, hs, l⟩ := lstAt_rep sm q h2
    rw [strsOf_eq h3] at l
    rw [l.strs] at hs
    exact cr_sortedS pins s σ H _ us Q I r ⟨a, ss, rfl, hs, h4, fun ys p z1 z2 hp => fin_lst (fun p hp => h ys p ⟨z2, z1⟩ hp) sm hp .of_strs⟩
  · obtain ⟨u, rfl, q⟩ := rl1 rl
    obtain ⟨a, ws, rfl, hs, l⟩ := lstAt_rep sm q h2
    rw [intsOf_eq h3] at l
    rw [l.ints] at hs
    exact cr_sortedI pins s σ H _ us Q I r ⟨a, ss, rfl, hs, fun ys p z1 z2 hp => fin_lst (fun p hp => h ys p z1 z2 hp) sm hp .of_ints⟩
end

/-! {} -/
def dDict0 : DE := fun _ M Q _ => (Res.new True (.dk [])).run M Q
theorem s_dict0 {env M Q E} : dDict0 env M Q E = (Res.new True (.dk [])).run M Q := id rfl
theorem xe_dict0 {X : Cx} {W : WX} {pos : Pos} : XE X W (.Dict [] [] pos) dDict0 := by
  refine ⟨fun env M Q Q' E E' hQ hE h => Res.mono hQ h, PEw pe_dnewK ?_⟩
  rintro σ H Q ⟨env, M, re, s, h⟩
  intro p hp
  exact fin_new (ob := .dk []) h.2 s hp ⟨[], upd_same, rfl⟩
/-! the script -/
def KL (K : PySem.W.Frag) (a : Addr) (xs : List V) : Prop := ∃ (o : Obj) (its : Array Value) (n : Nat), K.lookup a = some o ∧ o.cls = .type "list" ∧ o.dict = none ∧ o.data = .seq its n ∧ its.size ≤ sizeLine ∧ Vals xs its.toList
def Scr (K : PySem.W.Frag) (M : Mem) (a : Addr) (ns : List Int) : Prop := M a = some (.rol (ns.map D.int)) ∨ KL K a (ns.map V.int)
theorem Scr.seq {K : PySem.W.Frag} {H : Hp} {M : Mem} {a : Addr} {ns : List Int} (h : Scr K M a ns) (s : Sim K H M) : SqL K H a (ns.map V.int) := by
  rcases h with h | h
  · obtain ⟨us, q, l⟩ := s.seq (.inr h)
    rw [l.ints] at q
    exact q
  · exact .inr h
theorem script_rep {K : PySem.W.Frag} {sp : DSp} {H : Hp} {a : Addr} {ns : List Int} (ho : Only H) (hS : SqL K H a (ns.map V.int)) (h : ∀ M, Scr K M a ns → sp [.ob a] M (fun d _ => d = .bl true) fun _ _ _ => False) (hm : MonoSp sp) :
    liftSp K sp [.ref a] H (fun v _ => v = .bl true) fun _ _ _ => False := by
  have fin : ∀ M, Scr K M a ns → Sim K H M → liftSp K sp [.ref a] H (fun v _ => v = .bl true) fun _ _ _ => False := fun M q s => by
    refine ⟨[.ob a], M, .cons rep_of .nil, s, hm _ _ _ _ _ _ ?_ ?_ (h M q)⟩
    · rintro d M' rfl u H' _ _ r
      exact rep_v r
    · exact fun c f M' z => z.elim
  rcases hS with (hS | ⟨o, hS⟩) | hS
  · rcases ho a with z | ⟨o, xs, z⟩
    · rw [z] at hS; cases hS
    · rw [z] at hS; cases hS
  · refine fin (fun b => if b = a then some (.rol (ns.map D.int)) else none) (.inl (if_pos rfl)) fun b o' e => ?_
    dsimp only at e
    split at e
    · rename_i hb; cases e; subst hb; exact ⟨o, _, hS, .of_ints⟩
    · cases e
  · exact fin (fun _ => none) (.inr hS) fun b o' e => by cases e
def bListS (K : PySem.W.Frag) : DCallG := fun ds M Q => ∃ (a : Addr) (ns : List Int), ds = [.ob a] ∧ Scr K M a ns ∧ ∀ p, M p = none → Q (.ob p) (mupd M p (.lst (ns.map D.int)))
theorem bListS_mono {K : PySem.W.Frag} : MonoC (bListS K) := by
  rintro ds M Q Q' hQ ⟨a, ns, h1, h2, h⟩
  exact ⟨a, ns, h1, h2, fun p hp => hQ _ _ (h p hp)⟩
section
variable {X : Cx} {W : WX} {x : Str} {p pos : Pos} {e : Expr} {es : List Expr} {t : DA} {T : String} {r : DCallG}
theorem xe_callTyG (mr : MonoC r) (hc : CallR X (.type T) (upCallG X.K r)) (hg : Gl X x) (hm : X.mg x = none) (hv : bootBuiltins x = some (.type T)) (ha : XA X W (e :: es) t) (hn : x ≠ "__name__" := by decide) (hdb : (x == ("__debug__" : Str)) = false := by decide)
    (he : starEach (e :: es) X.env = (false, eval e X.env) :: starEach es X.env := by rfl) (hpl : (backTo pos (starEach es X.env)).any (·.1) = false := by rfl) : XE X W (.Call (.Name x p) (e :: es) [] pos) (dCG r t) :=
  ⟨fun env M Q Q' E E' hQ hE => ha.mono _ _ _ _ _ _ (fun ds M1 => mr ds M1 _ _ hQ) hE, PEw (pe_callTy hc hg hm hv ha.pa hn hdb he hpl) (cg_up mr ha)⟩
theorem c_listS : CallR X (.type "list") (upCallG X.K (bListS X.K)) := by
  rintro pins s σ H xs us Q I r ⟨ds, M, rl, sm, a, ns, rfl, hs, h⟩
  obtain ⟨u, rfl, q⟩ := rl1 rl
  rw [rep_v q] at r
  exact call_list_of pins s σ H _ us Q I r ⟨_, _, rfl, .inl (hs.seq sm), fun l hl => fin_lst h sm hl .of_ints⟩
end
theorem cx_none {P : Program} {w : World} {H : Hp} {s : Shared} {e : Value} {s' : Shared} (h : L2.CX P w [] H s (fun _ _ _ => False) e s') : False := by
  obtain ⟨_, _, _, _, _, _, _, _, _, _, _, _, z⟩ := h
  exact z
theorem rel_int {i : Int} {t : Tok} : RelV (.int i) (.int i t) := ⟨t, rfl⟩
theorem rel_str {x : Str} {t : Tok} : RelV (.str x) (.str x t) := ⟨t, rfl⟩
end PL

namespace PL
open PySem PySem.Spec PyProof.Rows L2

/-! comprehensions by what each item gives -/
inductive Outs {α : Type} (R : α → Option D → Prop) : List α → List D → Prop
  | nil : Outs R [] []
  | yes {x d xs ds} : R x (some d) → Outs R xs ds → Outs R (x :: xs) (d :: ds)
  | no {x xs ds} : R x none → Outs R xs ds → Outs R (x :: xs) ds
theorem Outs.len {α : Type} {R : α → Option D → Prop} {xs : List α} {ds : List D} (h : Outs R xs ds) : ds.length ≤ xs.length := by
  induction h with
  | nil => exact Nat.le_refl _
  | yes _ _ ih => simp only [List.length_cons]; omega
  | no _ _ ih => simp only [List.length_cons]; omega
theorem Outs.map {α : Type} {g : α → D} {R : α → Option D → Prop} (hR : ∀ x o, R x o → o = some (g x)) {xs : List α} {ds : List D} (h : Outs R xs ds) : ds = xs.map g := by
  induction h with
  | nil => rfl
  | yes h _ ih => cases hR _ _ h; rw [ih]; rfl
  | no h _ _ => cases hR _ _ h
theorem Outs.filter {α : Type} {g : α → D} {b : α → Bool} {R : α → Option D → Prop} (hR : ∀ x o, R x o → o = if b x = true then some (g x) else none) {xs : List α} {ds : List D} (h : Outs R xs ds) : ds = (xs.filter b).map g := by
  induction h with
  | nil => rfl
  | yes h _ ih =>
    have q := hR _ _ h
    rename_i x d xs ds _
    cases e : b x with
    | true => rw [e, if_pos rfl] at q; cases q; rw [ih, List.filter_cons_of_pos e]; rfl
    | false => rw [e, if_neg Bool.false_ne_true] at q; cases q
  | no h _ ih =>
    have q := hR _ _ h
    rename_i x xs ds _
    cases e : b x with
    | true => rw [e, if_pos rfl] at q; cases q
    | false => rw [ih, List.filter_cons_of_neg (by simp [e])]
theorem Outs.all {α : Type} {P : D → Prop} {R : α → Option D → Prop} (hR : ∀ x d, R x (some d) → P d) {xs : List α} {ds : List D} (h : Outs R xs ds) : ∀ d ∈ ds, P d := by
  induction h with
  | nil => intro d hd; cases hd
  | yes h _ ih =>
    intro d hd
    rcases List.mem_cons.mp hd with z | z
    · rw [z]; exact hR _ _ h
    · exact ih d z
  | no h _ ih => exact ih
theorem Outs.lenEq {α : Type} {R : α → Option D → Prop} (hR : ∀ x, ¬ R x none) {xs : List α} {ds : List D} (h : Outs R xs ds) : ds.length = xs.length := by
  induction h with
  | nil => rfl
  | yes _ _ ih => simp only [List.length_cons, ih]
  | no h _ _ => exact (hR _ h).elim
def lcB (te : DE) (env : DEnv) (N : DK) (sk : Mem → Prop) : Bool → Mem → Prop := fun b M => bifM b (eK te env N noX) sk M
def lcS (tt : DT) (te : DE) (N : DK) (sk : Mem → Prop) (env : DEnv) (M : Mem) : Prop := tt env M (lcB te env N sk) noX
theorem s_lcB {te env N sk b M} : lcB te env N sk b M = bifM b (eK te env N noX) sk M := id rfl
theorem s_lcS {tt te N sk env M} : lcS tt te N sk env M = tt env M (lcB te env N sk) noX := id rfl
theorem lc_rule {α : Type} (f : α → D) (R : α → Option D → Prop) (J : Mem → Prop) (S : List Addr) {M0 : Mem} {a : Addr} {kp : Mem → Prop} {p : Pat} {tt : DT} {te : DE} {env : DEnv} {Q : DK} (xs : List α) (ha : M0 a = none) (haS : a ∉ S) (hJ0 : J M0) (hJ : ∀ M' o, J M' → J (mupd M' a o))
    (hk : ∀ M', Keep S M0 M' → kp M') (hlen : xs.length ≤ sizeLine)
    (step : ∀ x ∈ xs, ∀ M' (N : DK) (sk : Mem → Prop), J M' → Keep S M0 M' → (∀ d M'', R x (some d) → J M'' → Keep S M' M'' → N d M'') → (∀ M'', R x none → J M'' → Keep S M' M'' → sk M'') → optE (p.bind M' (f x) env) (lcS tt te N sk) M')
    (done : ∀ M' ds, Outs R xs ds → J M' → Keep S M0 M' → M' a = some (.lst ds) → Q (.ob a) M') : dLcGo kp p tt te env a Q (xs.map f) [] (mupd M0 a (.lst [])) := by
  have go : ∀ (r : List α) (acc : List D) (M' : Mem), (∀ x ∈ r, x ∈ xs) → acc.length + r.length ≤ sizeLine → (∀ ds, Outs R r ds → Outs R xs (acc ++ ds)) → J M' → Keep S M0 M' → M' a = some (.lst acc) → dLcGo kp p tt te env a Q (r.map f) acc M' := by
    intro r
    induction r with
    | nil => exact fun acc M' _ _ h j k e => ⟨hk _ k, e, done _ _ (by simpa using h [] .nil) j k e⟩
    | cons x r ih =>
      intro acc M' hm hl h j k e
      refine ⟨hk _ k, ?_⟩
      simp only [List.length_cons] at hl
      have q := step x (hm x List.mem_cons_self) M' (fun y M3 => M3 a = some (.lst acc) ∧ acc.length < sizeLine ∧ dLcGo kp p tt te env a Q (r.map f) (acc ++ [y]) (mupd M3 a (.lst (acc ++ [y])))) (dLcGo kp p tt te env a Q (r.map f) acc) j k
        (fun d M'' hR j2 k2 => ⟨k2 _ _ e haS, by omega, ih _ _ (fun z hz => hm z (List.mem_cons_of_mem _ hz)) (by rw [List.length_append]; simp only [List.length_cons, List.length_nil]; omega)
          (fun ds hd => by rw [List.append_assoc]; exact h _ (.yes hR hd)) (hJ _ _ j2) (fun b o eb nb => by
            have : b ≠ a := fun z => by rw [z, ha] at eb; cases eb
            rw [mupd_ne this]
            exact k2 _ _ (k _ _ eb nb) nb) mupd_same⟩)
        (fun M'' hR j2 k2 => ih _ _ (fun z hz => hm z (List.mem_cons_of_mem _ hz)) (by omega) (fun ds hd => h _ (.no hR hd)) j2 (k.trans k2) (k2 _ _ e haS))
      unfold optE at q
      split at q
      · rename_i env1 hb
        first | exact q | (rw [hb]; exact q)
      · exact q.elim
  exact go xs [] _ (fun _ h => h) (by simpa using hlen) (fun ds h => h) (hJ _ _ hJ0) (Keep.new ha) mupd_same
/-- items that a pure reading gives -/
theorem lc_pure {α : Type} (f g : α → D) (b : α → Bool) {M0 : Mem} {a : Addr} {kp : Mem → Prop} {p : Pat} {tt : DT} {te : DE} {env : DEnv} {Q : DK} (xs : List α) (ha : M0 a = none) (hk : ∀ M', Keep [] M0 M' → kp M') (hlen : xs.length ≤ sizeLine)
    (step : ∀ x ∈ xs, ∀ M' (N : DK) (sk : Mem → Prop), Keep [] M0 M' → (b x = true → ∀ M'', Keep [] M' M'' → N (g x) M'') → (b x = false → ∀ M'', Keep [] M' M'' → sk M'') → optE (p.bind M' (f x) env) (lcS tt te N sk) M')
    (done : ∀ M', Keep [] M0 M' → M' a = some (.lst ((xs.filter b).map g)) → Q (.ob a) M') : dLcGo kp p tt te env a Q (xs.map f) [] (mupd M0 a (.lst [])) := by
  refine lc_rule f (fun x o => o = if b x = true then some (g x) else none) (fun _ => True) [] xs ha (by simp) trivial (fun _ _ _ => trivial) hk hlen (fun x hx M' N sk _ k hy hn => step x hx M' N sk k (fun e M'' k2 => hy _ M'' (by rw [e, if_pos rfl]) trivial k2) fun e M'' k2 => hn M'' (by rw [e, if_neg Bool.false_ne_true]) trivial k2) fun M' ds ho _ k e => ?_
  rw [ho.filter (fun _ _ h => h)] at e
  exact done M' k e
theorem lc_pureI (g : D → D) (b : D → Bool) {M0 : Mem} {a : Addr} {kp : Mem → Prop} {p : Pat} {tt : DT} {te : DE} {env : DEnv} {Q : DK} (xs : List D) (ha : M0 a = none) (hk : ∀ M', Keep [] M0 M' → kp M') (hlen : xs.length ≤ sizeLine)
    (step : ∀ x ∈ xs, ∀ M' (N : DK) (sk : Mem → Prop), Keep [] M0 M' → (b x = true → ∀ M'', Keep [] M' M'' → N (g x) M'') → (b x = false → ∀ M'', Keep [] M' M'' → sk M'') → optE (p.bind M' x env) (lcS tt te N sk) M')
    (done : ∀ M', Keep [] M0 M' → M' a = some (.lst ((xs.filter b).map g)) → Q (.ob a) M') : dLcGo kp p tt te env a Q xs [] (mupd M0 a (.lst [])) := by
  have q := lc_pure (fun d : D => d) g b xs ha hk hlen step done
  rw [List.map_id'] at q
  exact q
end PL

set_option maxHeartbeats 4000000
namespace PL
open PySem PySem.Spec PyProof.Rows L2

/-! sets of texts: the entries, their texts in the order in which they stand -/
def txt : Value → Str
  | .str x _ => x
  | _ => ⟨#[]⟩
abbrev Ent := Int × Value
def IsEnt (w : World) (e : Ent) : Prop := ∃ x tk, e.2 = Value.str x tk ∧ e.1 = hashStr w x
abbrev texts (es : Array Ent) : List Str := es.toList.map fun e => txt e.2
/-- an object that holds such a set -/
structure Held (w : World) (h : Heap) (a : Addr) (es : Array Ent) (t : SetTable) : Prop where
  obj : ∃ o ep, h.get? a = some o ∧ o.ExactSet ∧ o.data = .set es ep t
  ent : ∀ e ∈ es.toList, IsEnt w e
  nd : (texts es).Nodup
  few : es.size < scanBound
  fits : t.fits es.size = true
  ris : Ris t.place.toList
  led : w.params.followText "set-order" = true ∨ t.led = true
def SetOfTexts (w : World) (h : Heap) (a : Addr) (ks : List Str) : Prop := ∃ es t, Held w h a es t ∧ (texts es).Perm ks
theorem SetOfTexts.keep {w : World} {h h' : Heap} {a : Addr} {ks : List Str} (H : SetOfTexts w h a ks) (k : ∀ o, h.get? a = some o → h'.get? a = some o) : SetOfTexts w h' a ks := by
  obtain ⟨es, t, ⟨⟨o, ep, h1, h2⟩, r1, r2, r3, r4, r5, r6⟩, p⟩ := H
  exact ⟨es, t, ⟨⟨o, ep, k o h1, h2⟩, r1, r2, r3, r4, r5, r6⟩, p⟩
theorem ents_strKind {P : Program} {w : World} {l : List Ent} (g : ∀ e ∈ l, IsEnt w e) : ElemsOf (PySem.strKind P w) l := fun e he => by
  obtain ⟨x, tk, h1, h2⟩ := g e he
  rw [h1, h2]
  exact ⟨⟨x, by simp [PySem.strKind, Value.isStrOf], rfl⟩, rfl⟩
theorem is_txt {P : Program} {w : World} {e : Ent} (g : IsEnt w e) (x : Str) : (PySem.strKind P w).is x e.2 = true ↔ txt e.2 = x := by
  obtain ⟨y, tk, h1, _⟩ := g
  rw [h1]
  constructor
  · intro q
    obtain ⟨t, h⟩ := Value.isStrOf_shape (show Value.isStrOf x (.str y tk) = true from q)
    injection h with h
  · rintro rfl
    simp [PySem.strKind, Value.isStrOf, txt]
section
variable {P : Program} {w : World} {A : Around} {E : Value → Shared → Prop} {s : Shared} {a : Addr}
theorem rule_if {b : Bool} {Q : Unit → Shared → Prop} (q : Q () s) : wpAny (model P w) A (match b with | true => rule "set.scan.the-table-gave-way" | false => pure ()) Q E s := by
  cases b
  · exact wpAny_pure q
  · exact wpAny_rule q
/-- what is written behind a new entry -/
theorem put_entries {o : Obj} {es es1 : Array Ent} {ep : Nat} {t t1 : SetTable} {Q : Unit → Shared → Prop} (ho : s.heap.get? a = some o) (hx : o.ExactSet) (hd : o.data = .set es ep t) (fw : es1.size < scanBound)
    (h : ∀ h', Heap.SameBut a s.heap h' → (∃ o' ep', h'.get? a = some o' ∧ o'.ExactSet ∧ o'.data = .set es1 ep' t1) → Q () { s with heap := h' }) : wpAny (model P w) A (storeSet a es1 t1) Q E s := by
  refine wpAny_storeSet_of ho hd (h _ (Heap.SameBut.update s.heap a (Obj.putSet es1 t1)) ⟨{ o with data := .set es1 (ep + 1) t1 }, ep + 1, ?_, hx, rfl⟩) (fits_of_scanBound fw)
  rw [← putSet_of es1 t1 hd]
  exact Heap.get?_update_self (Obj.putSet es1 t1) ho (by rw [putSet_of es1 t1 hd]; rfl)
theorem same_trans {h h' h'' : Heap} (p : Heap.SameBut a h h') (q : Heap.SameBut a h' h'') : Heap.SameBut a h h'' := p.trans q
/-- entries that are ready to be written -/
structure Ready (w : World) (es : Array Ent) (t : SetTable) (ks : List Str) : Prop where
  ent : ∀ e ∈ es.toList, IsEnt w e
  nd : (texts es).Nodup
  few : es.size < scanBound
  fits : t.fits es.size = true
  ris : Ris t.place.toList
  led : w.params.followText "set-order" = true ∨ t.led = true
  pm : (texts es).Perm ks
theorem Ready.held {es : Array Ent} {t : SetTable} {ks : List Str} {h : Heap} (R : Ready w es t ks) (ho : ∃ o ep, h.get? a = some o ∧ o.ExactSet ∧ o.data = .set es ep t) : SetOfTexts w h a ks :=
  ⟨es, t, ⟨ho, R.ent, R.nd, R.few, R.fits, R.ris, R.led⟩, R.pm⟩
theorem Ready.relaid {es : Array Ent} {t : SetTable} {ks : List Str} (R : Ready w es t ks) (n : Nat) : Ready w (relayAll t es n).1 (relayAll t es n).2.1 ks := by
  have p := relayAll_perm t es n
  have l := relayAll_led t es n
  refine ⟨fun e he => R.ent e (p.mem_iff.mp he), (p.map _).nodup_iff.mpr R.nd, ?_, relayAll_fits t es n, relayAll_ris t es n, R.led.imp id fun z => by rw [l]; exact z, (p.map _).trans R.pm⟩
  have := p.length_eq
  rw [Array.length_toList, Array.length_toList] at this
  have := R.few
  omega
theorem write_ready {g : Bool → Sem Unit} (hg : ∀ (b : Bool) (s : Shared) (Q : Unit → Shared → Prop), Q () s → wpAny (model P w) A (g b) Q E s) {o : Obj} {es es1 : Array Ent} {ep : Nat} {t t1 : SetTable} {ks : List Str} {wd : Bool} {Q : Option Bool → Shared → Prop}
    (ho : s.heap.get? a = some o) (hx : o.ExactSet) (hd : o.data = .set es ep t) (R : Ready w es1 t1 ks) (h : ∀ h', Heap.SameBut a s.heap h' → SetOfTexts w h' a ks → Q (some true) { s with heap := h' }) :
    wpAny (model P w) A (do
      storeSet a es1 t1
      if (!wd && t1.tooFull) = true then do
          g (relayAll t1 es1 (SetTable.grown es1.size)).2.2
          storeSet a (relayAll t1 es1 (SetTable.grown es1.size)).1 (relayAll t1 es1 (SetTable.grown es1.size)).2.1
          pure (some true)
        else pure (some true)) Q E s := by
  refine wpAny_bind (put_entries ho hx hd R.few fun h1 sb1 at1 => ?_)
  split
  · have R2 := R.relaid (SetTable.grown es1.size)
    obtain ⟨o1, ep1, g1, x1, d1⟩ := at1
    refine wpAny_bind (hg _ _ _ (wpAny_bind (put_entries g1 x1 d1 R2.few fun h2 sb2 at2 => wpAny_pure ?_)))
    exact h _ (sb1.trans sb2) (R2.held at2)
  · exact wpAny_pure (h _ sb1 (R.held at1))
/-- the set takes one text more -/
theorem takes_text {ks : List Str} {x : Str} {tk : Tok} {Q : Bool → Shared → Prop} (H : SetOfTexts w s.heap a ks) (room : ks.length + 1 < scanBound)
    (hQ : ∀ b h', Heap.SameBut a s.heap h' → SetOfTexts w h' a (if x ∈ ks then ks else x :: ks) → Q b { s with heap := h' }) : wpAny (model P w) A (setAddHashed a (.str x tk) (hashStr w x)) Q E s := by
  obtain ⟨es, t, ⟨⟨o, ep, ho, hx, hd⟩, ge, nd, fw, hf, hr, hl⟩, pm⟩ := H
  have sz : es.size = ks.length := by rw [← pm.length_eq, List.length_map, Array.length_toList]
  have is : (PySem.strKind P w).is x (.str x tk) = true := by simp [PySem.strKind, Value.isStrOf]
  have el := ents_strKind (P := P) ge
  unfold setAddHashed setAddHashedIn
  refine wpAny_holding (wpAny_bind (wpAny_setState_of ho hd hf ?_))
  dsimp only
  rw [if_pos (byScan_of (show (Value.str x tk).scannable = true from rfl) fw el)]
  unfold setAddByScan
  refine wpAny_bind (wpAny_bind (wpAny_rule (wpAny_bind ?_)))
  refine wpAny_setScan_of (knd := PySem.strKind P w) (k := x) is ho hd hf el ?_
  cases fi : List.findIdx? (fun e => (PySem.strKind P w).is x e.2) es.toList with
  | some j =>
    obtain ⟨hj, q, _⟩ := List.findIdx?_eq_some_iff_getElem.mp fi
    have hm : x ∈ ks := pm.mem_iff.mp (List.mem_map.mpr ⟨_, List.getElem_mem hj, (is_txt (ge _ (List.getElem_mem hj)) x).mp q⟩)
    dsimp only
    refine wpAny_pure (wpAny_pure (hQ _ s.heap (Heap.SameBut.refl a s.heap) ?_))
    rw [if_pos hm]
    exact ⟨es, t, ⟨⟨o, ep, ho, hx, hd⟩, ge, nd, fw, hf, hr, hl⟩, pm⟩
  | none =>
    have hm : x ∉ ks := fun z => by
      obtain ⟨e, he, q⟩ := List.mem_map.mp (pm.mem_iff.mpr z)
      have := List.findIdx?_eq_none_iff.mp fi e he
      rw [(is_txt (ge e he) x).mpr q] at this
      cases this
    rw [if_neg hm] at hQ
    dsimp only
    have p1 := layNew_perm t es (hashStr w x) (.str x tk)
    have f1 := layNew_fits t es (hashStr w x) (.str x tk)
    have r1 := layNew_ris t es (hashStr w x) (.str x tk) hr
    have l1 := layNew_led t es (hashStr w x) (.str x tk)
    have R : Ready w (layNew t es (hashStr w x) (.str x tk)).1 { (layNew t es (hashStr w x) (.str x tk)).2.1 with plain := false } (x :: ks) ∧ Ready w (layNew t es (hashStr w x) (.str x tk)).1 (layNew t es (hashStr w x) (.str x tk)).2.1 (x :: ks) := by
      generalize layNew t es (hashStr w x) (.str x tk) = L at p1 f1 r1 l1 ⊢
      rw [Array.toList_push] at p1
      have p2 := p1.trans (List.perm_append_singleton _ _)
      have p3 : (texts L.1).Perm (x :: texts es) := p2.map fun e => txt e.2
      have len := p2.length_eq
      rw [List.length_cons, Array.length_toList, Array.length_toList] at len
      have ge1 : ∀ e ∈ L.1.toList, IsEnt w e := fun e he => by
        rcases List.mem_cons.mp (p2.mem_iff.mp he) with z | z
        · rw [z]; exact ⟨x, tk, rfl, rfl⟩
        · exact ge e z
      have nd1 : (texts L.1).Nodup := p3.nodup_iff.mpr (List.nodup_cons.mpr ⟨fun z => hm (pm.mem_iff.mp z), nd⟩)
      have pk : (texts L.1).Perm (x :: ks) := p3.trans (pm.cons x)
      have led1 : w.params.followText "set-order" = true ∨ L.2.1.led = true := hl.imp id fun z => by rw [l1]; exact z
      exact ⟨⟨ge1, nd1, by omega, SetTable.fits_plain_off f1, r1, led1, pk⟩, ⟨ge1, nd1, by omega, f1, r1, led1, pk⟩⟩
    generalize layNew t es (hashStr w x) (.str x tk) = L at R ⊢
    obtain ⟨es1, t1, wd, gv⟩ := L
    dsimp only at R ⊢
    have gw : ∀ (b : Bool) (s : Shared) (Q : Unit → Shared → Prop), Q () s → wpAny (model P w) A (match b with | true => rule "set.scan.the-table-gave-way" | false => pure ()) Q E s := fun b s Q q => rule_if q
    refine wpAny_bind (gw _ _ _ ?_)
    split
    · refine wpAny_bind ?_
      rw [hashByValue_scannable 8 (show (Value.str x tk).scannable = true from rfl)]
      refine wpAny_pure (write_ready (t1 := { t1 with plain := false }) gw ho hx hd R.1 fun h' sb q => ?_)
      exact wpAny_pure (hQ _ h' sb q)
    · refine wpAny_bind (wpAny_pure ?_)
      refine write_ready (t1 := t1) gw ho hx hd R.2 fun h' sb q => ?_
      exact wpAny_pure (hQ _ h' sb q)
/-- the texts of a walk, each once; in the order in which they come in -/
def firsts : List Str → List Str → List Str
  | ks, [] => ks
  | ks, x :: r => firsts (if x ∈ ks then ks else x :: ks) r
theorem firsts_mem : ∀ (xs ks : List Str) (y : Str), y ∈ firsts ks xs ↔ y ∈ ks ∨ y ∈ xs
  | [], ks, y => by simp [firsts]
  | x :: r, ks, y => by
    rw [firsts, firsts_mem r]
    split
    · rename_i h
      constructor
      · rintro (z | z)
        · exact .inl z
        · exact .inr (List.mem_cons_of_mem _ z)
      · rintro (z | z)
        · exact .inl z
        · rcases List.mem_cons.mp z with e | z
          · exact .inl (e ▸ h)
          · exact .inr z
    · simp only [List.mem_cons]
      constructor
      · rintro ((z | z) | z)
        · exact .inr (.inl z)
        · exact .inl z
        · exact .inr (.inr z)
      · rintro (z | z | z)
        · exact .inl (.inr z)
        · exact .inl (.inl z)
        · exact .inr z
theorem one_len (x : Str) (ks : List Str) : (if x ∈ ks then ks else x :: ks).length ≤ ks.length + 1 := by
  split
  · omega
  · simp
theorem firsts_len : ∀ (xs ks : List Str), (firsts ks xs).length ≤ ks.length + xs.length
  | [], ks => by simp [firsts]
  | x :: r, ks => by
    rw [firsts]
    have := firsts_len r (if x ∈ ks then ks else x :: ks)
    have := one_len x ks
    simp only [List.length_cons]
    omega
/-- all items of a walk are put in -/
theorem takes_walk {I S : Addr} {fp wr : List Addr} {G : Array GenState → Array GenState → Prop} {n : Nat} {Pv : Nat → Value → Prop} {St : Nat → Shared → Prop} {R : Result → Shared → Prop} (W : WalksS P w A.in1 I fp wr G n Pv St) (hS : S ∉ fp) :
    ∀ (xs ks : List Str) (i : Nat) (s : Shared), i + xs.length = n → ks.length + xs.length + 1 < scanBound → (∀ j v, Pv (i + j) v → j < xs.length → ∃ t, v = .str (xs.getD j ⟨#[]⟩) t) → St i s → SetOfTexts w s.heap S ks →
      (∀ s', Moved (S :: wr) G s s' → SetOfTexts w s'.heap S (firsts ks xs) → R (.ok (.ret .none)) s') → codeAny (model P w) A (.builtin "set.update.loop" ⟨[.ref S, .ref I], []⟩) R s := by
  have nw : S ∉ wr := fun z => hS (W.sub _ z)
  have up : ∀ b ∈ wr, b ∈ S :: wr := fun _ z => List.mem_cons_of_mem _ z
  intro xs
  induction xs with
  | nil =>
    intro ks i s hi _ _ st hs fin
    have e : i = n := hi
    refine codeAny_builtin F.entry_set_update_loop ?_
    rw [Around.under_plainId F.plain_set_update_loop _]
    subst e
    refine wpAny_bind (m := pyNext (.ref I)) (W.done s _ _ st fun s1 mv => ?_)
    exact wpAny_pure (fin s1 (mv.mono up) (hs.keep fun o z => mv.heap S o nw z))
  | cons x r ih =>
    intro ks i s hi room hv st hs fin
    simp only [List.length_cons] at hi room hv
    refine codeAny_builtin F.entry_set_update_loop ?_
    rw [Around.under_plainId F.plain_set_update_loop _]
    refine wpAny_bind (m := pyNext (.ref I)) (W.item i s _ _ (by omega) st fun v s1 pv st1 mv => ?_)
    obtain ⟨tk, rfl⟩ := hv 0 v pv (by omega)
    simp only [List.getD_cons_zero]
    refine wpAny_bind (m := holding [Value.str x tk] (setAdd S (.str x tk))) (wpAny_holding ?_)
    unfold setAdd
    refine wpAny_holding (wpAny_bind ((PySem.strKind P w).pyHash (k := x) (by simp [PySem.strKind, Value.isStrOf]) ?_))
    refine takes_text (s := { s1 with toks := s1.toks + 1 }) (hs.keep fun o z => mv.heap S o nw z) (by omega) fun b h' sb q => ?_
    have stay : ∀ c o, c ≠ S → s1.heap.get? c = some o → h'.get? c = some o := fun c o hc e => by rw [sb.2 c hc]; exact e
    refine wpAny_pure ⟨plainId_quiet F.plain_set_update_loop _, ih _ (i + 1) _ (by omega) (by have := one_len x ks; omega) (fun j v pj hj => ?_) (W.frame _ s1 _ _ st1 (Nat.le_succ _) fun c hc o e => stay c o (fun z => hS (z ▸ hc)) e) q fun s2 mv2 q2 => ?_⟩
    · have := hv (j + 1) v (by rw [show i + (j + 1) = i + 1 + j by omega]; exact pj) (by omega)
      simpa using this
    · refine fin s2 (Moved.trans W.gtrans ((mv.mono up).then_heap (Nat.le_succ _) fun c o hc e => stay c o (fun z => hc (by rw [z]; exact List.mem_cons_self)) e) mv2) q2
abbrev newSetO (w : World) : Obj := { cls := .type "set", dict := none, data := .set #[] 0 (.fresh 0 0 (!w.params.followText "set-order")) }
theorem empty_held {h : Heap} (e : h.get? a = some (newSetO w)) : SetOfTexts w h a [] := by
  refine ⟨#[], _, ⟨⟨_, 0, e, ⟨rfl, rfl, rfl⟩, rfl⟩, ?_, ?_, by decide, rfl, List.Pairwise.nil, ?_⟩, .refl _⟩
  · intro e he; cases he
  · exact List.Pairwise.nil
  · show _ ∨ (!w.params.followText "set-order") = true
    cases w.params.followText "set-order"
    · exact .inr rfl
    · exact .inl rfl
/-- what the filling of a new set does: __init__ with a list of texts -/
theorem init_texts {S l : Addr} {items : Array Value} {xs : List Str} {Q : Value → Shared → Prop} (hh : A.handled = none) (hS : s.heap.get? S = some (newSetO w)) (hl : s.heap.IsList l items) (hne : l ≠ S) (hsz : items.size = xs.length) (hv : ∀ (j : Nat) (v : Value), items[j]? = some v → ∃ t, v = Value.str (xs.getD j ⟨#[]⟩) t)
    (hb : xs.length + 1 < scanBound) (h : ∀ h' tk, SetOfTexts w h' S (firsts [] xs) → (∀ b o, b ≠ S → s.heap.get? b = some o → h'.get? b = some o) → Q .none { s with heap := h', toks := tk }) :
    wpAny (model P w) A (Builtin.«set.__init__» ⟨[.ref S, .ref l], []⟩) (fun f s' => ∃ r, f = .done (.ret r) ∧ Q r s') E s := by
  have hT : s.TypeIs (.ref S) "set" := ⟨_, hS, rfl⟩
  obtain ⟨ol, hol, hcl, nl, hdl⟩ := hl
  obtain ⟨ocls, odict, odata, oslots⟩ := ol
  simp only at hcl hdl
  subst hcl
  subst hdl
  have hl2 : s.heap.IsList l items := ⟨_, hol, rfl, nl, rfl⟩
  have a1 := F.sub_list_set
  have a2 := F.sub_list_frozenset
  have a3 : (Value.type "list" == Value.type "dict") = false := by decide
  unfold Builtin.«set.__init__» noKeywords Builtin.Frozenset.updateFrom
  generalize hp : pyIter = go
  wp_walk
  subst hp
  refine wpAny_pyIter_list hl2 (wpAny_bind (wpAny_runValue ?_))
  have lS : S < s.heap.objs.size := Heap.lt_size hS
  have ll : l < s.heap.objs.size := Heap.lt_size hol
  have hI : l ≠ s.heap.objs.size := Nat.ne_of_lt ll
  have hSI : S ∉ [s.heap.objs.size, l] := by
    simp only [List.mem_cons, List.not_mem_nil, or_false, not_or]
    exact ⟨Nat.ne_of_lt lS, hne.symm⟩
  have e0 : (s.heap.push { cls := .type "list_iterator", data := .fields #[.ref l, .int 0 0] }).get? S = some (newSetO w) := Heap.get?_push_of_some _ hS
  refine takes_walk (A := A) (P := P) (w := w) ((Walks.list (by simp [hh]) _ l hI items).toS) hSI xs [] 0 _ (by omega) (by simpa using hb) (fun j v pv hj => hv j v (by simpa using pv)) ⟨⟨_, Heap.get?_push_size _ rfl, rfl, rfl⟩, hl2.push _⟩ (empty_held e0) ?_
  intro s1 mv q
  obtain ⟨h', g', d', tk', o'⟩ := s1
  obtain rfl : g' = s.gens := mv.gens
  obtain rfl : d' = s.drawn := mv.drawn
  obtain rfl : o' = s.os := mv.os
  refine wpAny_pure (wpAny_pure ⟨_, rfl, h h' tk' q fun b o hb e => ?_⟩)
  refine mv.heap b o ?_ (Heap.get?_push_of_some _ e)
  simp only [List.mem_cons, List.not_mem_nil, or_false, not_or]
  exact ⟨hb, Nat.ne_of_lt (Heap.lt_size e)⟩
/-- set(xs) of a list of texts -/
theorem call_set_texts {l : Addr} {items : Array Value} {xs : List Str} {Q : Value → Shared → Prop} (hh : A.handled = none) (hl : s.heap.IsList l items) (hsz : items.size = xs.length) (hv : ∀ (j : Nat) (v : Value), items[j]? = some v → ∃ t, v = Value.str (xs.getD j ⟨#[]⟩) t)
    (hb : xs.length + 1 < scanBound) (h : ∀ h' tk, SetOfTexts w h' s.heap.objs.size (firsts [] xs) → (∀ b o, s.heap.get? b = some o → h'.get? b = some o) → Q (.ref s.heap.objs.size) { s with heap := h', toks := tk }) : wpAny (model P w) A (call (.type "set") [.ref l]) Q E s := by
  have c1 := F.called_set.notType
  have c2 := F.called_set.canCreate
  have c3 := F.called_set.made
  have c4 := F.called_set.sub
  have c5 := F.typeCall_set_1 (.ref l)
  obtain ⟨_, _, c6⟩ := F.called_set.mro
  refine wpAny_call (codeAny_of_tree ?_)
  show wpAny (model P w) _ (callAny (.type "set") ⟨[.ref l], []⟩) _ _ s
  refine wpAny_pure ⟨Code.quiet_builtin _ (by decide +kernel), codeAny_builtin F.entry_type_call ?_⟩
  rw [Around.under_plain (weight_type_call_type "set" [.ref l] []) rfl]
  repeat (any_goals (first | assumption | wp_step))
  refine codeAny_mono (code_set_led1 (.ref l) (E := E) (Q₁ := fun v s1 => v = .ref s.heap.objs.size ∧ s1 = { s with heap := s.heap.push (newSetO w) }) ⟨rfl, rfl⟩) fun r s1 hr => ?_
  obtain e | fl := r
  · exact hr
  cases fl <;> first | exact hr.elim | skip
  obtain ⟨rfl, rfl⟩ := hr
  have new : (s.heap.push (newSetO w)).get? s.heap.objs.size = some (newSetO w) := Heap.get?_push_size _ rfl
  have ty : Shared.TypeIs { s with heap := s.heap.push (newSetO w) } (.ref s.heap.objs.size) "set" := ⟨_, new, rfl⟩
  have c7 := F.called_set.init.lookup
  have c8 := F.called_set.init.bind (.ref s.heap.objs.size)
  have hlt : l ≠ s.heap.objs.size := by
    obtain ⟨o, ho, _⟩ := hl
    exact Nat.ne_of_lt (Heap.lt_size ho)
  repeat (any_goals (first | assumption | wp_step))
  refine codeAny_mono (codeAny_call_builtin (R := wants (fun r s2 => r = .none ∧ ∃ h' tk, s2 = { s with heap := h', toks := tk } ∧ SetOfTexts w h' s.heap.objs.size (firsts [] xs) ∧ ∀ b o, s.heap.get? b = some o → h'.get? b = some o) E) F.called_set.init.plain F.entry_set_init (check_set_init_1 ty ?_)) fun r2 s2 hr2 => ?_
  · refine wpAny_mono (init_texts (E := E) (Q := fun r s2 => r = .none ∧ ∃ h' tk, s2 = { s with heap := h', toks := tk } ∧ SetOfTexts w h' s.heap.objs.size (firsts [] xs) ∧ ∀ b o, s.heap.get? b = some o → h'.get? b = some o) (by simp [hh]) new (hl.push _) hlt hsz hv hb fun h' tk q k => ⟨rfl, h', tk, rfl, q, fun b o e => k b o (Nat.ne_of_lt (Heap.lt_size e)) (Heap.get?_push_of_some _ e)⟩) ?_ fun e s2 q => q
    rintro f s2 ⟨r, rfl, q⟩
    exact q
  · obtain e | fl := r2
    · exact hr2
    cases fl <;> first | exact hr2.elim | skip
    obtain ⟨rfl, h', tk, rfl, q, k⟩ := hr2
    repeat (any_goals (first | assumption | wp_step))
    exact h _ _ q k
end
end PL

set_option maxHeartbeats 4000000
namespace PL
open PySem PySem.Spec PyProof.Rows L2
theorem strs_of_ents {w : World} : ∀ {l : List Ent}, (∀ e ∈ l, IsEnt w e) → StrsAre (l.map fun e => e.2) (l.map fun e => txt e.2)
  | [], _ => .nil
  | e :: r, g => by
    obtain ⟨x, tk, h, _⟩ := g e List.mem_cons_self
    simp only [List.map_cons, h]
    exact .cons x tk (strs_of_ents fun e he => g e (List.mem_cons_of_mem _ he))
theorem strs_txt {vs : List Value} {ss : List Str} (h : StrsAre vs ss) : ss = vs.map txt := by
  induction h with
  | nil => rfl
  | cons x t _ ih => rw [ih]; rfl
theorem strs_mem {vs : List Value} (h : ∀ v ∈ vs, ∃ x t, v = Value.str x t) : StrsAre vs (vs.map txt) := by
  induction vs with
  | nil => exact .nil
  | cons v r ih =>
    obtain ⟨x, t, rfl⟩ := h v List.mem_cons_self
    exact .cons x t (ih fun v hv => h v (List.mem_cons_of_mem _ hv))
section
variable {P : Program} {w : World} {A : Around} {E : Value → Shared → Prop} {s : Shared} {a : Addr}
/-- sorted(a), a: a set of texts -/
theorem call_sorted_texts {ks : List Str} {Q : Value → Shared → Prop} (hh : A.handled = none) (H : SetOfTexts w s.heap a ks) (few : ks.length < 64)
    (hQ : ∀ s' p (out : Array Value) (c : Nat) (ys : List Str), (∀ b o, s.heap.get? b = some o → s'.heap.get? b = some o) → s'.gens = s.gens → s'.os = s.os → s.heap.objs.size ≤ p → s'.heap.get? p = some (seqObj "list" out c) → StrsAre out.toList ys → sortedS ys = true → ys.Nodup → ys.Perm ks → Q (.ref p) s') :
    wpAny (model P w) A (call (.builtin "sorted") [.ref a]) Q E s := by
  obtain ⟨es, t, ⟨⟨o, ep, ho, hx, hd⟩, ge, nd, fw, hf, hr, hl⟩, pm⟩ := H
  have sz : es.size = ks.length := by rw [← pm.length_eq, List.length_map, Array.length_toList]
  refine Calls.call_function_entry kind_sorted plain_sorted entry_sorted (args_sorted1 _) ?_
  unfold Builtin.«sorted»
  refine wpAny_bind (m := checkCount "sorted" 1 1 _) (wpAny_pure (wpAny_bind ?_))
  refine collect_set (by simp [hh]) ⟨o, ho, hx.1, hd⟩ hf fw hr hl fun s1 vs k1 z1 g1 o1 pv => ?_
  have len : vs.length = ks.length := by rw [pv.length_eq, List.length_map, Array.length_toList, sz]
  have hv : ∀ v ∈ vs, ∃ x tk, v = Value.str x tk := fun v hv => by
    obtain ⟨e, he, q⟩ := List.mem_map.mp (pv.mem_iff.mp hv)
    obtain ⟨x, tk, h, _⟩ := ge e he
    exact ⟨x, tk, q ▸ h⟩
  have hS := strs_mem hv
  have pt : (vs.map txt).Perm (texts es) := by
    have := pv.map txt
    rwa [List.map_map] at this
  refine wpAny_bind (wpAny_newList ?_ (by rw [len, sizeLine_eq]; omega))
  have hL : (s1.heap.push (seqObj "list" vs.toArray 0)).get? s1.heap.objs.size = some (seqObj "list" vs.toArray 0) := Heap.get?_push_size _ rfl
  refine wpAny_bind (wpAny_holding (wpAny_call_entry slot_list_sort ⟨_, hL, rfl⟩ entry_list_sort (list_sort_treeK strKind_oneLt hL hS.keysOf (fun v1 v2 rest e => keyKind_strs (ss := vs.map txt) (by rw [← e]; exact hS)) (by omega) fun st p1 p2 => ⟨_, rfl, ?_⟩) (args_list_sort _)))
  obtain ⟨ys, y1, y2, y3⟩ := sorted_out_str hS p1 p2
  obtain ⟨c, hc⟩ := sortedHeap_at (vs := vs) (out := (arrOf st).map (·.2)) hL
  have py := y2.trans pt
  refine wpAny_pure ⟨_, rfl, hQ _ s1.heap.objs.size _ c ys (fun b u e => ?_) g1 o1 z1 hc y1 y3 (py.nodup_iff.mpr nd) (py.trans pm)⟩
  have lt := Heap.lt_size (k1 b u e)
  show (sortedHeap (s1.heap.push (seqObj "list" vs.toArray 0)) s1.heap.objs.size vs ((arrOf st).map (·.2))).get? b = some u
  rw [sortedHeap_old (Nat.ne_of_lt lt) (by rw [size_push']; exact Nat.lt_succ_of_lt lt)]
  exact Heap.get?_push_of_some _ (k1 b u e)
end
/-- sorted(set(xs)) of a list of texts -/
def sortSetR (d : D) (M : Mem) (Q : DK) : Prop := ∃ es ss, lstAt M d = some es ∧ strsOf es = some ss ∧ ss.length < 63 ∧ ∀ ys p, SortsTo true ss ys → M p = none → Q (.ob p) (mupd M p (.lst (ys.map D.str)))
def sortSetK (Q : DK) : DK := fun d M => sortSetR d M Q
def dSortSet (te : DE) : DE := fun env M Q E => te env M (sortSetK Q) E
theorem s_sortSet {te env M Q E} : dSortSet te env M Q E = te env M (sortSetK Q) E := id rfl
theorem s_sortSetK {d M Q} : sortSetK Q d M = sortSetR d M Q := id rfl
theorem xe_sortedSet {X : Cx} {W : WX} {a : Expr} {ta : DE} {p p2 q pos : Pos} (hc : X.calm = true) (hg : Gl X "sorted") (hm : X.mg "sorted" = none) (hg2 : Gl X "set") (hm2 : X.mg "set" = none) (ha : XE X W a ta) (na : starEach [a] X.env = (false, eval a X.env) :: starEach [] X.env := by rfl) :
    XE X W (.Call (.Name "sorted" p) [.Call (.Name "set" p2) [a] [] q] [] pos) (dSortSet ta) := by
  refine ⟨fun env M Q Q' E E' hQ hE => ha.mono _ _ _ _ _ _ (fun d M1 ⟨es, ss, h1, h2, h3, h⟩ => ⟨es, ss, h1, h2, h3, fun ys p z1 z2 => hQ _ _ (h ys p z1 z2)⟩) hE, ⟨fun pins s σ H Q I h => ?_⟩⟩
  obtain ⟨env, M, re, sm, h⟩ := h
  have h1 : liftE X.K W ta σ H fun u H1 => ∃ (l : Addr) (ss : List Str), u = .ref l ∧ SqL X.K H1 l (ss.map V.str) ∧ ss.length < 63 ∧ ∀ ys p, SortsTo true ss ys → H1 p = none → Q (.ref p) (upd H1 p (.lst (ys.map V.str))) := by
    refine stepE ha.mono re sm h (fun d M1 u H1 e1 s1 re1 r1 q => ?_) fun _ _ _ z => z
    obtain ⟨es, ss, q1, q2, q3, q4⟩ := q
    obtain ⟨l, us, rfl, hs, lr⟩ := lstAt_rep s1 r1 q1
    rw [strsOf_eq q2] at lr
    rw [lr.strs] at hs
    exact ⟨l, ss, rfl, hs, q3, fun ys p z1 z2 => fin_lst (fun p hp => upK_mono e1 _ _ (q4 ys p z1 hp)) s1 z2 .of_strs⟩
  refine Call_ (ld_blt I hg hm (by rfl) ?_)
  refine PyProof.Rows.callWith_builtin1 (PyProof.Rows.args_cons ?_ rfl) rfl rfl
  refine Call_ (ld_blt I hg2 hm2 (by rfl) ?_)
  refine PyProof.Rows.callWith_type1 (PyProof.Rows.args_cons (thn (ha.pe.run pins s σ H _ I h1) fun v s1 ⟨x, H1, I1, r1, q1⟩ => PyProof.Rows.args_nil ?_) na) na rfl
  obtain ⟨l, ss, rfl, hs, few, q⟩ := q1
  cases r1
  obtain ⟨its, rv, pl, hz⟩ := I1.list hs
  have sa : StrsAre its ss := strsAre_of rv
  have isz : its.toArray.size = ss.length := by rw [List.size_toArray, ← rv.length, List.length_map]
  refine call_set_texts (I1.ok.hd hc) pl.isList isz (fun j v e => ?_) (by have : scanBound = 4096 := rfl; omega) fun h' tk S k => PyProof.Rows.args_nil ?_
  · obtain ⟨t, z⟩ := SS.strs_at sa j v (by simpa using e)
    exact ⟨t, z⟩
  have I2 : Inv X pins σ H1 { s1 with heap := h', toks := tk } := I1.kept k
  have fl := firsts_len ss []
  refine call_sorted_texts (s := { s1 with heap := h', toks := tk }) (I2.ok.hd hc) S (by simp only [List.length_nil] at fl; omega) fun s' p out c ys k2 g o hp e1 e2 e3 e4 e5 => ?_
  have hn : H1 p = none := I2.hok.fresh hp
  have ylen : (ys.map V.str).length ≤ sizeLine := by
    rw [List.length_map, e5.length_eq, sizeLine_eq]
    simp only [List.length_nil] at fl
    omega
  have J : Inv X pins σ (upd H1 p (.lst (ys.map V.str))) s' :=
    I2.call' (ch := []) o (Un.laid k2 hp hn) (I2.hok.laid k2 hp ⟨ylen, out.toList, c, vals_of_strs e2, e1⟩) (by rw [g]; exact I2.bare) fun _ z => nomatch z
  refine ⟨.ref p, _, J, rfl, q ys p ⟨e3, ?_⟩ hn⟩
  rw [if_pos rfl]
  refine ⟨e4, fun x => ?_⟩
  rw [e5.mem_iff, firsts_mem]
  simp
end PL

namespace PL
open PySem PySem.Spec PyProof.Rows L2

/-! what all laws have: the drawn numbers -/
def StAt (M : Mem) (a b : Addr) : Prop := ∃ p q c ns, M a = some (.lst [.ob b, .int p, .int q, .int c]) ∧ M b = some (.lst (List.map D.int ns)) ∧ 0 ≤ p ∧ 0 ≤ q ∧ b ≠ a
theorem StAt.keep {M M' : Mem} {a b : Addr} {S : List Addr} (h : StAt M a b) (k : Keep S M M') (ha : a ∉ S := by simp) (hb : b ∉ S := by simp) : StAt M' a b := by
  obtain ⟨p, q, c, ns, h1, h2, h3⟩ := h
  exact ⟨p, q, c, ns, k _ _ h1 ha, k _ _ h2 hb, h3⟩
theorem StAt.put {M : Mem} {a b l : Addr} {o : Ob} (h : StAt M a b) (ha : l ≠ a) (hb : l ≠ b) : StAt (mupd M l o) a b := h.keep (S := [l]) (Keep.put (by simp)) (by simpa using ha.symm) (by simpa using hb.symm)
theorem StAt.new {M : Mem} {a b l : Addr} {o : Ob} (h : StAt M a b) (hl : M l = none) : StAt (mupd M l o) a b := h.keep (S := []) (Keep.new hl)
theorem StAt.some {M : Mem} {a b : Addr} (h : StAt M a b) : (∃ o, M a = some o) ∧ ∃ o, M b = some o := by
  obtain ⟨p, q, c, ns, h1, h2, _⟩ := h
  exact ⟨⟨_, h1⟩, ⟨_, h2⟩⟩
theorem StAt.ne {M : Mem} {a b l : Addr} (h : StAt M a b) (hl : M l = none) : l ≠ a ∧ l ≠ b := by
  obtain ⟨⟨o, h1⟩, ⟨o2, h2⟩⟩ := h.some
  exact ⟨ne_new' h1 hl, ne_new' h2 hl⟩
theorem StAt.fresh {M M' : Mem} {a b l : Addr} (h : StAt M' a b) (k : Keep [a] M M') (hl : M' l = none) : M l = none := by
  cases e : M l with
  | none => rfl
  | some o =>
    have := k l o e (by simpa using (h.ne hl).1)
    rw [hl] at this
    cases this
def sp_start (K : PySem.W.Frag) : DSp := fun ds M Q E => ∃ a ns, ds = [.ob a] ∧ Scr K M a ns ∧ ∀ r b M', M r = none → M b = none → StAt M' r b → Keep [] M M' → Q (.ob r) M'
def sp_draw : DSp := fun ds M Q E => ∃ a b m, ds = [.ob a, .int m] ∧ StAt M a b ∧ 0 < m ∧ m < 1073741824 ∧ ∀ r M', 0 ≤ r → r < m → StAt M' a b → Keep [a] M M' → Q (.int r) M'
def seqI (M : Mem) : D → Option (List D)
  | .tup ds => some ds
  | .v (.str x) => some (signs x)
  | .v (.ref l) => match M l with
    | some (.lst ds) => some ds
    | _ => none
  | _ => none
def ofA (a : Addr) : D → Bool
  | .v (.ref l) => decide (l = a)
  | _ => false
theorem seqI_keep {M M' : Mem} {a : Addr} {d : D} {ds : List D} (h : seqI M d = some ds) (k : Keep [a] M M') (n : ofA a d = false) : seqI M' d = some ds := by
  unfold seqI at h ⊢
  split at h
  · exact h
  · exact h
  · rename_i l
    split at h
    · rename_i hm
      have hl : l ≠ a := by simpa [ofA] using n
      rw [k _ _ hm (by simpa using hl)]
      exact h
    · cases h
  · cases h
theorem signs_len (x : Str) : (signs x).length = x.length := by simp [signs, Str.length]
theorem len_seqI {M : Mem} {d : D} {ds : List D} {Q : DK} (h : seqI M d = some ds) (hl : ds.length ≤ sizeLine) (q : Q (.int ds.length) M) : (bLen [d] M).run M Q := by
  unfold seqI at h
  split at h
  · cases h; exact ⟨trivial, q⟩
  · cases h; rw [signs_len] at hl q; exact ⟨hl, q⟩
  · split at h
    · rename_i hm; cases h; simp only [bLen, hm]; exact ⟨trivial, q⟩
    · cases h
  · cases h
theorem atI_map' {α β : Type} (f : α → β) (xs : List α) (i : Int) : atI (xs.map f) i = (atI xs i).map f := by
  unfold atI
  rw [List.length_map]
  cases ixN xs.length i with
  | none => rfl
  | some j => simp
theorem ix_seqI {M : Mem} {d x : D} {ds : List D} {i : Int} {Q : DK} (h : seqI M d = some ds) (hl : ds.length ≤ sizeLine) (hx : atI ds i = some x) (q : Q x M) : (opIx d (.int i) M).run M Q := by
  unfold seqI at h
  split at h
  · cases h; simp only [opIx, hx]; exact ⟨trivial, q⟩
  · cases h
    rename_i z
    rw [signs_len] at hl
    unfold signs at hx
    rw [atI_map'] at hx
    cases e : atI z.cps.toList i with
    | none => rw [e] at hx; cases hx
    | some c =>
      rw [e] at hx
      cases hx
      simp only [opIx, e]
      exact ⟨hl, q⟩
  · split at h
    · rename_i hm; cases h; simp only [opIx, hm, hx]; exact ⟨trivial, q⟩
    · cases h
  · cases h
theorem atI_some {α : Type} {xs : List α} {i : Int} (h0 : 0 ≤ i) (h1 : i < xs.length) : ∃ x, atI xs i = some x ∧ x ∈ xs := by
  have h2 : i.toNat < xs.length := by omega
  refine ⟨xs[i.toNat], ?_, List.getElem_mem h2⟩
  unfold atI ixN
  rw [if_pos h0, if_pos h1]
  simp [h2]
theorem filter_tt {α : Type} (xs : List α) : xs.filter (fun _ => true) = xs := List.filter_eq_self.mpr fun _ _ => rfl
theorem atI_cons {α : Type} {x : α} {r : List α} {i : Int} : atI (x :: r) i = (ixN (r.length + 1) i).bind fun j => (x :: r)[j]? := rfl
theorem atI_zero {α : Type} {x : α} {r : List α} : atI (x :: r) 0 = some x := by
  unfold atI ixN
  simp
theorem atI_get {α : Type} {xs : List α} {i : Int} (h0 : 0 ≤ i) (h1 : i < xs.length) : atI xs i = some (xs[i.toNat]'(by omega)) := by
  unfold atI ixN
  rw [if_pos h0, if_pos h1]
  exact List.getElem?_eq_getElem _
theorem atI_natI {α : Type} {xs : List α} {i : Nat} (h1 : i < xs.length) : atI xs (i : Int) = some xs[i] := by
  rw [atI_get (by omega) (by omega)]
  simp
theorem atI_nat' {α : Type} {xs : List α} {i : Nat} (h1 : i < xs.length) : atI xs (0 + (i : Int)) = some xs[i] := by
  rw [Int.zero_add, atI_get (by omega) (by omega)]
  simp
def sp_one_of : DSp := fun ds M Q E => ∃ a b d es, ds = [.ob a, d] ∧ StAt M a b ∧ seqI M d = some es ∧ ofA a d = false ∧ es ≠ [] ∧ es.length < 16777216 ∧ ∀ x M', x ∈ es → StAt M' a b → Keep [a] M M' → Q x M'
/-! data of a law: ints, texts, tuples of such -/
mutual
def D.dat : D → Bool
  | .v (.int _) | .v (.str _) => true
  | .v _ => false
  | .tup ds => decide (ds.length < 1000000) && datL ds
def datL : List D → Bool
  | [] => true
  | d :: ds => d.dat && datL ds
end
theorem datL_mem : ∀ {ds : List D}, datL ds = true → ∀ d ∈ ds, d.dat = true
  | d :: ds, h, e, he => by
    simp only [datL, Bool.and_eq_true] at h
    rcases List.mem_cons.mp he with z | z
    · rw [z]; exact h.1
    · exact datL_mem h.2 e z
theorem dpL_mem : ∀ {ds : List D} {n : Nat}, dpL ds ≤ n → ∀ d ∈ ds, d.dp ≤ n
  | d :: ds, n, h, e, he => by
    simp only [dpL] at h
    rcases List.mem_cons.mp he with z | z
    · rw [z]; omega
    · exact dpL_mem (by omega) e z
def sp_is_int : DSp := fun ds M Q E => ∃ i, ds = [.int i] ∧ Q (.bl true) M
def sp_same (n : Nat) : DSp := fun ds M Q E => ∃ d, ds = [d, d] ∧ d.dat = true ∧ d.dp < n ∧ ∀ M', Keep [] M M' → Q (.bl true) M'
/-! isinstance of plain data -/
def isR (a : Option String) (n : String) : Res := match a with
  | some a => .val True (.bl (isi a n))
  | none => .bad
theorem q_is_tuple {d : D} {M : Mem} {Q : DK} : (bIsi [d, .v (.ty "tuple")] M).run M Q = (isR (tyN M d) "tuple").run M Q := by
  simp only [bIsi, isR]
  cases tyN M d with
  | none => rfl
  | some a => simp [Res.run]
theorem q_is_str {d : D} {M : Mem} {Q : DK} : (bIsi [d, .v (.ty "str")] M).run M Q = (isR (tyN M d) "str").run M Q := by
  simp only [bIsi, isR]
  cases tyN M d with
  | none => rfl
  | some a => simp [Res.run]
theorem q_is_int {d : D} {M : Mem} {Q : DK} : (bIsi [d, .v (.ty "int")] M).run M Q = (isR (tyN M d) "int").run M Q := by
  simp only [bIsi, isR]
  cases tyN M d with
  | none => rfl
  | some a => simp [Res.run]
theorem q_is_bool {d : D} {M : Mem} {Q : DK} : (bIsi [d, .v (.ty "bool")] M).run M Q = (isR (tyN M d) "bool").run M Q := by
  simp only [bIsi, isR]
  cases tyN M d with
  | none => rfl
  | some a => simp [Res.run]
theorem q_is_list {d : D} {M : Mem} {Q : DK} : (bIsi [d, .v (.ty "list")] M).run M Q = (isR (tyN M d) "list").run M Q := by
  simp only [bIsi, isR]
  cases tyN M d with
  | none => rfl
  | some a => simp [Res.run]
theorem q_isR {a n : String} {M : Mem} {Q : DK} : (isR (some a) n).run M Q = Q (.bl (isi a n)) M := by simp [isR, Res.run]
theorem i_NoneType_tuple : isi "NoneType" "tuple" = false := by decide
theorem i_NoneType_str : isi "NoneType" "str" = false := by decide
theorem i_NoneType_int : isi "NoneType" "int" = false := by decide
theorem i_NoneType_bool : isi "NoneType" "bool" = false := by decide
theorem i_NoneType_list : isi "NoneType" "list" = false := by decide
theorem i_bool_tuple : isi "bool" "tuple" = false := by decide
theorem i_bool_str : isi "bool" "str" = false := by decide
theorem i_bool_int : isi "bool" "int" = true := by decide
theorem i_bool_bool : isi "bool" "bool" = true := by decide
theorem i_bool_list : isi "bool" "list" = false := by decide
theorem i_int_tuple : isi "int" "tuple" = false := by decide
theorem i_int_str : isi "int" "str" = false := by decide
theorem i_int_int : isi "int" "int" = true := by decide
theorem i_int_bool : isi "int" "bool" = false := by decide
theorem i_int_list : isi "int" "list" = false := by decide
theorem i_str_tuple : isi "str" "tuple" = false := by decide
theorem i_str_str : isi "str" "str" = true := by decide
theorem i_str_int : isi "str" "int" = false := by decide
theorem i_str_bool : isi "str" "bool" = false := by decide
theorem i_str_list : isi "str" "list" = false := by decide
theorem i_tuple_tuple : isi "tuple" "tuple" = true := by decide
theorem i_tuple_str : isi "tuple" "str" = false := by decide
theorem i_tuple_int : isi "tuple" "int" = false := by decide
theorem i_tuple_bool : isi "tuple" "bool" = false := by decide
theorem i_tuple_list : isi "tuple" "list" = false := by decide
theorem i_list_tuple : isi "list" "tuple" = false := by decide
theorem i_list_str : isi "list" "str" = false := by decide
theorem i_list_int : isi "list" "int" = false := by decide
theorem i_list_bool : isi "list" "bool" = false := by decide
theorem i_list_list : isi "list" "list" = true := by decide
theorem i_dict_tuple : isi "dict" "tuple" = false := by decide
theorem i_dict_str : isi "dict" "str" = false := by decide
theorem i_dict_int : isi "dict" "int" = false := by decide
theorem i_dict_bool : isi "dict" "bool" = false := by decide
theorem i_dict_list : isi "dict" "list" = false := by decide
/-! == of plain data -/
theorem q_eqI {i j : Int} {M : Mem} {Q : DK} : (opEq (.int i) (.int j) M).run M Q = Q (.bl (decide (i = j))) M := by
  simp [opEq, pyM, D.pure, D.py, Res.run, PyData.depth, PyData.eqv, mostDeep, Bool.beq_eq_decide_eq]
theorem q_neI {i j : Int} {M : Mem} {Q : DK} : (opNe (.int i) (.int j) M).run M Q = Q (.bl (!decide (i = j))) M := by
  simp [opNe, pyM, D.pure, D.py, Res.run, PyData.depth, PyData.eqv, mostDeep, Bool.beq_eq_decide_eq]
theorem q_eqS {x y : Str} {M : Mem} {Q : DK} : (opEq (.str x) (.str y) M).run M Q = Q (.bl (decide (x = y))) M := by
  simp [opEq, pyM, D.pure, D.py, Res.run, PyData.depth, PyData.eqv, mostDeep, Bool.beq_eq_decide_eq]
theorem q_neS {x y : Str} {M : Mem} {Q : DK} : (opNe (.str x) (.str y) M).run M Q = Q (.bl (!decide (x = y))) M := by
  simp [opNe, pyM, D.pure, D.py, Res.run, PyData.depth, PyData.eqv, mostDeep, Bool.beq_eq_decide_eq]
mutual
theorem dat_pure : ∀ {d : D}, d.dat = true → d.pure = true
  | .v x, h => by cases x <;> first | rfl | (simp [D.dat] at h)
  | .tup ds, h => by
    simp only [D.dat, Bool.and_eq_true] at h
    simp only [D.pure]
    exact datL_pure h.2
theorem datL_pure : ∀ {ds : List D}, datL ds = true → pureL ds = true
  | [], _ => rfl
  | d :: ds, h => by
    simp only [datL, Bool.and_eq_true] at h
    simp only [pureL, Bool.and_eq_true]
    exact ⟨dat_pure h.1, datL_pure h.2⟩
end
mutual
theorem eqv_dat : ∀ {d e : D}, d.dat = true → e.dat = true → (D.eqv d e = true ↔ d = e)
  | .v x, .v y, h, g => by
    cases x <;> first | (simp [D.dat] at h; done) | skip
    all_goals cases y <;> first | (simp [D.dat] at g; done) | simp [D.eqv, D.py, PyData.eqv]
  | .v x, .tup es, h, g => by
    cases x <;> first | (simp [D.dat] at h; done) | simp [D.eqv, D.py, PyData.eqv]
  | .tup es, .v x, h, g => by
    cases x <;> first | (simp [D.dat] at g; done) | simp [D.eqv, D.py, PyData.eqv]
  | .tup ds, .tup es, h, g => by
    simp only [D.dat, Bool.and_eq_true] at h g
    have := eqvL_dat h.2 g.2
    simp only [D.eqv, D.py, PyData.eqv, D.tup.injEq]
    exact this
theorem eqvL_dat : ∀ {ds es : List D}, datL ds = true → datL es = true → (PyData.eqvAll (pyL ds) (pyL es) = true ↔ ds = es)
  | [], [], _, _ => by simp [pyL, PyData.eqvAll]
  | [], e :: es, _, _ => by simp [pyL, PyData.eqvAll]
  | d :: ds, [], _, _ => by simp [pyL, PyData.eqvAll]
  | d :: ds, e :: es, h, g => by
    simp only [datL, Bool.and_eq_true] at h g
    have h1 := eqv_dat h.1 g.1
    have h2 := eqvL_dat h.2 g.2
    simp only [pyL, PyData.eqvAll, Bool.and_eq_true, List.cons.injEq]
    unfold D.eqv at h1
    rw [h1, h2]
end
theorem ofS_inj {a b : String} : (Str.ofString a = Str.ofString b) = (a = b) := by
  apply propext
  constructor
  · intro h
    have h2 := congrArg TL.tl h
    rw [TL.tl_ofString, TL.tl_ofString] at h2
    have inj : ∀ xs ys : List Char, xs.map Char.toNat = ys.map Char.toNat → xs = ys := by
      intro xs
      induction xs with
      | nil => intro ys h; cases ys with
        | nil => rfl
        | cons y r => simp at h
      | cons x r ih => intro ys h; cases ys with
        | nil => simp at h
        | cons y t =>
          simp only [List.map_cons, List.cons.injEq] at h
          rw [Char.toNat_inj.mp h.1, ih t h.2]
    have h3 : a.toList = b.toList := inj _ _ h2
    exact String.toList_inj.mp h3
  · rintro rfl; rfl
/-! in of plain data -/
theorem any_str {x : Str} {fs : List Str} : ((fs.map D.str).any fun d => D.eqv d (.str x)) = decide (x ∈ fs) := by
  rw [List.any_map]
  induction fs with
  | nil => simp
  | cons y r ih =>
    rw [List.any_cons, ih]
    simp only [Function.comp, D.eqv, D.py, PyData.eqv, List.mem_cons, Bool.decide_or, Bool.beq_eq_decide_eq]
    congr 1
    exact decide_eq_decide.mpr eq_comm
theorem pureL_strs : ∀ {fs : List Str}, pureL (fs.map D.str) = true
  | [] => rfl
  | x :: r => by simp only [List.map_cons, pureL, D.pure, Bool.true_and]; exact pureL_strs
theorem dpL_strs : ∀ {fs : List Str}, dpL (fs.map D.str) = 0
  | [] => rfl
  | x :: r => by simp only [List.map_cons, dpL, D.dp, Nat.zero_max]; exact dpL_strs
theorem isIn_strs {x : Str} {fs : List Str} {a : Addr} {M : Mem} (h : M a = some (.lst (fs.map D.str)) ∨ M a = some (.rol (fs.map D.str))) : isIn (.str x) (.ob a) M = some (0, decide (x ∈ fs)) := by
  rcases h with h | h <;> simp [isIn, h, pureL_strs, dpL_strs, D.pure, D.dp] <;> (have := any_str (x := x) (fs := fs); simp only [List.any_map, Function.comp] at this; exact this)
theorem in_strs {x : Str} {fs : List Str} {a : Addr} {M : Mem} {Q : DK} (h : M a = some (.lst (fs.map D.str))) : (opIn (.str x) (.ob a) M).run M Q = Q (.bl (decide (x ∈ fs))) M := by
  simp [opIn, isIn_strs (.inl h), Res.run, mostDeep]
theorem notIn_strs {x : Str} {fs : List Str} {a : Addr} {M : Mem} {Q : DK} (h : M a = some (.lst (fs.map D.str))) : (opNotIn (.str x) (.ob a) M).run M Q = Q (.bl (!decide (x ∈ fs))) M := by
  simp [opNotIn, isIn_strs (.inl h), Res.run, mostDeep]
theorem in_tup {d : D} {ds : List D} {M : Mem} {Q : DK} (h1 : datL ds = true) (h2 : d.dat = true) (hm : d ∈ ds) (hd : dpL ds ≤ 150) (q : Q (.bl true) M) : (opIn d (.tup ds) M).run M Q := by
  have e : (ds.any fun e => D.eqv e d) = true := List.any_eq_true.mpr ⟨d, hm, (eqv_dat h2 h2).mpr rfl⟩
  simp only [opIn, isIn, datL_pure h1, dat_pure h2, Bool.and_self, if_true, e]
  exact ⟨Nat.le_trans (Nat.min_le_left _ _) hd, q⟩
/-! all, any of made bools -/
theorem run_all {α : Type} {xs : List α} {g : α → Bool} {a : Addr} {M : Mem} {Q : DK} (h : M a = some (.lst (xs.map fun x => D.bl (g x)))) (q : Q (.bl (xs.all g)) M) : (bAll [.ob a] M).run M Q := by
  simp only [bAll, h]
  rw [show (xs.map fun x => D.bl (g x)) = (xs.map g).map D.bl by rw [List.map_map]; rfl, bools_map]
  refine ⟨trivial, ?_⟩
  have e : (xs.map g).all id = xs.all g := by rw [List.all_map]; rfl
  rw [e]
  exact q
theorem run_any {α : Type} {xs : List α} {g : α → Bool} {a : Addr} {M : Mem} {Q : DK} (h : M a = some (.lst (xs.map fun x => D.bl (g x)))) (q : Q (.bl (xs.any g)) M) : (bAny [.ob a] M).run M Q := by
  simp only [bAny, h]
  rw [show (xs.map fun x => D.bl (g x)) = (xs.map g).map D.bl by rw [List.map_map]; rfl, bools_map]
  refine ⟨trivial, ?_⟩
  have e : (xs.map g).any id = xs.any g := by rw [List.any_map]; rfl
  rw [e]
  exact q
/-- a def of the module -/
structure Src (K : PySem.W.Frag) (mg : Str → Option Value) (x : Str) (st : Stmt) (ps : List Str) : Prop where
  ex : ∃ f fd, Fun K x x st f fd ∧ mg x = some (.ref f) ∧ PySem.W.keepIn K (.ref f) = true ∧ Binds K fd ps []
theorem Src.fn {P : Program} {w : World} {K : PySem.W.Frag} {mg : Str → Option Value} {base : Heap} {x : Str} {st : Stmt} {ps : List Str} {k : Nat} {sp : DSp} (S : Src K mg x st ps) (m : MonoSp sp)
    (h : ∀ f fd, Fun K x x st f fd → FnOk P w K mg base (L2.CX P w) k f fd ps (liftSp K sp)) : Fn P w K mg base k x sp [] := by
  obtain ⟨f, fd, F, h1, h2, h3⟩ := S.ex
  exact mkFn m (h f fd F) h1 h2 h3
theorem fn_none {P : Program} {w : World} {K : PySem.W.Frag} {mg : Str → Option Value} {base : Heap} {f : Addr} {fd : FuncData} {ps : List Str} {k : Nat} {sp : DSp} (h : ∀ ds M Q E, ¬ sp ds M Q E) : FnOk P w K mg base (L2.CX P w) k f fd ps (liftSp K sp) :=
  ⟨fun vs H Q E ⟨ds, M, _, _, z⟩ => (h _ _ _ _ z).elim, fun A outer s H args us vs Q E _ _ _ _ ⟨ds, M, _, _, z⟩ => (h _ _ _ _ z).elim⟩
theorem mono_start {K : PySem.W.Frag} : MonoSp (sp_start K) := by
  rintro ds M Q Q' E E' hQ hE ⟨a, ns, h1, h2, h⟩
  exact ⟨a, ns, h1, h2, fun r b M' z1 z2 z3 z4 => hQ _ _ (h r b M' z1 z2 z3 z4)⟩
theorem mono_draw : MonoSp sp_draw := by
  rintro ds M Q Q' E E' hQ hE ⟨a, b, m, h1, h2, h3, h4, h⟩
  exact ⟨a, b, m, h1, h2, h3, h4, fun r M' z1 z2 z3 z4 => hQ _ _ (h r M' z1 z2 z3 z4)⟩
theorem mono_one_of : MonoSp sp_one_of := by
  rintro ds M Q Q' E E' hQ hE ⟨a, b, d, es, h1, h2, h3, h4, h5, h6, h⟩
  exact ⟨a, b, d, es, h1, h2, h3, h4, h5, h6, fun x M' z1 z2 z3 => hQ _ _ (h x M' z1 z2 z3)⟩
theorem mono_is_int : MonoSp sp_is_int := by
  rintro ds M Q Q' E E' hQ hE ⟨i, h1, h⟩
  exact ⟨i, h1, hQ _ _ h⟩
theorem mono_same {n : Nat} : MonoSp (sp_same n) := by
  rintro ds M Q Q' E E' hQ hE ⟨d, h1, h2, h3, h⟩
  exact ⟨d, h1, h2, h3, fun M' z => hQ _ _ (h M' z)⟩
end PL

namespace PL
open PySem PySem.Spec PyProof.Rows L2

/-! own errors without fields -/
structure ECls (K : PySem.W.Frag) (mg : Str → Option Value) (x : Str) (C : Addr) : Prop where
  g : mg x = some (.ref C)
  n : PySem.W.excIn K C [.type "ValueError", .type "Exception", .type "BaseException", .type "object"] "ValueError.__new__" = true
  k : PySem.W.keepIn K (.ref C) = true
  b : PySem.W.subIn K (.ref C) (.type "BaseException") = some true
  t : PySem.W.typeIn K (.ref C) = some (.type "type")
  e : PySem.W.exmOne K (.ref C) (.ref C) = some true
  c : ExcC K C
theorem xs_raiseC {X : Cx} {W : WX} {pos p p2 pos2 : Pos} {x m : Str} {j : Nat} {C : Addr} (E : ECls X.K X.mg x C) (hc : X.calm = true) (tk : Takes X W) (hg : Gl X x) (hdb : (x == ("__debug__" : Str)) = false := by decide) :
    XS X W (.Raise (some (.Call (.Name x p) [.Constant (.str m) j p2] [] pos2)) none pos) (dRaise (.ref C) []) :=
  xs_raise0 hc tk (pmk_own PySem.F.excBase_ValueError E.n E.g E.k (raises_own E.b E.t) hg hdb)
/-- a suite that only errors of the class C reach -/
theorem suite_by {X : Cx} {C : Value} {st : List Stmt} {ts : Addr → DS} (h : ∀ (a : Addr) (oe : Obj) (pn : List (Addr × Obj)), Zc C none oe → (∃ vs, oe.data = .fields vs) → XSs (X.suite a ((a, oe) :: pn)) W0 st (ts a)) :
    ∀ (a : Addr) (oe : Obj) (cls : Value) (pn : List (Addr × Obj)), Zc cls none oe → (∃ vs, oe.data = .fields vs) → XSs (X.suite a ((a, oe) :: pn)) W0 st (fun D env M => cls = C ∧ ts a D env M) := by
  intro a oe cls pn hz hf
  by_cases e : cls = C
  · subst e
    have q := h a oe pn hz hf
    refine ⟨fun D D' env M l z => ⟨z.1, q.mono _ _ _ _ l z.2⟩, ⟨fun pins s σ H D I z => ?_⟩⟩
    obtain ⟨env, M, re, sm, _, z⟩ := z
    exact q.ps.run pins s σ H D I ⟨env, M, re, sm, z⟩
  · refine ⟨fun D D' env M l z => (e z.1).elim, ⟨fun pins s σ H D I z => ?_⟩⟩
    obtain ⟨env, M, re, sm, z, _⟩ := z
    exact (e z).elim
theorem suite_mono {C : Value} {ts : Addr → DS} (h : ∀ a, MonoS (ts a)) : ∀ (a : Addr) (cls : Value), MonoS (fun D env M => cls = C ∧ ts a D env M) := fun a cls D D' env M l z => ⟨z.1, h a _ _ _ _ l z.2⟩
theorem xs_tryC {X : Cx} {K : PySem.W.Frag} {mg : Str → Option Value} {W : WX} {x n : Str} {C : Addr} (i : Nat) {body suite : List Stmt} {b₀ : Stmt} {np pos' pos : Pos} {tb : DS} {ts : Addr → DS} (E : ECls K mg x C) (hK : X.K = K) (hmg : X.mg = mg) (hg : Gl X x) (hs : X.stack = X.env :: X.outer) (hf : X.env.frame = some X.env.locals) (hN : X.N.Nodup) (hln : X.env.kindOf n = some .local) (tk : Takes X W)
    (hb : ∀ (W : WX) (pn : List (Addr × Obj)) (xe : Value → Shared → Prop), Takes (X.tr pn xe) W → PassesOwn (model X.prog X.w) X.A X.env xe → XSs (X.tr pn xe) W body tb)
    (h : ∀ (a : Addr) (oe : Obj) (pn : List (Addr × Obj)), Zc (.ref C) none oe → (∃ vs, oe.data = .fields vs) → XSs (X.suite a ((a, oe) :: pn)) W0 (b₀ :: suite) (ts a)) (hdb : (x == ("__debug__" : Str)) = false := by decide) (hi : X.N[i]? = some n := by rfl) :
    XS X W (.Try body [.ExceptHandler (some (.Name x np)) (some n) (b₀ :: suite) pos'] [] [] pos) (dTryAs (fun z => PySem.W.exmOne K z (.ref C)) i tb (fun a cls D env M => cls = .ref C ∧ ts a D env M)) := by
  subst hK hmg
  have mb : MonoS tb := (hb W0 [] (fun _ _ => False) takes0 PassesOwn.never).mono
  have mt : ∀ a, MonoS (ts a) := fun a => (h a { cls := .ref C, dict := none, data := .fields #[] } [] ⟨rfl, rfl⟩ ⟨_, rfl⟩).mono
  exact xs_tryAs i hs hf hN hln ⟨hg, hdb, .inl E.g⟩ tk (suite_mono mt) hb (suite_by h) mb hi
/-- isinstance of the error that the suite holds -/
def bIsE (K : PySem.W.Frag) (D a : Addr) : DCallG := fun ds M Q => ∃ (c : V) (cv : Value) (b : Bool), ds = [.ob a, .v c] ∧ (∀ u, RelV c u → u = cv) ∧ PySem.W.kitOne K (.ref D) cv = some b ∧ Q (.bl b) M
theorem bIsE_mono {K : PySem.W.Frag} {D a : Addr} : MonoC (bIsE K D a) := by
  rintro ds M Q Q' hQ ⟨c, cv, b, h1, h2, h3, h⟩
  exact ⟨c, cv, b, h1, h2, h3, hQ _ _ h⟩
theorem c_isE {X : Cx} {K : PySem.W.Frag} {a D : Addr} {oe : Obj} {pn : List (Addr × Obj)} (C : ExcC K D) (hK : X.K = K) (hz : Zc (.ref D) none oe) (hf : ∃ vs, oe.data = .fields vs) : CallR (X.suite a ((a, oe) :: pn)) (.builtin "isinstance") (upCallG X.K (bIsE K D a)) := by
  subst hK
  rintro pins s σ H xs us Q I r ⟨ds, M, rl, sm, c, cv, b, rfl, h1, h2, h⟩
  obtain ⟨u, v, rfl, q1, q2⟩ := rl2 rl
  rw [rep_v q1, rep_v q2] at r
  exact call_isE C hz hf pins s σ H _ us Q I r ⟨c, cv, b, rfl, h1, h2, fin_val h sm⟩

/-! more of texts -/
def seqS (M : Mem) (d : D) : Option (List Str) := match d with
  | .tup ds => strsOf ds
  | d => (lstAt M d).bind strsOf
def mJoin : DMeth
  | .v (.str a), [d], M => match seqS M d with
    | some ys => .val ((ys.map (·.length)).sum + ys.length * a.length ≤ 16777216) (.str (Txt.join a ys))
    | none => .bad
  | _, _, _ => .bad
def mZfill : DMeth
  | .v (.str a), [.v (.int i)], _ => .val (PadOk i = true) (.str (Txt.zfill a i))
  | _, _, _ => .bad
def mFind3 : DMeth
  | .v (.str a), [.v (.str b), .v (.int i)], _ => .val True (.int (Txt.find3 a b i))
  | _, _, _ => .bad
section
variable {X : Cx}
theorem m_join : MtR X "str.join" (upMeth X.K mJoin) := by
  rintro pins s σ H x xs v us Q I rx rxs ⟨d, ds, M, r1, rl, sm, h⟩
  unfold mJoin at h
  split at h <;> first | exact h.elim | skip
  rename_i a d'
  split at h <;> first | exact h.elim | skip
  rename_i ys hy
  obtain ⟨u, rfl, q⟩ := rl1 rl
  rw [rep_v r1] at rx
  cases d' with
  | tup es =>
    obtain ⟨p, ws, rfl, q1, l1⟩ := rep_tup q
    rw [strsOf_eq (show strsOf es = some ys from hy)] at l1
    rw [l1.strs] at q1
    exact mt_join pins s σ H _ _ v us Q I rx rxs ⟨_, p, ys, rfl, rfl, .inr q1, h.1, fin_val h.2 sm⟩
  | v x =>
    obtain ⟨es, h1, h2⟩ := Option.bind_eq_some_iff.mp (show (lstAt M (.v x)).bind strsOf = some ys from hy)
    obtain ⟨p, ws, rfl, q1, l1⟩ := lstAt_rep sm q h1
    rw [strsOf_eq h2] at l1
    rw [l1.strs] at q1
    exact mt_join pins s σ H _ _ v us Q I rx rxs ⟨_, p, ys, rfl, rfl, .inl q1, h.1, fin_val h.2 sm⟩
theorem m_zfill : MtR X "str.zfill" (upMeth X.K mZfill) := by
  rintro pins s σ H x xs v us Q I rx rxs ⟨d, ds, M, r1, rl, sm, h⟩
  unfold mZfill at h
  split at h <;> first | exact h.elim | skip
  obtain ⟨u, rfl, q⟩ := rl1 rl
  rw [rep_v r1] at rx
  rw [rep_v q] at rxs
  exact mt_zfill pins s σ H _ _ v us Q I rx rxs ⟨_, _, rfl, rfl, h.1, fin_val h.2 sm⟩
theorem m_find3 : MtR X "str.find" (upMeth X.K mFind3) := by
  rintro pins s σ H x xs v us Q I rx rxs ⟨d, ds, M, r1, rl, sm, h⟩
  unfold mFind3 at h
  split at h <;> first | exact h.elim | skip
  obtain ⟨u, w, rfl, q, q2⟩ := rl2 rl
  rw [rep_v r1] at rx
  rw [rep_v q, rep_v q2] at rxs
  exact mt_find3 pins s σ H _ _ v us Q I rx rxs ⟨_, _, _, rfl, rfl, fin_val h.2 sm⟩
end
/-! range(i, j, c) -/
def rgc (lo c : Int) (n : Nat) : List D := (List.range n).map fun i => D.int (lo + (i : Nat) * c)
theorem rep_rangeC {K : PySem.W.Frag} {H0 : Hp} {lo c : Int} {n : Nat} : ItRep K H0 (Itc lo c n) ⟨rgc lo c n, fun _ => True⟩ where
  go := fun i H M e s k hi => by
    have hi : i < n := by simpa [rgc] using hi
    exact hi
  yld := fun i H M x H' e s k hi y => by
    obtain ⟨rfl, rfl⟩ := y
    have hi : i < n := by simpa [rgc] using hi
    exact ⟨.int (lo + (i : Nat) * c), by simp [rgc, hi], rep_of, Ext.refl, s⟩
  stop := fun H M e s k => by simp [rgc, Itc]
def rng3K (R : DIt → Mem → Prop) : List D → Mem → Prop := fun ds M => ∃ i j c n, ds = [.int i, .int j, .int c] ∧ RgC i j c n ∧ R ⟨rgc i c n, fun _ => True⟩ M
def dRange3 (ta : DA) : DI := fun env M R E => ta env M (rng3K R) E
theorem s_rng3 {ta : DA} {env M R E} : dRange3 ta env M R E = ta env M (rng3K R) E := id rfl
theorem s_rng3K {R ds M} : rng3K R ds M = ∃ i j c n, ds = [.int i, .int j, .int c] ∧ RgC i j c n ∧ R ⟨rgc i c n, fun _ => True⟩ M := id rfl
section
variable {X : Cx} {W : WX} {tg a b c : Expr} {ta : DA} {pos p : Pos}
theorem xi_range3 (hg : Gl X "range") (hm : X.mg "range" = none) (ha : XA X W [a, b, c] ta) (hs : starEach [a, b, c] X.env = (false, eval a X.env) :: starEach [b, c] X.env := by rfl) (hs2 : (backTo pos (starEach [b, c] X.env)).any (·.1) = false := by rfl) :
    XI X W tg (.Call (.Name "range" p) [a, b, c] [] pos) (dRange3 ta) := by
  refine ⟨fun env M Q Q' E E' hQ hE h => ?_, PIw (pi_range3 hg hm ha.pa hs hs2) ?_⟩
  · refine ha.mono env M _ _ _ _ (fun ds M1 q => ?_) hE h
    obtain ⟨i, j, c, n, h1, h2, h3⟩ := q
    exact ⟨i, j, c, n, h1, h2, hQ _ _ h3⟩
  rintro σ H R ⟨env, M, re, s, h⟩
  refine stepA ha.mono re s h (fun ds M1 us H1 e1 s1 re1 r1 q => ?_) fun _ _ _ z => z
  obtain ⟨i, j, c, n, rfl, h2, h3⟩ := q
  obtain ⟨u, r, rfl, q1, r1⟩ := r1
  obtain ⟨v, w, rfl, q2, q3⟩ := rl2 r1
  rw [rep_v q1, rep_v q2, rep_v q3]
  exact ⟨i, j, c, n, rfl, h2, h3 _ H1 e1 s1 rep_rangeC⟩
end
end PL

namespace PL
open PySem PySem.Spec PyProof.Rows L2 SX
/-! texts as lists of signs -/
theorem cps_S (l : List Nat) : (S l).cps.toList = l := rfl
theorem len_S (l : List Nat) : (S l).length = l.length := SX.S_len l
theorem cut_to {l : List Nat} {k : Nat} : cutS (S l) none (some (k : Int)) = S (l.take k) := by
  unfold cutS
  rw [HT.sIx_none, HT.sIx_nat, len_S, cps_S]
  apply congrArg S
  rw [List.drop_zero, Nat.sub_zero, List.take_eq_take_iff]
  omega
theorem cut_from {l : List Nat} {k : Nat} : cutS (S l) (some (k : Int)) none = S (l.drop k) := by
  unfold cutS
  rw [HT.sIx_none, HT.sIx_nat, len_S, cps_S]
  apply congrArg S
  by_cases h : k ≤ l.length
  · rw [Nat.min_eq_left h, List.take_of_length_le (by rw [List.length_drop]; omega)]
  · rw [Nat.min_eq_right (by omega), List.drop_eq_nil_of_le (Nat.le_refl _), List.drop_eq_nil_of_le (by omega), List.take_nil]
theorem cut_mid {l : List Nat} {i j : Nat} : cutS (S l) (some (i : Int)) (some (j : Int)) = S ((l.drop i).take (j - i)) := by
  unfold cutS
  rw [HT.sIx_nat, HT.sIx_nat, len_S, cps_S]
  apply congrArg S
  by_cases h : i ≤ l.length
  · rw [Nat.min_eq_left h, List.take_eq_take_iff, List.length_drop]
    omega
  · rw [Nat.min_eq_right (show l.length ≤ i by omega), List.drop_eq_nil_of_le (Nat.le_refl _), List.drop_eq_nil_of_le (show l.length ≤ i by omega), List.take_nil, List.take_nil]
theorem in_sign {c : Nat} {z : Str} {M : Mem} {Q : DK} : (opIn (.str (S [c])) (.str z) M).run M Q = Q (.bl (decide (c ∈ z.cps.toList))) M := by
  show ((match (if (1 : Nat) = 1 then some (0, decide (c ∈ z.cps.toList)) else none : Option (Nat × Bool)) with | some (n, b) => Res.val (n ≤ mostDeep) (D.bl b) | none => Res.bad).run M Q) = _
  rw [if_pos rfl]
  simp [Res.run]
theorem notIn_sign {c : Nat} {z : Str} {M : Mem} {Q : DK} : (opNotIn (.str (S [c])) (.str z) M).run M Q = Q (.bl (!decide (c ∈ z.cps.toList))) M := by
  show ((match (if (1 : Nat) = 1 then some (0, decide (c ∈ z.cps.toList)) else none : Option (Nat × Bool)) with | some (n, b) => Res.val (n ≤ mostDeep) (D.bl !b) | none => Res.bad).run M Q) = _
  rw [if_pos rfl]
  simp [Res.run]
theorem zfill_S {l : List Nat} {n : Nat} (h1 : l.length ≤ n) (h2 : ∀ c ∈ l.head?, c ≠ 43 ∧ c ≠ 45) : Txt.zfill (S l) (n : Int) = S (List.replicate (n - l.length) 48 ++ l) := by
  unfold Txt.zfill
  rw [len_S]
  by_cases h : (n : Int) ≤ l.length
  · rw [if_pos h, show n - l.length = 0 by omega]
    rfl
  · rw [if_neg h]
    have e : zfilled (S l) ((n : Int).toNat - l.length) = Builtin.Str.padded (S l) ((n : Int).toNat - l.length) 0 48 := by
      unfold zfilled
      have : (S l).cps[0]? = l.head? := by cases l <;> rfl
      rw [this]
      split
      · rename_i z; exact absurd rfl (h2 43 (by rw [z]; rfl)).1
      · rename_i z; exact absurd rfl (h2 45 (by rw [z]; rfl)).2
      · rfl
    rw [e]
    apply TL.ext_tl
    simp [Builtin.Str.padded, TL.tl]
theorem at_one {l : List Nat} {c i : Nat} : StrLaws.At (S l) (S [c]) (S l).length i ↔ l[i]? = some c := StrLaws.subAt_one (S l) c i
/-- find of one sign -/
theorem find_one {l : List Nat} {c k : Nat} (hk : k ≤ l.length) : Txt.find3 (S l) (S [c]) (k : Int) = if c ∈ l.drop k then ((k + ((l.drop k).takeWhile fun x => decide (x ≠ c)).length : Nat) : Int) else -1 := by
  have ek : fromIndex (S l).length (k : Int) = k := by
    unfold fromIndex
    rw [if_neg (by omega)]
    omega
  unfold Txt.find3
  rw [ek]
  rcases StrLaws.occ_head_from (S l) (S [c]) k 1 (Nat.le_refl 1) with ⟨e, h⟩ | ⟨i, r, e, h1, h2, h3⟩
  · rw [e, if_neg]
    intro hm
    obtain ⟨j, hj, q⟩ := List.getElem_of_mem hm
    refine h (k + j) (by omega) (at_one.mpr ?_)
    rw [← q, List.getElem_drop]
    exact List.getElem?_eq_getElem _
  · rw [e]
    have q := at_one.mp h2
    obtain ⟨hi, q⟩ := List.getElem?_eq_some_iff.mp q
    have hd : (l.drop k)[i - k]? = some c := by
      rw [List.getElem?_drop, show k + (i - k) = i by omega, List.getElem?_eq_getElem hi, q]
    have hm : c ∈ l.drop k := List.mem_of_getElem? hd
    rw [if_pos hm]
    have el : ((l.drop k).takeWhile fun x => decide (x ≠ c)).length = i - k := by
      have h4 : ∀ j, j < i - k → (l.drop k)[j]? ≠ some c := fun j hj z => h3 (k + j) (by omega) (by omega) (at_one.mpr (by rw [List.getElem?_drop] at z; exact z))
      generalize l.drop k = m at hd h4
      generalize i - k = n at hd h4
      clear e h1 h2 h3 q hi hm hk ek r
      induction n generalizing m with
      | zero =>
        cases m with
        | nil => rfl
        | cons a r =>
          have : a = c := by simpa using hd
          simp [List.takeWhile, this]
      | succ n ih =>
        cases m with
        | nil => cases hd
        | cons a r =>
          have ha : a ≠ c := fun z => h4 0 (by omega) (by rw [z]; rfl)
          have := ih r (by simpa using hd) (fun j hj => by have := h4 (j + 1) (by omega); simpa using this)
          simp only [List.takeWhile, decide_eq_true ha, List.length_cons, this]
    rw [el]
    show (i : Int) = _
    omega
end PL

namespace PL
open PySem PySem.Spec PyProof.Rows L2

/-! dicts: plain facts -/
def dropD {κ : Type} [DecidableEq κ] (kvs : List (κ × D)) (k : κ) : List (κ × D) := kvs.filter fun kv => decide (kv.1 ≠ k)
def mergeD {κ : Type} [DecidableEq κ] (kvs more : List (κ × D)) : List (κ × D) := more.foldl (fun acc kv => putD acc kv.1 kv.2) kvs
theorem RepKV.drop {κ : Type} [DecidableEq κ] {K : PySem.W.Frag} {H : Hp} {k : κ} : ∀ {kvs : List (κ × D)} {us : List (κ × V)}, RepKV K H kvs us → RepKV K H (dropD kvs k) (dropK us k)
  | [], _, h => by unfold RepKV at h; subst h; exact rfl
  | (k', d) :: r, _, h => by
    obtain ⟨u, t, rfl, q, z⟩ := h
    have ih := RepKV.drop (k := k) z
    unfold dropD dropK at ih ⊢
    by_cases e : k' = k
    · rw [List.filter_cons_of_neg (by simp [e]), List.filter_cons_of_neg (by simp [e])]
      exact ih
    · rw [List.filter_cons_of_pos (by simp [e]), List.filter_cons_of_pos (by simp [e])]
      exact ⟨u, _, rfl, q, ih⟩
theorem RepKV.merge {K : PySem.W.Frag} {H : Hp} : ∀ {more : List (Key × D)} {ms : List (Key × V)}, RepKV K H more ms → ∀ {kvs : List (Key × D)} {us : List (Key × V)}, RepKV K H kvs us → RepKV K H (mergeD kvs more) (mergeK us ms)
  | [], _, h, _, _, g => by unfold RepKV at h; subst h; exact g
  | (k, d) :: r, _, h, _, _, g => by
    obtain ⟨u, t, rfl, q, z⟩ := h
    exact RepKV.merge z (RepKV.put q g)
theorem RepKV.keys {κ : Type} {K : PySem.W.Frag} {H : Hp} : ∀ {kvs : List (κ × D)} {us : List (κ × V)}, RepKV K H kvs us → us.map (·.1) = kvs.map (·.1)
  | [], _, h => by unfold RepKV at h; subst h; rfl
  | (k, d) :: r, _, h => by
    obtain ⟨u, t, rfl, q, z⟩ := h
    simp only [List.map_cons, RepKV.keys z]
theorem RepKV.getD {K : PySem.W.Frag} {H : Hp} {kvs : List (Key × D)} {us : List (Key × V)} (h : RepKV K H kvs us) (k : Key) {d : D} {u : V} (q : RepD K H d u) : RepD K H ((PL.look kvs k).getD d) ((valV us k).getD u) := by
  have l := h.look k
  cases e : PL.look kvs k with
  | none => cases f : valV us k with
    | none => exact q
    | some _ => rw [e, f] at l; exact l.elim
  | some _ => cases f : valV us k with
    | none => rw [e, f] at l; exact l.elim
    | some _ => rw [e, f] at l; exact l
/-! get, pop -/
def dgetR (M : Mem) (a : Addr) (y z : D) : Res := match M a with
  | some (.dk kvs) => match y.key with
    | some k => .val True ((look kvs k).getD z)
    | none => .bad
  | _ => .bad
def mGet : DMeth
  | .v (.ref a), [y], M => dgetR M a y .non
  | .v (.ref a), [y, z], M => dgetR M a y z
  | _, _, _ => .bad
def mDPop : DMeth
  | .v (.ref a), [y], M => match M a with
    | some (.dk kvs) => match y.key with
      | some k => match look kvs k with
        | some d => .put True a (.dk (dropD kvs k)) d
        | none => .bad
      | none => .bad
    | _ => .bad
  | _, _, _ => .bad
section
variable {X : Cx}
theorem m_get (hu : X.A.units + 200 < cLine) : MtR X "dict.get" (upMeth X.K mGet) := by
  rintro pins s σ H x xs v us Q I rx rxs ⟨d, ds, M, r1, rl, sm, h⟩
  unfold mGet at h
  split at h <;> first | exact h.elim | skip
  all_goals
    unfold dgetR at h
    split at h <;> first | exact h.elim | skip
    split at h <;> first | exact h.elim | skip
  · rename_i kvs hm _ k hk
    obtain ⟨u, rfl, q⟩ := rl1 rl
    rw [rep_v r1] at rx
    obtain rfl : v = Value.ref _ := rx
    obtain ⟨ws, e1, l1⟩ := sm _ _ hm
    have e := key_rep hk q
    subst e
    obtain ⟨w, rfl, rw'⟩ := vals1 rxs
    exact d_get1 (by omega) I (DGet.k e1) rw' fun w' s' I' r' => ⟨_, H, I', r', fin_rep h.2 sm (l1.getD k rep_of)⟩
  · rename_i kvs hm _ k hk
    obtain ⟨u, z, rfl, q, q2⟩ := rl2 rl
    rw [rep_v r1] at rx
    obtain rfl : v = Value.ref _ := rx
    obtain ⟨ws, e1, l1⟩ := sm _ _ hm
    have e := key_rep hk q
    subst e
    obtain ⟨w, w2, rfl, rw', rw2⟩ := vals2 rxs
    exact d_get2 (by omega) I (DGet.k e1) rw' rw2 fun w' s' I' r' => ⟨_, H, I', r', fin_rep h.2 sm (l1.getD k q2)⟩
theorem m_dpop : MtR X "dict.pop" (upMeth X.K mDPop) := by
  rintro pins s σ H x xs v us Q I rx rxs ⟨d, ds, M, r1, rl, sm, h⟩
  unfold mDPop at h
  split at h <;> first | exact h.elim | skip
  split at h <;> first | exact h.elim | skip
  split at h <;> first | exact h.elim | skip
  split at h <;> first | exact h.elim | skip
  rename_i kvs hm _ k hk _ d hd
  obtain ⟨u, rfl, q⟩ := rl1 rl
  rw [rep_v r1] at rx
  obtain rfl : v = Value.ref _ := rx
  obtain ⟨ws, e1, l1⟩ := sm _ _ hm
  have e := key_rep hk q
  subst e
  obtain ⟨w, rfl, rw'⟩ := vals1 rxs
  have l := l1.look k
  rw [hd] at l
  cases hv : valV ws k with
  | none => rw [hv] at l; exact l.elim
  | some x =>
    rw [hv] at l
    have ex : Ext X.K H (upd H _ (.dK (dropK ws k))) := Ext.mut e1 True.intro
    exact d_pop I e1 rw' hv (.inl rfl) fun w' s' I' r' => ⟨x, _, I', r', fin_put h.2 sm e1 True.intro ⟨_, upd_same, RepKV.mono ex l1.drop⟩ l⟩
end
/-! dict(d), dict(pairs) -/
def pairKV : D → Option (Key × D)
  | .tup [x, y] => match x.key with
    | some k => some (k, y)
    | none => none
  | _ => none
def pairsKV : List D → Option (List (Key × D))
  | [] => some []
  | d :: r => match pairKV d, pairsKV r with
    | some p, some ps => some (p :: ps)
    | _, _ => none
def bDict : DCall
  | [.tup ds], _ => match pairsKV ds with
    | some kvs => .new (ds.length ≤ sizeLine) (.dk (mergeD [] kvs))
    | none => .bad
  | [.v (.ref a)], M => match M a with
    | some (.dk kvs) => .new True (.dk kvs)
    | _ => .bad
  | _, _ => .bad
theorem key_kV {d : D} {k : Key} (h : d.key = some k) {K : PySem.W.Frag} {H : Hp} : RepD K H d (kV k) := by
  unfold D.key at h
  split at h <;> cases h <;> exact rep_of
theorem pairs_rep {K : PySem.W.Frag} {H : Hp} : ∀ {ds : List D} {kvs : List (Key × D)} {us : List V}, pairsKV ds = some kvs → RepL K H ds us → ∃ (ps : List Addr) (ws : List (Key × V)), us = ps.map V.ref ∧ Paired (fun p kv => SqT K H p [kV kv.1, kv.2]) ps ws ∧ RepKV K H kvs ws
  | [], kvs, us, h, r => by
    unfold RepL at r
    simp only [pairsKV, Option.some.injEq] at h
    subst h r
    exact ⟨[], [], rfl, .nil, rfl⟩
  | d :: ds, kvs, us, h, r => by
    unfold RepL at r
    obtain ⟨u, t, rfl, q, z⟩ := r
    unfold pairsKV at h
    split at h
    · rename_i p ps h1 h2
      cases h
      obtain ⟨qs, ws, rfl, g1, g2⟩ := pairs_rep h2 z
      unfold pairKV at h1
      split at h1
      · split at h1
        · rename_i x y _ k hk
          cases h1
          obtain ⟨a, vs, rfl, q1, l⟩ := rep_tup q
          obtain ⟨v1, v2, rfl, r1, r2⟩ := rl2 l
          have e := key_rep hk r1
          subst e
          exact ⟨a :: qs, (k, v2) :: ws, rfl, .cons q1 g1, ⟨v2, ws, rfl, r2, g2⟩⟩
        · cases h1
      · cases h1
    · cases h
section
variable {X : Cx}
theorem pairs_at {pins : List (Addr × Obj)} {σ : L2.St} {H : Hp} {s : Shared} (I : Inv X pins σ H s) : ∀ {ps : List Addr} {kvs : List (Key × V)}, Paired (fun p kv => SqT X.K H p [kV kv.1, kv.2]) ps kvs →
    ∃ (prs : List (Key × Value)) (vv : List (Value × Value)), KV kvs prs ∧ prs.length = ps.length ∧ vv.length = ps.length ∧ (∀ (j : Nat) (k v : Value), vv[j]? = some (k, v) → PairAt s.heap (ps.getD j 0) k v ∧ ∃ q, prs[j]? = some q ∧ q.2 = v ∧ (mixKind X.prog X.w).is q.1 k = true)
  | _, _, .nil => ⟨[], [], .nil, rfl, rfl, fun j k v e => by simp at e⟩
  | _, _, .cons (a := p) (b := kv) h t => by
    obtain ⟨prs, vv, r, hl, hl2, hp⟩ := pairs_at I t
    obtain ⟨its, rv, ht, _⟩ := I.tuple h
    obtain ⟨u, y, ei, ru, ry⟩ := vals2 rv
    subst ei
    refine ⟨(kv.1, y) :: prs, (u, y) :: vv, .cons ⟨rfl, ry⟩ r, by rw [List.length_cons, List.length_cons, hl], by rw [List.length_cons, List.length_cons, hl2], fun j k v e => ?_⟩
    cases j with
    | zero =>
      have e' : (u, y) = (k, v) := Option.some.inj e
      cases e'
      exact ⟨.inl ht, (kv.1, y), rfl, rfl, kV_is ru⟩
    | succ j =>
      obtain ⟨g1, g2⟩ := hp j k v (by simpa using e)
      exact ⟨by simpa using g1, by simpa using g2⟩
/-- dict(xs) of a tuple of pairs that has no attributes -/
theorem call_dictPT (hcalm : X.calm = true) : CallR X (.type "dict") (fun xs H Q => ∃ (a : Addr) (o : Obj) (ps : List Addr) (kvs : List (Key × V)), xs = [.ref a] ∧ H a = some (.frz o (.tup (ps.map V.ref))) ∧ o.dict = none ∧ Paired (fun p kv => SqT X.K H p [kV kv.1, kv.2]) ps kvs ∧
    ∀ p, H p = none → Q (.ref p) (upd H p (.dK (mergeK [] kvs)))) := by
  intro pins s σ H xs us Q I r q
  obtain ⟨a, o, ps, kvs, ex, hq, hd, hp, q⟩ := q
  subst ex
  obtain ⟨u, eu, rx⟩ := vals1 r
  subst eu
  cases rx
  obtain ⟨ho, hz, its, rv, o', ho', hc, n, hdat⟩ := I.hok _ _ hq
  rw [ho] at ho'
  cases ho'
  have ei := refs_at rv
  subst ei
  rw [List.length_map] at hz
  obtain ⟨prs, vv, rel, hl, hl2, hpr⟩ := pairs_at I hp
  refine PySem.call_dict_pairs (knd := mixKind X.prog X.w) (kvs := prs) (PairArg.tuple a (ps.map Value.ref).toArray (fun j => ps.getD j 0) vv) (I.ok.hd hcalm) ⟨⟨o, n, ho, hc, hd, hdat⟩, by simp [hl2], fun j k v e => ⟨?_, (hpr j k v e).1⟩⟩ ⟨by rw [hl, hl2], fun i key v e => ?_⟩ (by rw [hl2]; exact hz) fun h' tk hd' k => ?_
  · have hj : j < ps.length := by rw [← hl2]; exact (List.getElem?_eq_some_iff.mp e).1
    simp [List.getElem?_eq_getElem hj]
  · obtain ⟨q', g1, g2, g3⟩ := (hpr i key v e).2
    exact ⟨q'.1, by rw [g1, ← g2], g3⟩
  · have hm : (s.heap.objs.size == sysModules) = false := beq_eq_false_iff_ne.mpr (Nat.ne_of_gt I.big)
    have hlen : (mergeK [] kvs).length ≤ sizeLine := by
      refine Nat.le_trans (length_mergeK kvs []) ?_
      rw [List.length_nil, Nat.zero_add, rel.length, hl]
      exact hz
    exact ⟨.ref s.heap.objs.size, upd H s.heap.objs.size (.dK (mergeK [] kvs)), I.laid (t' := tk) (fun b o e => k b o (by simp) e) (Nat.le_refl _) (show ObjOk X.prog X.w _ _ _ (.dK (mergeK [] kvs)) from ⟨hlen, hm, merged [] prs, KV.merge rel .nil, hd'⟩), rfl, q _ (I.hok.fresh (Nat.le_refl _))⟩
/-- tuple(xs), xs a list: the new tuple has no attributes -/
theorem call_tupleC : CallR X (.type "tuple") (fun xs H Q => ∃ p ys, xs = [.ref p] ∧ SqL X.K H p ys ∧ ∀ l o, o.dict = none → H l = none → Q (.ref l) (upd H l (.frz o (.tup ys)))) := by
  intro pins s σ H xs us Q I r h
  obtain ⟨p, ys, rfl, hq, q⟩ := h
  obtain ⟨u, rfl, rx⟩ := vals1 r
  cases rx
  obtain ⟨its, r', pl, hz⟩ := I.list hq
  have hlen := r'.length
  refine call_tuple_list pl.isList (fun h' kp => ?_) (by simp only [List.size_toArray] <;> omega)
  have I1 : Inv X pins σ H { s with heap := h' } := I.kept (t' := s.toks) kp
  have I2 : Inv X pins σ (upd H h'.objs.size (.frz { cls := .type "tuple", data := .seq its.toArray } (.tup ys))) { s with heap := h'.push { cls := .type "tuple", data := .seq its.toArray } } :=
    I1.laid (t' := s.toks) (fun b o e => Heap.get?_push_of_some _ e) (Nat.le_refl _) ⟨Heap.get?_push_size _ rfl, hz, its, r', IsTup.new _ _⟩
  exact ⟨.ref h'.objs.size, _, I2, rfl, q _ { cls := .type "tuple", data := .seq its.toArray } rfl (I1.hok.fresh (Nat.le_refl _))⟩
end
/-- tuple(list), told as a thing -/
def bTupC : DCall
  | [.v (.ref a)], M => match M a with
    | some (.lst ds) => .new True (.ctp ds)
    | some (.rol ds) => .new True (.ctp ds)
    | _ => .bad
  | _, _ => .bad
def bDictC : DCall
  | [.v (.ref a)], M => match M a with
    | some (.dk kvs) => .new True (.dk kvs)
    | some (.rdk kvs) => .new True (.dk kvs)
    | some (.ctp ds) => match pairsKV ds with
      | some kvs => .new True (.dk (mergeD [] kvs))
      | none => .bad
    | some (.lst ds) => match pairsKV ds with
      | some kvs => .new True (.dk (mergeD [] kvs))
      | none => .bad
    | _ => .bad
  | _, _ => .bad
section
variable {X : Cx}
theorem repO_ctp {K : PySem.W.Frag} {H : Hp} {p : Addr} {o : Obj} {ds : List D} {us : List V} (ex : Ext K H (upd H p (.frz o (.tup us)))) (n : o.dict = none) (l : RepL K H ds us) : RepO K (upd H p (.frz o (.tup us))) p (.ctp ds) := ⟨o, us, upd_same, n, RepL.mono ex _ l⟩
theorem c_tupC : CallR X (.type "tuple") (upCall X.K bTupC) := by
  rintro pins s σ H xs us Q I r ⟨ds, M, rl, sm, h⟩
  unfold bTupC at h
  split at h <;> first | exact h.elim | skip
  obtain ⟨u, rfl, q⟩ := rl1 rl
  rw [rep_v q] at r
  split at h <;> first | exact h.elim | skip
  · rename_i hm
    obtain ⟨ws, q1, l1⟩ := sm.seq (.inl hm)
    exact call_tupleC pins s σ H _ us Q I r ⟨_, _, rfl, q1, fun l o n hl => fin_new h.2 sm hl (repO_ctp (Ext.new hl) n l1)⟩
  · rename_i hm
    obtain ⟨ws, q1, l1⟩ := sm.seq (.inr hm)
    exact call_tupleC pins s σ H _ us Q I r ⟨_, _, rfl, q1, fun l o n hl => fin_new h.2 sm hl (repO_ctp (Ext.new hl) n l1)⟩
theorem repO_dk {K : PySem.W.Frag} {H : Hp} {p : Addr} {kvs : List (Key × D)} {us : List (Key × V)} (ex : Ext K H (upd H p (.dK us))) (l : RepKV K H kvs us) : RepO K (upd H p (.dK us)) p (.dk kvs) := ⟨us, upd_same, RepKV.mono ex l⟩
theorem c_dictC (hcalm : X.calm = true) : CallR X (.type "dict") (upCall X.K bDictC) := by
  rintro pins s σ H xs us Q I r ⟨ds, M, rl, sm, h⟩
  unfold bDictC at h
  split at h <;> first | exact h.elim | skip
  obtain ⟨u, rfl, q⟩ := rl1 rl
  rw [rep_v q] at r
  split at h <;> first | exact h.elim | skip
  · rename_i hm
    obtain ⟨ws, q1, l1⟩ := sm _ _ hm
    exact call_dictD pins s σ H _ us Q I r ⟨_, _, rfl, .inl q1, fun l hl => fin_new h.2 sm hl (repO_dk (Ext.new hl) l1)⟩
  · rename_i hm
    obtain ⟨o, ws, q1, l1⟩ := sm _ _ hm
    exact call_dictD pins s σ H _ us Q I r ⟨_, _, rfl, .inr ⟨o, q1⟩, fun l hl => fin_new h.2 sm hl (repO_dk (Ext.new hl) l1)⟩
  · split at h <;> first | exact h.elim | skip
    rename_i hm _ kvs hk
    obtain ⟨o, ws, q1, n, l1⟩ := sm _ _ hm
    obtain ⟨ps, vs, rfl, g1, g2⟩ := pairs_rep hk l1
    exact call_dictPT hcalm pins s σ H _ us Q I r ⟨_, o, _, _, rfl, q1, n, g1, fun l hl => fin_new h.2 sm hl (repO_dk (Ext.new hl) (RepKV.merge g2 rfl))⟩
  · split at h <;> first | exact h.elim | skip
    rename_i hm _ kvs hk
    obtain ⟨ws, q1, l1⟩ := sm.seq (.inl hm)
    obtain ⟨ps, vs, rfl, g1, g2⟩ := pairs_rep hk l1
    exact call_dictP hcalm pins s σ H _ us Q I r ⟨_, _, _, rfl, q1, g1, fun l hl => fin_new h.2 sm hl (repO_dk (Ext.new hl) (RepKV.merge g2 rfl))⟩
end
/-! == of two dicts, one of them empty -/
def eqDR (M : Mem) (x y : D) (f : Bool → Bool) : Res := match x, y with
  | .v (.ref a), .v (.ref b) => match M a, M b with
    | some (.dk ks), some (.dk ls) => .val (ks = [] ∨ ks.length ≠ ls.length) (.bl (f (decide (ks.length = ls.length))))
    | _, _ => .bad
  | _, _ => .bad
def opEqD : DOp2 := fun x y M => eqDR M x y id
def opNeD : DOp2 := fun x y M => eqDR M x y (!·)
section
variable {X : Cx}
theorem bl_eqD : ∀ x y M Q, (opEqD x y M).run M Q → (opEqD x y M).run M fun d M' => (∃ k, d = .bl k) ∧ Q d M' := fun x y M Q h => by
  unfold opEqD eqDR at h ⊢
  split at h <;> first | exact h.elim | skip
  split at h <;> first | exact h.elim | skip
  exact ⟨h.1, ⟨_, rfl⟩, h.2⟩
theorem bl_neD : ∀ x y M Q, (opNeD x y M).run M Q → (opNeD x y M).run M fun d M' => (∃ k, d = .bl k) ∧ Q d M' := fun x y M Q h => by
  unfold opNeD eqDR at h ⊢
  split at h <;> first | exact h.elim | skip
  split at h <;> first | exact h.elim | skip
  exact ⟨h.1, ⟨_, rfl⟩, h.2⟩
theorem x_eqD (hu : X.A.units + 200 < cLine) : XOp X (compareOp .Eq) opEqD := by
  rintro pins s σ H x y v u Q I rx ry ⟨dx, dy, M, r1, r2, sm, h⟩
  unfold opEqD eqDR at h
  split at h <;> first | exact h.elim | skip
  split at h <;> first | exact h.elim | skip
  rename_i a b _ _ ks ls hm1 hm2
  rw [rep_v r1] at rx
  rw [rep_v r2] at ry
  obtain rfl : v = Value.ref _ := rx
  obtain rfl : u = Value.ref _ := ry
  obtain ⟨us, ea, la⟩ := sm _ _ hm1
  obtain ⟨ws, eb, lb⟩ := sm _ _ hm2
  obtain ⟨_, ya, va, ra, da⟩ := (show ObjOk X.prog X.w H s.heap _ (.dK us) from I.hok _ _ ea)
  obtain ⟨_, yb, vb, rb, db⟩ := (show ObjOk X.prog X.w H s.heap _ (.dK ws) from I.hok _ _ eb)
  have l1 : va.length = ks.length := by rw [← ra.length]; exact la.length
  have l2 : vb.length = ls.length := by rw [← rb.length]; exact lb.length
  refine PySem.W.keq_eq (knd := mixKind X.prog X.w) (r := true) ya yb da db (by omega) (fun e => ?_) ?_
  · rcases h.1 with z | z
    · have : us = [] := List.eq_nil_of_length_eq_zero (by rw [la.length, z]; rfl)
      subst this
      exact hits_all rb ra fun p hp => by cases hp
    · exact absurd (by rw [← l1, ← l2]; exact e) z
  · exact ⟨.bl (decide (ks.length = ls.length)), H, I, by rw [l1, l2, Bool.and_true]; rfl, fin_val h.2 sm⟩
theorem x_neD (hu : X.A.units + 200 < cLine) : XOp X (compareOp .NotEq) opNeD := by
  rintro pins s σ H x y v u Q I rx ry ⟨dx, dy, M, r1, r2, sm, h⟩
  unfold opNeD eqDR at h
  split at h <;> first | exact h.elim | skip
  split at h <;> first | exact h.elim | skip
  rename_i a b _ _ ks ls hm1 hm2
  rw [rep_v r1] at rx
  rw [rep_v r2] at ry
  obtain rfl : v = Value.ref _ := rx
  obtain rfl : u = Value.ref _ := ry
  obtain ⟨us, ea, la⟩ := sm _ _ hm1
  obtain ⟨ws, eb, lb⟩ := sm _ _ hm2
  obtain ⟨_, ya, va, ra, da⟩ := (show ObjOk X.prog X.w H s.heap _ (.dK us) from I.hok _ _ ea)
  obtain ⟨_, yb, vb, rb, db⟩ := (show ObjOk X.prog X.w H s.heap _ (.dK ws) from I.hok _ _ eb)
  have l1 : va.length = ks.length := by rw [← ra.length]; exact la.length
  have l2 : vb.length = ls.length := by rw [← rb.length]; exact lb.length
  refine PySem.W.keq_ne (knd := mixKind X.prog X.w) (r := true) ya yb da db (by omega) (fun e => ?_) ?_
  · rcases h.1 with z | z
    · have : us = [] := List.eq_nil_of_length_eq_zero (by rw [la.length, z]; rfl)
      subst this
      exact hits_all rb ra fun p hp => by cases hp
    · exact absurd (by rw [← l1, ← l2]; exact e) z
  · exact ⟨.bl (!decide (ks.length = ls.length)), H, I, by rw [l1, l2, Bool.and_true]; rfl, fin_val h.2 sm⟩
end
/-! sorted of a dict's keys -/
def sKeys (kvs : List (Key × D)) (ss : List Str) : Prop := kvs.map (·.1) = ss.map Sum.inr
def iKeysD (kvs : List (Key × D)) (ss : List Int) : Prop := kvs.map (·.1) = ss.map Sum.inl
def dkAt (M : Mem) (a : Addr) (kvs : List (Key × D)) : Prop := M a = some (.dk kvs) ∨ M a = some (.rdk kvs)
theorem dkAt.rep {K : PySem.W.Frag} {H : Hp} {M : Mem} {a : Addr} {kvs : List (Key × D)} (h : dkAt M a kvs) (s : Sim K H M) : ∃ us, Rd H a (.dK us) ∧ RepKV K H kvs us := by
  rcases h with h | h
  · obtain ⟨us, q, l⟩ := s _ _ h; exact ⟨us, .inl q, l⟩
  · obtain ⟨o, us, q, l⟩ := s _ _ h; exact ⟨us, .inr ⟨o, q⟩, l⟩
def bSortD : DCallG := fun ds M Q => ∃ a kvs, ds = [.ob a] ∧ dkAt M a kvs ∧ ((∃ ss, sKeys kvs ss ∧ ss.length < 64 ∧ ∀ ys p, sortedS ys = true → ys.Perm ss → M p = none → Q (.ob p) (mupd M p (.lst (ys.map D.str)))) ∨
  ∃ ss, iKeysD kvs ss ∧ ss.length < 64 ∧ ∀ (ys : List Int) p, ys.Perm ss → ys.Pairwise (· ≤ ·) → M p = none → Q (.ob p) (mupd M p (.lst (ys.map D.int))))
theorem bSortD_mono : MonoC bSortD := by
  rintro ds M Q Q' hQ ⟨a, kvs, h1, h2, (⟨ss, h3, h4, h⟩ | ⟨ss, h3, h4, h⟩)⟩
  · exact ⟨a, kvs, h1, h2, .inl ⟨ss, h3, h4, fun ys p a b c => hQ _ _ (h ys p a b c)⟩⟩
  · exact ⟨a, kvs, h1, h2, .inr ⟨ss, h3, h4, fun ys p a b c => hQ _ _ (h ys p a b c)⟩⟩
section
variable {X : Cx}
theorem c_sortD (hcalm : X.calm = true) : CallR X (.builtin "sorted") (upCallG X.K bSortD) := by
  rintro pins s σ H xs us Q I r ⟨ds, M, rl, sm, a, kvs, rfl, hd, h⟩
  obtain ⟨u, rfl, q⟩ := rl1 rl
  rw [rep_v q] at r
  obtain ⟨ws, e1, l1⟩ := hd.rep sm
  rcases h with ⟨ss, h3, h4, h⟩ | ⟨ss, h3, h4, h⟩
  · exact call_sortedD hcalm pins s σ H _ us Q I r ⟨a, ws, ss, rfl, e1, by rw [l1.keys]; exact h3, h4, fun ys p z1 z2 hp => fin_lst (fun p hp => h ys p z2 z1 hp) sm hp .of_strs⟩
  · exact call_sortedDI hcalm pins s σ H _ us Q I r ⟨a, ws, ss, rfl, e1, by rw [l1.keys]; exact h3, h4, fun ys p z1 z2 hp => fin_lst (fun p hp => h ys p z1 z2 hp) sm hp .of_ints⟩
end
/-! a dict is walked by its keys, while it is locked -/
def keyD : Key → D
  | .inl i => .int i
  | .inr x => .str x
theorem keyD_key (k : Key) : (keyD k).key = some k := by cases k <;> rfl
theorem keyD_rep {K : PySem.W.Frag} {H : Hp} (k : Key) : RepD K H (keyD k) (kV k) := key_kV (keyD_key k)
theorem rep_keys {K : PySem.W.Frag} {H0 : Hp} {a : Addr} {o : Obj} {kvs : List (Key × D)} {us : List (Key × V)} (h0 : H0 a = some (.frz o (.dK us))) (l0 : RepKV K H0 kvs us) : ItRep K H0 (Itk a o us) ⟨kvs.map fun kv => keyD kv.1, fun _ => True⟩ where
  go := fun i H M e s _ hi => ⟨e.fz _ _ _ h0, by rw [l0.length]; simpa using hi⟩
  yld := fun i H M x H' e s _ hi y => by
    obtain ⟨rfl, k, v, hk, rfl⟩ := y
    refine ⟨keyD k, ?_, keyD_rep k, Ext.refl, s⟩
    have := congrArg (fun l => l[i]?) l0.keys
    simp only [List.getElem?_map, hk, Option.map_some] at this
    rw [List.getElem?_map]
    cases e2 : kvs[i]? with
    | none => rw [e2] at this; cases this
    | some p => rw [e2] at this; simp only [Option.map_some, Option.some.injEq] at this ⊢; rw [← this]
  stop := fun H M e s _ => ⟨e.fz _ _ _ h0, by rw [l0.length]; simp⟩
def keysR (R : DIt → Mem → Prop) : DK := fun d M => ∃ a kvs, d = .ob a ∧ M a = some (.rdk kvs) ∧ R ⟨kvs.map fun kv => keyD kv.1, fun _ => True⟩ M
def dKeys (te : DE) : DI := fun env M R E => te env M (keysR R) E
theorem s_keys {te env M R E} : dKeys te env M R E = te env M (keysR R) E := id rfl
section
variable {X : Cx} {W : WX} {tg e : Expr} {te : DE}
theorem xi_keys (he : XE X W e te) : XI X W tg e (dKeys te) := by
  refine ⟨fun env M Q Q' E E' hQ hE => he.mono env M _ _ _ _ (fun d M1 ⟨a, kvs, h1, h2, h⟩ => ⟨a, kvs, h1, h2, hQ _ _ h⟩) hE, PIw (pi_keys he.pe) ?_⟩
  rintro σ H R ⟨env, M, re, sm, h⟩
  refine stepE he.mono re sm h (fun d M1 u H1 e1 s1 re1 r1 q => ?_) fun _ _ _ z => z
  obtain ⟨a, kvs, rfl, hm, q⟩ := q
  obtain ⟨o, us, q1, l1⟩ := s1 _ _ hm
  exact ⟨a, o, rep_v r1, .inl ⟨us, q1, q _ H1 e1 s1 (rep_keys q1 l1)⟩⟩
abbrev SqTo (K : PySem.W.Frag) (H H' : Hp) : Prop := ∀ a xs, SqT K H a xs → SqT K H' a xs
mutual
theorem RepD.monoS {K : PySem.W.Frag} {H H' : Hp} (e : SqTo K H H') : ∀ (d : D) {u : V}, RepD K H d u → RepD K H' d u
  | .v _, _, h => by unfold RepD at h ⊢; exact h
  | .tup ds, _, h => by
    unfold RepD at h ⊢
    obtain ⟨a, us, e1, q, r⟩ := h
    exact ⟨a, us, e1, e _ _ q, RepL.monoS e ds r⟩
theorem RepL.monoS {K : PySem.W.Frag} {H H' : Hp} (e : SqTo K H H') : ∀ (ds : List D) {us : List V}, RepL K H ds us → RepL K H' ds us
  | [], _, h => by unfold RepL at h ⊢; exact h
  | d :: ds, _, h => by
    unfold RepL at h ⊢
    obtain ⟨u, r, e1, q, t⟩ := h
    exact ⟨u, r, e1, RepD.monoS e d q, RepL.monoS e ds t⟩
end
theorem RepKV.monoS {κ : Type} {K : PySem.W.Frag} {H H' : Hp} (e : SqTo K H H') : ∀ {kvs : List (κ × D)} {us : List (κ × V)}, RepKV K H kvs us → RepKV K H' kvs us
  | [], _, h => h
  | (k, d) :: r, _, h => by
    obtain ⟨u, t, e1, q, z⟩ := h
    exact ⟨u, t, e1, RepD.monoS e d q, RepKV.monoS e z⟩
theorem RepO.monoS {K : PySem.W.Frag} {H H' : Hp} {a : Addr} (e : SqTo K H H') (h : H' a = H a) : ∀ {o : Ob}, RepO K H a o → RepO K H' a o
  | .lst _, ⟨us, q, r⟩ => ⟨us, by rw [h]; exact q, RepL.monoS e _ r⟩
  | .rol _, ⟨o, us, q, r⟩ => ⟨o, us, by rw [h]; exact q, RepL.monoS e _ r⟩
  | .dk _, ⟨us, q, r⟩ => ⟨us, by rw [h]; exact q, RepKV.monoS e r⟩
  | .rdk _, ⟨o, us, q, r⟩ => ⟨o, us, by rw [h]; exact q, RepKV.monoS e r⟩
  | .ctp _, ⟨o, us, q, n, r⟩ => ⟨o, us, by rw [h]; exact q, n, RepL.monoS e _ r⟩
  | .ins _ _, ⟨dx, us, q, r⟩ => ⟨dx, us, by rw [h]; exact q, RepKV.monoS e r⟩
  | .xd _, ⟨us, q, r⟩ => ⟨us, by rw [h]; exact q, RepKV.monoS e r⟩
/-- while e runs, the dict that te gives is locked -/
def lockK (a : Addr) (kvs : List (Key × D)) (Q : DK) : DK := fun d M => M a = some (.rdk kvs) ∧ Q d (mupd M a (.dk kvs))
def dLock (t : DE) : DE := fun env M Q E => ∃ a kvs, M a = some (.dk kvs) ∧ t env (mupd M a (.rdk kvs)) (lockK a kvs Q) noX
theorem s_lockK {a kvs Q d M} : lockK a kvs Q d M = (M a = some (.rdk kvs) ∧ Q d (mupd M a (.dk kvs))) := id rfl
theorem xe_lock {t : DE} (he : XE X W e t) : XE X W e (dLock t) := by
  refine ⟨fun env M Q Q' E E' hQ hE ⟨a, kvs, h1, h⟩ => ⟨a, kvs, h1, he.mono _ _ _ _ _ _ (fun d M1 z => ⟨z.1, hQ _ _ z.2⟩) (fun _ _ _ z => z) h⟩, PEw (pe_lock he.pe) ?_⟩
  rintro σ H Q ⟨env, M, re, sm, a, kvs, hm, h⟩
  obtain ⟨us, q1, l1⟩ := sm _ _ hm
  refine ⟨a, _, q1, True.intro, fun od => ?_⟩
  have ex : Ext X.K H (upd H a (.frz od (.dK us))) := Ext.mut q1 True.intro
  have sm1 : Sim X.K (upd H a (.frz od (.dK us))) (mupd M a (.rdk kvs)) := sm.put q1 True.intro ⟨od, us, upd_same, RepKV.mono ex l1⟩
  refine stepE he.mono (re.mono ex) sm1 h (fun d M1 u H1 e1 s1 re1 r1 q => ?_) fun _ _ _ z => z.elim
  have hf : H1 a = some (.frz od (.dK us)) := e1.fz _ _ _ upd_same
  refine ⟨hf, ?_⟩
  have sq : ∀ b xs, SqT X.K H1 b xs → SqT X.K (upd H1 a (.dK us)) b xs := fun b xs g => by
    rcases g with (g | ⟨ob, g⟩) | g
    · exact .inl (.inl (by rw [upd_ne (fun z => by rw [z, hf] at g; cases g)]; exact g))
    · exact .inl (.inr ⟨ob, by rw [upd_ne (fun z => by rw [z, hf] at g; cases g)]; exact g⟩)
    · exact .inr g
  have ex2 : Ext X.K H (upd H1 a (.dK us)) := ⟨fun b xs g => sq b xs (e1.sq b xs (ex.sq b xs g)), fun b o v g => by
    have hb : b ≠ a := fun z => by rw [z, q1] at g; cases g
    rw [upd_ne hb]
    exact e1.fz _ _ _ (by rw [upd_ne hb]; exact g)⟩
  refine q.2 u _ ex2 (fun b ob g => ?_) (RepD.monoS sq d r1)
  by_cases hb : b = a
  · subst hb
    rw [mupd_same] at g
    cases g
    exact ⟨us, upd_same, RepKV.monoS sq (RepKV.mono e1 (RepKV.mono ex l1))⟩
  · rw [mupd_ne hb] at g
    exact (s1 b ob g).monoS sq (upd_ne hb)
end
/-! dict comprehensions -/
/-- a: the new dict; the items, what is made so far -/
def dDcGo (keep : Mem → Prop) (p : Pat) (tt : DT) (tk tv : DE) (env : DEnv) (a : Addr) (Q : DK) : List D → List (Key × D) → Mem → Prop
  | [], acc, M => keep M ∧ M a = some (.dk acc) ∧ Q (.ob a) M
  | x :: r, acc, M => keep M ∧ match p.bind M x env with
    | some env1 => tt env1 M (fun b M2 => if b = true then tk env1 M2 (fun y M3 => tv env1 M3 (fun z M4 => ∃ k, y.key = some k ∧ M4 a = some (.dk acc) ∧ acc.length < sizeLine ∧ dDcGo keep p tt tk tv env a Q r (putD acc k z) (mupd M4 a (.dk (putD acc k z)))) noX) noX else dDcGo keep p tt tk tv env a Q r acc M2) noX
    | none => False
def dcK (p : Pat) (tt : DT) (tk tv : DE) (vs : List Nat) (env : DEnv) (Q : DK) : DIt → Mem → Prop := fun J M => ∀ a, M a = none → dDcGo J.keep p tt tk tv (wipeD env vs) a Q J.items [] (mupd M a (.dk []))
def dDc (ti : DI) (p : Pat) (tt : DT) (tk tv : DE) (vs : List Nat) : DE := fun env M Q E => ti env M (dcK p tt tk tv vs env Q) E
theorem dDcGo_mono {keep : Mem → Prop} {p : Pat} {tt : DT} {tk tv : DE} (ht : MonoT tt) (hk : MonoE tk) (he : MonoE tv) {env : DEnv} {a : Addr} {Q Q' : DK} (hQ : ∀ d M, Q d M → Q' d M) : ∀ (xs : List D) (acc : List (Key × D)) (M : Mem), dDcGo keep p tt tk tv env a Q xs acc M → dDcGo keep p tt tk tv env a Q' xs acc M
  | [], acc, M, h => ⟨h.1, h.2.1, hQ _ _ h.2.2⟩
  | x :: r, acc, M, h => by
    refine ⟨h.1, ?_⟩
    have h2 := h.2
    split
    · rename_i env1 hb1
      rw [hb1] at h2
      refine ht _ _ _ _ _ _ (fun b M2 => ?_) (fun _ _ _ z => z) h2
      cases b with
      | true =>
        rw [if_pos rfl, if_pos rfl]
        exact hk _ _ _ _ _ _ (fun y M3 => he _ _ _ _ _ _ (fun z M4 ⟨k, z1, z2, z3, z4⟩ => ⟨k, z1, z2, z3, dDcGo_mono ht hk he hQ r _ _ z4⟩) (fun _ _ _ z => z)) (fun _ _ _ z => z)
      | false =>
        rw [if_neg Bool.false_ne_true, if_neg Bool.false_ne_true]
        exact dDcGo_mono ht hk he hQ r _ _
    · rename_i hb1
      rw [hb1] at h2
      exact h2
section
variable {X : Cx} {W : WX} {kx vx tg iter : Expr} {ifs : List Expr} {scope : Scope} {own : List (Str × Nat)} {pos : Pos} {ti : DI} {p : Pat} {tt : DT} {tk tv : DE}
theorem dc_up (hi : XI X W tg iter ti) (mt : MonoT tt) (mk : MonoE tk) (me : MonoE tv) (vs : List Nat) (hv : ∀ i ∈ p.slots, i ∈ vs) : ∀ σ H Q, liftE X.K W (dDc ti p tt tk tv vs) σ H Q → tDc (liftI X.K W ti) (p.tg X.K) (liftT X.K W0 tt) (liftE X.K W0 tk) (liftE X.K W0 tv) vs σ H Q := by
  rintro σ H Q ⟨env, M, re, s, h⟩
  refine ⟨env, M, re, s, hi.mono _ _ _ _ _ _ (fun J M1 q J' H1 e1 s1 ir => ?_) (fun _ _ _ z => z) h⟩
  intro a ha
  have q := q a (s1.free ha)
  have sA : Sim X.K (upd H1 a (.dK [])) (mupd M1 a (.dk [])) := s1.new ha (repO_dk (us := []) (Ext.new ha) rfl)
  have eA : Ext X.K H1 (upd H1 a (.dK [])) := Ext.new ha
  refine ⟨fun i m H' => m = J.items.length - i ∧ i ≤ J.items.length ∧ Ext X.K H1 H' ∧ ∃ M acc, Sim X.K H' M ∧ dDcGo J.keep p tt tk tv (wipeD env vs) a (upK X.K H Q) (J.items.drop i) acc M,
    ⟨J.items.length, by simp, Nat.zero_le _, eA, _, [], sA, by simpa using q⟩, ?_⟩
  rintro i m H2 ⟨rfl, hi2, e2, M2, acc, s2, q2⟩
  by_cases hlt : i < J.items.length
  · rw [List.drop_eq_getElem_cons hlt] at q2
    obtain ⟨kp, q2⟩ := q2
    refine .inr ⟨ir.go i H2 M2 e2 s2 kp hlt, fun H' => Ext X.K H1 H' ∧ ∃ M acc, Sim X.K H' M ∧ dDcGo J.keep p tt tk tv (wipeD env vs) a (upK X.K H Q) (J.items.drop (i + 1)) acc M, fun H' n => ⟨_, by omega, rfl, hlt, n⟩, fun x H3 y => ?_⟩
    obtain ⟨d, hd, r3, e3, s3⟩ := ir.yld i H2 M2 x H3 e2 s2 kp hlt y
    rw [List.getElem?_eq_getElem hlt] at hd
    obtain rfl := Option.some.inj hd
    split at q2
    · rename_i env3 hb3
      have re3 : RepE X.K H3 (wipeD env vs) (L2.wipe σ vs) := (re.mono ((e1.trans e2).trans e3)).wipe vs
      obtain ⟨σ3, h1, hw, h3⟩ := Pat.rep s3 vs p r3 re3 hb3 hv
      refine h3 _ ⟨hw.trans (wipe_wipe vs), ?_⟩
      refine stepT mt h1 s3 q2 (fun b M4 H4 e4 s4 re4 q4 => ?_) fun _ _ _ z => z.elim
      cases b with
      | true =>
        rw [if_pos rfl] at q4 ⊢
        refine stepE mk re4 s4 q4 (fun y M5 u H5 e5 s5 re5 r5 q5 => ?_) fun _ _ _ z => z.elim
        refine stepE me re5 s5 q5 (fun z M6 v H6 e6 s6 re6 r6 q6 => ?_) fun _ _ _ z => z.elim
        obtain ⟨k, hk, ma6, lz, q6⟩ := q6
        obtain ⟨us, h6, l6⟩ := s6 _ _ ma6
        have ey := key_rep hk r5
        have ex : Ext X.K H6 (upd H6 a (.dK (putK us k v))) := Ext.mut h6 True.intro
        refine ⟨us, k, ey, h6, by rw [l6.length]; exact lz, ((((e2.trans e3).trans e4).trans e5).trans e6).trans ex, _, _, s6.put h6 True.intro (repO_dk ex (RepKV.put r6 l6)), q6⟩
      | false =>
        rw [if_neg Bool.false_ne_true] at q4 ⊢
        exact ⟨(e2.trans e3).trans e4, M4, acc, s4, q4⟩
    · exact q2.elim
  · have e : i = J.items.length := by omega
    subst e
    rw [List.drop_length] at q2
    exact .inl ⟨ir.stop H2 M2 e2 s2 q2.1, q2.2.2 (.ref a) H2 (e1.trans e2) s2 rep_of⟩
theorem xe_dc (hc : X.calm = true) (hN : X.N.Nodup) (hi : XI X W tg iter ti) (ok : BlkOk X.N X.env.scope scope own) (hg : BlkAll X scope fun Y => PG Y tg (p.tg X.K)) (ht : BlkAll X scope fun Y => XTs Y W0 ifs tt) (hk : BlkAll X scope fun Y => XE Y W0 kx tk) (he : BlkAll X scope fun Y => XE Y W0 vx tv)
    (hv : p.slots.all (fun i => decide (i ∈ own.map (·.2))) = true := by decide) (hs : ∀ x, foldedSetIterable iter X.env x = pure x := by intro _; rfl) : XE X W (.DictComp kx vx [⟨tg, iter, ifs, 0⟩] scope pos) (dDc ti p tt tk tv (own.map (·.2))) := by
  have mt := (ht X.s_0 X.H_0 0 [] []).mono
  have mk := (hk X.s_0 X.H_0 0 [] []).mono
  have me := (he X.s_0 X.H_0 0 [] []).mono
  refine ⟨fun env M Q Q' E E' hQ hE => hi.mono _ _ _ _ _ _ (fun J M1 q a ha => dDcGo_mono mt mk me hQ _ _ _ (q a ha)) hE, PEw (pe_dc (g := p.tg X.K) (tt := liftT X.K W0 tt) (tk := liftE X.K W0 tk) (tv := liftE X.K W0 tv) hc hN hi.pi ok hg (fun s H C cl fp => (ht s H C cl fp).pts) (fun s H C cl fp => (hk s H C cl fp).pe) (fun s H C cl fp => (he s H C cl fp).pe) hs) (dc_up hi mt mk me _ fun i h => ?_)⟩
  exact of_decide_eq_true (List.all_eq_true.mp hv i h)
end
end PL

namespace PL
open PySem PySem.Spec PyProof.Rows L2
/-! dict displays -/
abbrev DPs := DEnv → Mem → (List (D × D) → Mem → Prop) → DX → Prop
def dpNil : DPs := fun _ M R _ => R [] M
def dpK3 (x y : D) (R : List (D × D) → Mem → Prop) : List (D × D) → Mem → Prop := fun ps M => R ((x, y) :: ps) M
def dpK2 (x : D) (r : DPs) (env : DEnv) (R : List (D × D) → Mem → Prop) (E : DX) : DK := fun y M => r env M (dpK3 x y R) E
def dpK1 (tv : DE) (r : DPs) (env : DEnv) (R : List (D × D) → Mem → Prop) (E : DX) : DK := fun x M => tv env M (dpK2 x r env R E) E
def dpCons (tk tv : DE) (r : DPs) : DPs := fun env M R E => tk env M (dpK1 tv r env R E) E
def kvOf : List (D × D) → Option (List (Key × D))
  | [] => some []
  | (x, y) :: r => match x.key, kvOf r with
    | some k, some kvs => some ((k, y) :: kvs)
    | _, _ => none
def optKV (o : Option (List (Key × D))) (f : List (Key × D) → Prop) : Prop := match o with
  | some kvs => f kvs
  | none => False
def dispK (p : Addr) (Q : DK) : List (D × D) → Mem → Prop := fun ps M => M p = some (.dk []) ∧ optKV (kvOf ps) fun kvs => kvs.length ≤ 15 ∧ Q (.ob p) (mupd M p (.dk (mergeD [] kvs)))
def dDisp (r : DPs) : DE := fun env M Q E => ∀ p, M p = none → r env (mupd M p (.dk [])) (dispK p Q) E
section
variable {env : DEnv} {M : Mem} {Q : DK} {E : DX} {R : List (D × D) → Mem → Prop}
theorem s_dpNil : dpNil env M R E = R [] M := id rfl
theorem s_dpCons {tk tv r} : dpCons tk tv r env M R E = tk env M (dpK1 tv r env R E) E := id rfl
theorem s_dpK1 {tv r x} : dpK1 tv r env R E x M = tv env M (dpK2 x r env R E) E := id rfl
theorem s_dpK2 {x r y} : dpK2 x r env R E y M = r env M (dpK3 x y R) E := id rfl
theorem s_dpK3 {x y ps} : dpK3 x y R ps M = R ((x, y) :: ps) M := id rfl
theorem s_disp {r} : dDisp r env M Q E = ∀ p, M p = none → r env (mupd M p (.dk [])) (dispK p Q) E := id rfl
theorem s_dispK {p ps} : dispK p Q ps M = (M p = some (.dk []) ∧ optKV (kvOf ps) fun kvs => kvs.length ≤ 15 ∧ Q (.ob p) (mupd M p (.dk (mergeD [] kvs)))) := id rfl
theorem s_optKV {kvs} {f : List (Key × D) → Prop} : optKV (some kvs) f = f kvs := id rfl
theorem kv_nil : kvOf [] = some [] := id rfl
theorem kv_str {x : Str} {y : D} {r kvs} (h : kvOf r = some kvs) : kvOf ((.str x, y) :: r) = some ((.inr x, y) :: kvs) := by
  unfold kvOf
  rw [h]
  rfl
end
def RepPs (K : PySem.W.Frag) (H : Hp) : List (D × D) → List (V × V) → Prop
  | [], us => us = []
  | (x, y) :: r, us => ∃ u v t, us = (u, v) :: t ∧ RepD K H x u ∧ RepD K H y v ∧ RepPs K H r t
theorem kv_rep {K : PySem.W.Frag} {H : Hp} : ∀ {ps : List (D × D)} {kvs : List (Key × D)} {us : List (V × V)}, kvOf ps = some kvs → RepPs K H ps us → ∃ ws : List (Key × V), us = ws.map (fun kv => (kV kv.1, kv.2)) ∧ RepKV K H kvs ws
  | [], kvs, us, h, r => by
    unfold kvOf at h
    unfold RepPs at r
    cases h
    subst r
    exact ⟨[], rfl, rfl⟩
  | (x, y) :: ps, kvs, us, h, r => by
    obtain ⟨u, v, t, rfl, q1, q2, z⟩ := r
    unfold kvOf at h
    split at h
    · rename_i k kvs' hk h2
      cases h
      obtain ⟨ws, rfl, l⟩ := kv_rep h2 z
      have e := key_rep hk q1
      subst e
      exact ⟨(k, v) :: ws, rfl, ⟨v, ws, rfl, q2, l⟩⟩
    · cases h
def MonoPs (t : DPs) : Prop := ∀ env M (Q Q' : List (D × D) → Mem → Prop) (E E' : DX), (∀ d M, Q d M → Q' d M) → (∀ c f M, E c f M → E' c f M) → t env M Q E → t env M Q' E'
def liftPs (K : PySem.W.Frag) (W : WX) (t : DPs) (σ : L2.St) (H : Hp) (Q : List (V × V) → Hp → Prop) : Prop := ∃ env M, RepE K H env σ ∧ Sim K H M ∧ t env M (fun ps M' => ∀ us H', Ext K H H' → Sim K H' M' → RepPs K H' ps us → Q us H') (upX K W H σ)
structure XPs (X : Cx) (W : WX) (pos : Pos) (keys : List (Option Expr)) (values : List Expr) (t : DPs) : Prop where
  mono : MonoPs t
  run : ∀ (pins : List (Addr × Obj)) (s : Shared) (σ : L2.St) (H : Hp) (Q : List (V × V) → Hp → Prop), Inv X pins σ H s → liftPs X.K W t σ H Q →
    wpAny (model X.prog X.w) X.A (evalPairs (pairTrees keys values X.env pos)) (fun vs s' => ∃ ps H', Inv X pins σ H' s' ∧ VV ps vs ∧ Q ps H') X.xe s
section
variable {X : Cx} {W : WX} {pos : Pos} {k v : Expr} {ks : List (Option Expr)} {vs : List Expr} {tk tv : DE} {t : DPs}
theorem xps_nil : XPs X W pos [] [] dpNil := by
  refine ⟨fun env M Q Q' E E' hQ hE h => hQ _ _ h, fun pins s σ H Q I h => ?_⟩
  obtain ⟨env, M, re, sm, h⟩ := h
  exact pairTrees_nil_walk ⟨[], H, I, .nil, h [] H Ext.refl sm rfl⟩
theorem xps_cons (hk : XE X W k tk) (hv : XE X W v tv) (hr : XPs X W pos ks vs t) : XPs X W pos (some k :: ks) (v :: vs) (dpCons tk tv t) := by
  refine ⟨fun env M Q Q' E E' hQ hE => hk.mono _ _ _ _ _ _ (fun x M1 => hv.mono _ _ _ _ _ _ (fun y M2 => hr.mono _ _ _ _ _ _ (fun ps M3 => hQ _ _) hE) hE) hE, fun pins s σ H Q I h => ?_⟩
  obtain ⟨env, M, re, sm, h⟩ := h
  have q : liftE X.K W tk σ H fun u H1 => liftE X.K W tv σ H1 fun v H2 => liftPs X.K W t σ H2 fun us H3 => Q ((u, v) :: us) H3 := by
    refine stepE hk.mono re sm h (fun x M1 u H1 e1 s1 re1 r1 q => ?_) fun _ _ _ z => z
    refine stepE hv.mono re1 s1 q (fun y M2 v H2 e2 s2 re2 r2 q2 => ?_) (upX_mono e1)
    refine ⟨env, M2, re2, s2, hr.mono _ _ _ _ _ _ (fun ps M3 q3 us H3 e3 s3 r3 => ?_) (upX_mono (e1.trans e2)) q2⟩
    exact q3 ((u, v) :: us) H3 ((e1.trans e2).trans e3) s3 ⟨u, v, us, rfl, RepD.mono (e2.trans e3) _ r1, RepD.mono e3 _ r2, r3⟩
  exact pairTrees_cons_walk (thn (hk.pe.run pins s σ H _ I q) fun u s1 ⟨x, H1, I1, rx, q1⟩ => thn (hv.pe.run pins s1 σ H1 _ I1 q1) fun w2 s2 ⟨y, H2, I2, ry, q2⟩ =>
    thn (hr.run pins s2 σ H2 _ I2 q2) fun ws s3 ⟨ps, H3, I3, rel, q3⟩ => ⟨(x, y) :: ps, H3, I3, .cons ⟨rx, ry⟩ rel, q3⟩)
theorem RepKV.len {K : PySem.W.Frag} {H : Hp} {kvs : List (Key × D)} {us : List (Key × V)} (h : RepKV K H kvs us) : us.length = kvs.length := h.length
theorem xe_disp (h : XPs X W pos ks vs t) (hall : ks.all (·.isSome) = true := by rfl) (hl : ks.length = vs.length := by rfl) (h0 : ks ≠ [] := by decide) (h15 : ks.length ≤ 15 := by decide) : XE X W (.Dict ks vs pos) (dDisp t) := by
  have mono : MonoE (dDisp t) := by
    intro env M Q Q' E E' hQ hE z p hp
    refine h.mono _ _ _ _ _ _ ?_ hE (z p hp)
    rintro ps M1 ⟨z1, z2⟩
    refine ⟨z1, ?_⟩
    cases e : kvOf ps with
    | none => rw [e] at z2; exact z2
    | some kvs => rw [e] at z2; exact ⟨z2.1, hQ _ _ z2.2⟩
  refine ⟨mono, ⟨fun pins s σ H Q I q => ?_⟩⟩
  obtain ⟨env, M, re, sm, q⟩ := q
  have hn := I.hok.fresh (Nat.le_refl s.heap.objs.size)
  have I1 := I.laid (a := s.heap.objs.size) (o := .dK []) (h' := s.heap.push { cls := .type "dict", data := .dict #[] }) (t' := s.toks) (fun _ _ q => Heap.get?_push_of_some _ q) (Nat.le_refl _) (dk_empty s.heap I.big)
  have ex : Ext X.K H (upd H s.heap.objs.size (.dK [])) := Ext.new hn
  have q1 : liftPs X.K W t σ (upd H s.heap.objs.size (.dK [])) fun us H2 => H2 s.heap.objs.size = some (.dK []) ∧ ∃ kvs : List (Key × V), us = kvs.map (fun kv => (kV kv.1, kv.2)) ∧ kvs.length ≤ 15 ∧ Q (.ref s.heap.objs.size) (upd H2 s.heap.objs.size (.dK (mergeK [] kvs))) := by
    refine ⟨env, _, re.mono ex, sm.new hn (repO_dk (kvs := []) (us := []) ex rfl), h.mono _ _ _ _ _ _ (fun ps M2 z us H2 e2 s2 r2 => ?_) (upX_mono ex) (q _ (sm.free hn))⟩
    obtain ⟨z1, z2⟩ := z
    cases e : kvOf ps with
    | none => rw [e] at z2; exact z2.elim
    | some kvs =>
      rw [e] at z2
      obtain ⟨z2, z3⟩ := z2
      obtain ⟨ws, rfl, l⟩ := kv_rep e r2
      obtain ⟨xs, hx, lx⟩ := s2 _ _ z1
      unfold RepKV at lx
      subst lx
      refine ⟨hx, ws, rfl, by rw [l.length]; exact z2, ?_⟩
      have ex3 : Ext X.K H2 (upd H2 s.heap.objs.size (.dK (mergeK [] ws))) := Ext.mut hx True.intro
      exact z3 _ _ ((ex.trans e2).trans ex3) (s2.put hx True.intro (repO_dk ex3 (RepKV.merge l rfl))) rep_of
  refine wpAny_Dict_walk (knd := mixKind X.prog X.w) hall hl h0 h15 (thn (h.run pins _ σ _ _ I1 q1) fun ws s2 ⟨ps, H2, I2, rel, e, kvs, ep, lk, q2⟩ => ?_)
  subst ep
  obtain ⟨rs, c, rk⟩ := carries_of (P := X.prog) (w := X.w) rel
  obtain ⟨z, hd, vs0, r0, dd⟩ := dk_of I2.hok e
  cases r0
  refine ⟨rs, c, dd, fun h' dd' hs => ⟨.ref s.heap.objs.size, _, ?_, rfl, q2⟩⟩
  have hz : (mergeK [] kvs).length ≤ sizeLine := by
    have h1 := length_mergeK kvs []
    simp only [List.length_nil, Nat.zero_add] at h1
    rw [sizeLine_eq]; omega
  have he : ∃ q, h'.get? s.heap.objs.size = some q := let ⟨q, _, _, hq, _⟩ := dd'; ⟨q, hq⟩
  exact d_write I2 (by rw [e]; exact True.intro) hs he (dk_new hz hd (rk.merge .nil) dd')
end
section
variable {env : DEnv} {M : Mem} {Q : DK} {E : DX}
theorem s_dc {ti p tt tk tv vs} : dDc ti p tt tk tv vs env M Q E = ti env M (dcK p tt tk tv vs env Q) E := id rfl
theorem s_dcK {p tt tk tv vs its kp} : dcK p tt tk tv vs env Q ⟨its, kp⟩ M = ∀ a, M a = none → dDcGo kp p tt tk tv (wipeD env vs) a Q its [] (mupd M a (.dk [])) := id rfl
end
end PL
namespace PL
open PySem PySem.Spec PyProof.Rows L2
theorem xe_globTE {X : Cx} {W : WX} {x : Str} {ds : List D} {pos : Pos} (hg : Gl X x) (h : ∃ a : Addr, X.mg x = some (.ref a) ∧ ∀ H : Hp, RepD X.K H (.tup ds) (.ref a)) (hd : (x == ("__debug__" : Str)) = false := by decide) : XE X W (.Name x pos) (dC (.tup ds)) := by
  obtain ⟨a, h1, h2⟩ := h
  exact xe_globT hg h1 h2 hd
theorem rep_globT {K : PySem.W.Frag} {H : Hp} {a : Addr} {d : Option Addr} {t : Array Value} {n : Nat} {s : Array (Option Value)} {xs : List Str} (h : K.lookup a = some ⟨.type "tuple", d, .seq t n, s⟩) (hz : t.size ≤ sizeLine) (r : Vals (xs.map V.str) t.toList) : RepD K H (.tup (xs.map D.str)) (.ref a) := by
  unfold RepD
  exact ⟨a, xs.map V.str, rfl, .inr ⟨_, t, n, h, rfl, rfl, hz, r⟩, .of_strs⟩
end PL
namespace PL
theorem merge_nil {κ : Type} [DecidableEq κ] {kvs : List (κ × D)} : mergeD kvs [] = kvs := id rfl
theorem merge_one {k : L2.Key} {d : D} : mergeD [] [(k, d)] = [(k, d)] := id rfl
end PL
namespace PL
open PySem PySem.Spec PyProof.Rows L2
theorem Keep.putN {M M' : Mem} {p : Addr} {o : Ob} (k : Keep [] M M') (h : M p = none) : Keep [] M (mupd M' p o) := (k.weaken (T := [p]) (by simp)).trans (Keep.put (by simp)) |>.drop h
def dcZ (y : D) (N : D → D → Mem → Prop) : DK := fun z M => N y z M
def dcY (tv : DE) (env : DEnv) (N : D → D → Mem → Prop) : DK := fun y M => tv env M (dcZ y N) noX
def dcB (tk tv : DE) (env : DEnv) (N : D → D → Mem → Prop) (sk : Mem → Prop) : Bool → Mem → Prop := fun b M => bifM b (eK tk env (dcY tv env N) noX) sk M
def dcS (tt : DT) (tk tv : DE) (N : D → D → Mem → Prop) (sk : Mem → Prop) (env : DEnv) (M : Mem) : Prop := tt env M (dcB tk tv env N sk) noX
section
variable {tt : DT} {tk tv : DE} {N : D → D → Mem → Prop} {sk : Mem → Prop} {env : DEnv} {M : Mem} {y z : D} {b : Bool}
theorem s_dcZ : dcZ y N z M = N y z M := id rfl
theorem s_dcY : dcY tv env N y M = tv env M (dcZ y N) noX := id rfl
theorem s_dcB : dcB tk tv env N sk b M = bifM b (eK tk env (dcY tv env N) noX) sk M := id rfl
theorem s_dcS : dcS tt tk tv N sk env M = tt env M (dcB tk tv env N sk) noX := id rfl
end
theorem mergeD_snoc {κ : Type} [DecidableEq κ] (acc : List (κ × D)) (xs : List (κ × D)) (p : κ × D) : mergeD acc (xs ++ [p]) = putD (mergeD acc xs) p.1 p.2 := by
  unfold mergeD
  rw [List.foldl_append]
  rfl
theorem putD_len {κ : Type} [DecidableEq κ] (kvs : List (κ × D)) (k : κ) (d : D) : (putD kvs k d).length ≤ kvs.length + 1 := by
  unfold putD
  split
  · rw [List.length_map]; omega
  · simp
theorem mergeD_len {κ : Type} [DecidableEq κ] : ∀ (xs acc : List (κ × D)), (mergeD acc xs).length ≤ acc.length + xs.length
  | [], acc => Nat.le_refl _
  | p :: r, acc => by
    have h1 := mergeD_len r (putD acc p.1 p.2)
    have h2 := putD_len acc p.1 p.2
    show (mergeD (putD acc p.1 p.2) r).length ≤ _
    rw [List.length_cons]; omega
theorem dc_pure {α : Type} (f : α → D) (k : α → Key) (kd g : α → D) (b : α → Bool) {M0 : Mem} {a : Addr} {kp : Mem → Prop} {p : Pat} {tt : DT} {tk tv : DE} {env : DEnv} {Q : DK} (xs : List α) (hkd : ∀ x ∈ xs, (kd x).key = some (k x)) (ha : M0 a = none) (hk : ∀ M', Keep [] M0 M' → kp M') (hlen : xs.length ≤ sizeLine)
    (step : ∀ x ∈ xs, ∀ M' (N : D → D → Mem → Prop) (sk : Mem → Prop), Keep [] M0 M' → (b x = true → ∀ M'', Keep [] M' M'' → N (kd x) (g x) M'') → (b x = false → ∀ M'', Keep [] M' M'' → sk M'') → optE (p.bind M' (f x) env) (dcS tt tk tv N sk) M')
    (done : ∀ M', Keep [] M0 M' → M' a = some (.dk (mergeD [] ((xs.filter b).map fun x => (k x, g x)))) → Q (.ob a) M') : dDcGo kp p tt tk tv env a Q (xs.map f) [] (mupd M0 a (.dk [])) := by
  have go : ∀ (r pre : List α) (M' : Mem), xs = pre ++ r → Keep [] M0 M' → M' a = some (.dk (mergeD [] ((pre.filter b).map fun x => (k x, g x)))) → dDcGo kp p tt tk tv env a Q (r.map f) (mergeD [] ((pre.filter b).map fun x => (k x, g x))) M' := by
    intro r
    induction r with
    | nil =>
      intro pre M' e1 kk e
      rw [List.append_nil] at e1
      subst e1
      exact ⟨hk _ kk, e, done _ kk e⟩
    | cons x r ih =>
      intro pre M' e1 kk e
      refine ⟨hk _ kk, ?_⟩
      have hx : x ∈ xs := by rw [e1]; simp
      have small : (mergeD [] ((pre.filter b).map fun x => (k x, g x))).length < sizeLine := by
        have h1 := mergeD_len ((pre.filter b).map fun x => (k x, g x)) ([] : List (Key × D))
        have h2 := List.length_filter_le b pre
        have h3 : xs.length = pre.length + (r.length + 1) := by rw [e1]; simp
        simp only [List.length_map, List.length_nil] at h1
        omega
      have q := step x hx M' (fun y z M4 => ∃ k', y.key = some k' ∧ M4 a = some (.dk (mergeD [] ((pre.filter b).map fun x => (k x, g x)))) ∧ (mergeD [] ((pre.filter b).map fun x => (k x, g x))).length < sizeLine ∧ dDcGo kp p tt tk tv env a Q (r.map f) (putD (mergeD [] ((pre.filter b).map fun x => (k x, g x))) k' z) (mupd M4 a (.dk (putD (mergeD [] ((pre.filter b).map fun x => (k x, g x))) k' z))))
        (fun M2 => dDcGo kp p tt tk tv env a Q (r.map f) (mergeD [] ((pre.filter b).map fun x => (k x, g x))) M2) kk (fun hb M2 k2 => ?_) (fun hb M2 k2 => ?_)
      · unfold optE at q
        split at q
        · rename_i env1 hb
          first | exact q | (rw [hb]; exact q)
        · exact q.elim
      · have e2 : (((pre ++ [x]).filter b).map fun x => (k x, g x)) = ((pre.filter b).map fun x => (k x, g x)) ++ [(k x, g x)] := by
          rw [List.filter_append, List.map_append]
          simp [hb]
        have e3 : mergeD [] (((pre ++ [x]).filter b).map fun x => (k x, g x)) = putD (mergeD [] ((pre.filter b).map fun x => (k x, g x))) (k x) (g x) := by rw [e2, mergeD_snoc]
        refine ⟨k x, hkd x hx, k2 _ _ e (by simp), small, ?_⟩
        rw [← e3]
        exact ih (pre ++ [x]) _ (by rw [e1]; simp) (Keep.putN (kk.trans k2) ha) mupd_same
      · have e2 : (((pre ++ [x]).filter b).map fun x => (k x, g x)) = ((pre.filter b).map fun x => (k x, g x)) := by
          rw [List.filter_append, List.map_append]
          simp [hb]
        rw [← e2]
        exact ih (pre ++ [x]) _ (by rw [e1]; simp) (kk.trans k2) (by rw [e2]; exact k2 _ _ e (by simp))
  exact go xs [] _ rfl (Keep.new ha) mupd_same
end PL
namespace PL
open PySem PySem.Spec PyProof.Rows L2
theorem in_dkI {i : Int} {a : Addr} {kvs : List (Key × D)} {M : Mem} {Q : DK} (h : M a = some (.dk kvs)) : (opIn (.int i) (.ob a) M).run M Q = Q (.bl (look kvs (.inl i)).isSome) M := by
  simp [opIn, isIn, h, D.key, Res.run, mostDeep]
theorem notIn_dkI {i : Int} {a : Addr} {kvs : List (Key × D)} {M : Mem} {Q : DK} (h : M a = some (.dk kvs)) : (opNotIn (.int i) (.ob a) M).run M Q = Q (.bl (!(look kvs (.inl i)).isSome)) M := by
  simp [opNotIn, isIn, h, D.key, Res.run, mostDeep]
theorem in_dkS {x : Str} {a : Addr} {kvs : List (Key × D)} {M : Mem} {Q : DK} (h : M a = some (.dk kvs)) : (opIn (.str x) (.ob a) M).run M Q = Q (.bl (look kvs (.inr x)).isSome) M := by
  simp [opIn, isIn, h, D.key, Res.run, mostDeep]
theorem notIn_dkS {x : Str} {a : Addr} {kvs : List (Key × D)} {M : Mem} {Q : DK} (h : M a = some (.dk kvs)) : (opNotIn (.str x) (.ob a) M).run M Q = Q (.bl (!(look kvs (.inr x)).isSome)) M := by
  simp [opNotIn, isIn, h, D.key, Res.run, mostDeep]
end PL
namespace PL
open PySem PySem.Spec PyProof.Rows L2
/-! == of two lists, one of them empty -/
def eqLR (M : Mem) (x y : D) (f : Bool → Bool) : Res := match x, y with
  | .v (.ref a), .v (.ref b) => match M a, M b with
    | some (.lst xs), some (.lst ys) => .val (xs = [] ∨ ys = []) (.bl (f (decide (xs.length = ys.length))))
    | _, _ => .bad
  | _, _ => .bad
def opEqL : DOp2 := fun x y M => eqLR M x y id
def opNeL : DOp2 := fun x y M => eqLR M x y (!·)
section
variable {X : Cx}
theorem bl_eqL : ∀ x y M Q, (opEqL x y M).run M Q → (opEqL x y M).run M fun d M' => (∃ k, d = .bl k) ∧ Q d M' := fun x y M Q h => by
  unfold opEqL eqLR at h ⊢
  split at h <;> first | exact h.elim | skip
  split at h <;> first | exact h.elim | skip
  exact ⟨h.1, ⟨_, rfl⟩, h.2⟩
theorem bl_neL : ∀ x y M Q, (opNeL x y M).run M Q → (opNeL x y M).run M fun d M' => (∃ k, d = .bl k) ∧ Q d M' := fun x y M Q h => by
  unfold opNeL eqLR at h ⊢
  split at h <;> first | exact h.elim | skip
  split at h <;> first | exact h.elim | skip
  exact ⟨h.1, ⟨_, rfl⟩, h.2⟩
theorem x_eqL (hu : X.A.units + 200 < cLine) : XOp X (compareOp .Eq) opEqL := by
  rintro pins s σ H x y v u Q I rx ry ⟨dx, dy, M, r1, r2, sm, h⟩
  unfold opEqL eqLR at h
  split at h <;> first | exact h.elim | skip
  split at h <;> first | exact h.elim | skip
  rename_i a b _ _ xs ys hm1 hm2
  rw [rep_v r1] at rx
  rw [rep_v r2] at ry
  obtain rfl : v = Value.ref _ := rx
  obtain rfl : u = Value.ref _ := ry
  obtain ⟨us, ea, la⟩ := sm.seq (.inl hm1)
  obtain ⟨ws, eb, lb⟩ := sm.seq (.inl hm2)
  obtain ⟨i1, v1, p1, z1⟩ := I.list ea
  obtain ⟨i2, v2, p2, z2⟩ := I.list eb
  have l1 : i1.toArray.size = xs.length := by rw [List.size_toArray, ← v1.length, la.length]
  have l2 : i2.toArray.size = ys.length := by rw [List.size_toArray, ← v2.length, lb.length]
  by_cases e : xs.length = ys.length
  · have n1 : xs.length = 0 := by rcases h.1 with z | z <;> simp [z] at e <;> simp_all
    have q := h.2
    rw [decide_eq_true e] at q
    refine SeqAt.RcAt.lists (e := fun _ => true) p1.isList p2.isList (by rw [l1, l2, e]) (by omega) (fun j h1 _ => by rw [l1, n1] at h1; omega) X.prog X.w _ _ ?_
    rw [l1, n1]
    exact ⟨.bl true, H, I, rfl, fin_val q sm⟩
  · have q := h.2
    rw [decide_eq_false e] at q
    exact SeqAt.RcAt.lists_lengths p1.isList p2.isList (by rw [l1, l2]; simpa using e) (by omega) X.prog X.w _ _ ⟨.bl false, H, I, rfl, fin_val q sm⟩
theorem x_neL (hu : X.A.units + 200 < cLine) : XOp X (compareOp .NotEq) opNeL := by
  rintro pins s σ H x y v u Q I rx ry ⟨dx, dy, M, r1, r2, sm, h⟩
  unfold opNeL eqLR at h
  split at h <;> first | exact h.elim | skip
  split at h <;> first | exact h.elim | skip
  rename_i a b _ _ xs ys hm1 hm2
  rw [rep_v r1] at rx
  rw [rep_v r2] at ry
  obtain rfl : v = Value.ref _ := rx
  obtain rfl : u = Value.ref _ := ry
  obtain ⟨us, ea, la⟩ := sm.seq (.inl hm1)
  obtain ⟨ws, eb, lb⟩ := sm.seq (.inl hm2)
  obtain ⟨i1, v1, p1, z1⟩ := I.list ea
  obtain ⟨i2, v2, p2, z2⟩ := I.list eb
  have l1 : i1.toArray.size = xs.length := by rw [List.size_toArray, ← v1.length, la.length]
  have l2 : i2.toArray.size = ys.length := by rw [List.size_toArray, ← v2.length, lb.length]
  by_cases e : xs.length = ys.length
  · have n1 : xs.length = 0 := by rcases h.1 with z | z <;> simp [z] at e <;> simp_all
    have q := h.2
    rw [decide_eq_true e] at q
    refine SeqAt.RcNeAt.lists (e := fun _ => true) p1.isList p2.isList (by rw [l1, l2, e]) (by omega) (fun j h1 _ => by rw [l1, n1] at h1; omega) X.prog X.w _ _ ?_
    rw [l1, n1]
    exact ⟨.bl false, H, I, rfl, fin_val q sm⟩
  · have q := h.2
    rw [decide_eq_false e] at q
    exact SeqAt.RcNeAt.lists_lengths p1.isList p2.isList (by rw [l1, l2]; simpa using e) (by omega) X.prog X.w _ _ ⟨.bl true, H, I, rfl, fin_val q sm⟩
end
end PL

set_option maxHeartbeats 4000000
namespace PL
open PySem PySem.Spec PyProof.Rows L2
/-! sorted(d.items()), keys and values ints -/
abbrev entI (p : Int × Int) : Key × V := (Sum.inl p.1, V.int p.2)
def tSortIt (te : TE) : TE := fun σ H Q => te σ H fun x H1 => ∃ (a : Addr) (ms : List (Int × Int)), x = .ref a ∧ Rd H1 a (.dK (ms.map entI)) ∧ ∀ (H' : Hp) (l : Addr) (ps : List (Addr × Int × Int)), (∀ b o, H1 b = some o → H' b = some o) → H1 l = none → (ps.map (·.2)).Perm ms → (ps.map (·.2)).Pairwise (fun p q => p.1 ≤ q.1) →
  H' l = some (.lst (ps.map fun z => V.ref z.1)) → (∀ z ∈ ps, H' z.1 = some (.tup [.int z.2.1, .int z.2.2])) → Q (.ref l) H'
def backA : Value → Addr
  | .ref a => a
  | _ => 0
def kAt (as : List Addr) (ms : List (Int × Int)) (v : Value) : Int × Int := ((as.zip ms).lookup (backA v)).getD (0, 0)
theorem lookup_zip {β : Type} : ∀ {as : List Addr} {ms : List β} {j : Nat} {b : Addr} {m : β}, as.Nodup → as[j]? = some b → ms[j]? = some m → (as.zip ms).lookup b = some m
  | [], _, _, _, _, _, h, _ => by simp at h
  | _ :: _, [], _, _, _, _, _, h => by simp at h
  | a :: as, m :: ms, 0, b, m', nd, h1, h2 => by
    simp only [List.getElem?_cons_zero, Option.some.injEq] at h1 h2
    subst h1 h2
    simp
  | a :: as, m :: ms, j + 1, b, m', nd, h1, h2 => by
    simp only [List.getElem?_cons_succ] at h1 h2
    rw [List.nodup_cons] at nd
    have ne : b ≠ a := fun z => nd.1 (z ▸ List.mem_of_getElem? h1)
    rw [List.zip_cons_cons, List.lookup_cons]
    have : (b == a) = false := by simpa using ne
    rw [this]
    exact lookup_zip nd.2 h1 h2
section
variable {X : Cx} {e : Expr} {te : TE} {p apos cpos pos : Pos}
theorem pe_sortIt (hc : X.calm = true) (he : PE X e te) (hg : Gl X "sorted") (hm : X.mg "sorted" = none) (hv : bootBuiltins "sorted" = some (.builtin "sorted")) (hbase : attributeBase e "items" X.env (eval e X.env) = eval e X.env := by rfl) (hline : (apos.endLine == cpos.line) = true := by rfl)
    (hs : starEach [.Call (.Attribute e "items" apos) [] [] cpos] X.env = (false, eval (.Call (.Attribute e "items" apos) [] [] cpos) X.env) :: starEach [] X.env := by rfl) :
    PE X (.Call (.Name "sorted" p) [.Call (.Attribute e "items" apos) [] [] cpos] [] pos) (tSortIt te) := by
  refine ⟨fun pins s σ H Q I hq => ?_⟩
  refine wpAny_Call_Name_kw (ld_blt I hg hm hv ?_)
  refine PyProof.Rows.callWith_builtin1 ?_ hs rfl
  rw [hs]
  show wpAny _ _ (spliced ((false, eval (.Call (.Attribute e "items" apos) [] [] cpos) X.env) :: backTo pos (starEach [] X.env))) _ _ s
  refine Calls.spliced_cons ?_
  refine wpAny_Call_method (T := "dict") (id := "dict.items") hbase rfl hline F.plainAttrs_dict F.slot_dict_items F.type_dict_items (thn (he.run pins s σ H _ I hq) fun u s1 ⟨x, H1, I1, rx, d, ms, ex, hd, q⟩ => ?_)
  subst ex
  obtain rfl : u = Value.ref d := rx
  obtain ⟨hz, hs0, vs, kv, hdo⟩ := dk_rd I1.hok hd
  have lk : (ms.map entI).length = vs.length := Paired.length kv
  refine ⟨hdo.typeIs, hdo.mapOf.noDict, ?_⟩
  show wpAny _ _ (callWith cpos (.builtin "dict.items") [.ref d] [] []) _ X.xe s1
  refine method_meetsIn F.slot_dict_items F.entry_dict_items rfl (PySem.evalArgs_none ⟨rfl, hdo.typeIs, F.args_dict_items_1 _, _, meets_dict_items (mixKind X.prog X.w) d hs0, ⟨vs, hdo⟩, ?_⟩)
  refine Calls.spliced_nil ?_
  obtain ⟨es, ep, raw, hsz, hent⟩ := hdo.raw
  have hh : X.A.handled = none := I1.ok.hd hc
  have I2 : Inv X pins σ H1 { s1 with heap := s1.heap.push { cls := .type "dict_items", data := .fields #[.ref d] } } := I1.kept (t' := s1.toks) fun b ob q => Heap.get?_push_of_some _ q
  have view : (s1.heap.push { cls := .type "dict_items", data := .fields #[.ref d] }).IsItemsView s1.heap.objs.size d := ⟨_, Heap.get?_push_size _ rfl, rfl, rfl⟩
  refine DT.sortedI (s := { s1 with heap := s1.heap.push { cls := .type "dict_items", data := .fields #[.ref d] } }) (es := es) (ep := ep) hh view (raw.at fun o e => Heap.get?_push_of_some _ e) (by omega) fun h' tk as hk hlt hl hG => ?_
  have lak : as.length = ms.length := by rw [hl, hsz, ← lk, List.length_map]
  have nd : as.Nodup := List.Pairwise.imp (fun h => Nat.ne_of_lt h) hG.rise
  have hmz : ms.length ≤ sizeLine := by rw [List.length_map] at hz; exact hz
  have kb : ∀ b o, s1.heap.get? b = some o → h'.get? b = some o := fun b o e => hk b o (Heap.get?_push_of_some _ e)
  have low : s1.heap.objs.size < h'.objs.size := by
    have : (s1.heap.push { cls := .type "dict_items", data := .fields #[.ref d] }).objs.size = s1.heap.objs.size + 1 := Heap.size_push _ _
    have h3 : (s1.heap.push { cls := .type "dict_items", data := .fields #[.ref d] }).objs.size < h'.objs.size := hlt
    omega
  -- the pairs
  have pr : ∀ (j : Nat) (b : Addr), as[j]? = some b → ∃ (m : Int × Int) (t t' : Tok), ms[j]? = some m ∧ h'.get? b = some { cls := .type "tuple", data := .seq #[Value.int m.1 t, Value.int m.2 t'] } := by
    intro j b hj
    obtain ⟨en, he, hg⟩ := hG.pairs j b hj
    have hj2 : j < as.length := (List.getElem?_eq_some_iff.mp hj).1
    have hjm : j < ms.length := by omega
    obtain ⟨v, hv', f1, f2⟩ := L2.paired_get kv (i := j) (a := entI ms[j]) (by simp [hjm])
    obtain ⟨k1, k2⟩ := hent j (by omega) v.1 v.2 hv'
    have he2 : es[j]'(by omega) = en := by
      have : es[j]? = some en := he
      rw [Array.getElem?_eq_getElem (by omega)] at this
      exact Option.some.inj this
    rw [he2] at k1 k2
    rw [← f1] at k1
    obtain ⟨t, ht⟩ := relV_key (k := Sum.inl ms[j].1) (show keyIs (Sum.inl ms[j].1) en.key = true from k1)
    obtain ⟨t', ht'⟩ : ∃ t', v.2 = Value.int ms[j].2 t' := f2
    refine ⟨ms[j], t, t', by simp [hjm], ?_⟩
    rw [hg, ht, k2, ht']
  have hkey : ∀ (j : Nat) (b : Addr) (m : Int × Int), as[j]? = some b → ms[j]? = some m → kAt as ms (.ref b) = m := fun j b m h1 h2 => by
    unfold kAt backA
    rw [lookup_zip nd h1 h2]
    rfl
  have hob : (h'.push { cls := .type "list", data := .seq (as.map Value.ref).toArray }).get? h'.objs.size = some (seqObj "list" (as.map Value.ref).toArray 0) := Heap.get?_push_size _ rfl
  have ne0 : ∀ b o, h'.get? b = some o → b ≠ h'.objs.size := fun b o e => Nat.ne_of_lt (Heap.lt_size e)
  generalize hh2 : h'.push { cls := .type "list", data := .seq (as.map Value.ref).toArray } = h2 at hob ⊢
  have ka : ∀ b o, h'.get? b = some o → h2.get? b = some o := fun b o e => by rw [← hh2]; exact Heap.get?_push_of_some _ e
  have vat : ∀ v ∈ as.map Value.ref, ∃ (j : Nat) (b : Addr), v = .ref b ∧ as[j]? = some b := fun v hv' => by
    obtain ⟨b, hb, rfl⟩ := List.mem_map.mp hv'
    obtain ⟨j, hj⟩ := List.mem_iff_getElem?.mp hb
    exact ⟨j, b, rfl, hj⟩
  have vz : (as.map Value.ref).length ≤ sizeLine := by rw [List.length_map, lak]; exact hmz
  have sortable : 2 ≤ (as.map Value.ref).length → SrtO.SortableO X.prog X.w X.A.in1.in1 { s1 with heap := h2, toks := tk } h'.objs.size (as.map Value.ref) (fun v u => SrtO.lexB (kAt as ms v) (kAt as ms u)) := fun h2' => by
    refine SrtO.pairs_sortableO (by omega) (fun v hv' => ?_) fun o e => ?_
    · obtain ⟨j, b, rfl, hj⟩ := vat v hv'
      obtain ⟨m, t, t', hm', hg⟩ := pr j b hj
      rw [hkey j b m hj hm']
      exact ⟨b, _, t, t', 0, rfl, ka _ _ hg, rfl, rfl⟩
    · have e' : some o = some (seqObj "list" (as.map Value.ref).toArray 0) := e.symm.trans hob
      cases e'
      intro c
      exact absurd (Value.type.inj c) (by decide)
  refine wpAny_call_entry PyProof.Rows.slot_list_sort ⟨_, hob, rfl⟩ PyProof.Rows.entry_list_sort ?_ (PyProof.Rows.args_list_sort _)
  refine SrtO.list_sort_ord (s := { s1 with heap := h2, toks := tk }) (SrtO.swo_lex (kAt as ms)) hob vz sortable fun out o1 o2 => ?_
  refine ⟨.none, rfl, ?_⟩
  · obtain ⟨zs, pz, ez⟩ := perm_lift (fun z : Addr × Int × Int => Value.ref z.1) o2.perm (as.zip ms) (by
      rw [show (fun z : Addr × Int × Int => Value.ref z.1) = Value.ref ∘ Prod.fst from rfl, ← List.map_map, List.map_fst_zip (by omega)])
    subst ez
    have idx : ∀ z ∈ zs, ∃ j : Nat, as[j]? = some z.1 ∧ ms[j]? = some z.2 := by
      intro z' hz'
      obtain ⟨j, hj⟩ := List.mem_iff_getElem?.mp (pz.mem_iff.mp hz')
      exact ⟨j, List.getElem?_zip_eq_some.mp hj⟩
    have hperm : (zs.map (·.2)).Perm ms := by
      have e := pz.map (·.2)
      rw [show (as.zip ms).map (·.2) = ms from List.map_snd_zip (by omega)] at e
      exact e
    have hsort : (zs.map (·.2)).Pairwise (fun p q => p.1 ≤ q.1) := by
      have o1 : (zs.map fun z => Value.ref z.1).Pairwise fun x y => SrtO.lexB (kAt as ms y) (kAt as ms x) = false := o1
      rw [List.pairwise_map] at o1 ⊢
      refine List.Pairwise.imp_of_mem (fun {x y} hx hy h => ?_) o1
      obtain ⟨j, j1, j2⟩ := idx x hx
      obtain ⟨i, i1, i2⟩ := idx y hy
      have h := SrtO.lexB_no.mp h
      rw [hkey j _ _ j1 j2, hkey i _ _ i1 i2] at h
      omega
    show EP X pins σ Q (.ref h'.objs.size) { s1 with heap := sortedHeap h2 h'.objs.size (as.map Value.ref) (zs.map fun z => Value.ref z.1).toArray, toks := tk }
    have kF : ∀ b o, b ≠ h'.objs.size → h2.get? b = some o → (sortedHeap h2 h'.objs.size (as.map Value.ref) (zs.map fun z => Value.ref z.1).toArray).get? b = some o := fun b o hb e => (PyProof.Rows.sortedHeap_old hb (Heap.lt_size e)).trans e
    have kS : ∀ b o, s1.heap.get? b = some o → (sortedHeap h2 h'.objs.size (as.map Value.ref) (zs.map fun z => Value.ref z.1).toArray).get? b = some o := fun b o e => kF b o (ne0 _ _ (kb b o e)) (ka _ _ (kb b o e))
    obtain ⟨eF, heF⟩ := PyProof.Rows.sortedHeap_at (vs := as.map Value.ref) (out := (zs.map fun z => Value.ref z.1).toArray) hob
    generalize sortedHeap h2 h'.objs.size (as.map Value.ref) (zs.map fun z => Value.ref z.1).toArray = hF at kF kS heF ⊢
    have I3 : Inv X pins σ H1 { s1 with heap := hF, toks := tk } := I1.kept (t' := tk) kS
    have hn0 : H1 h'.objs.size = none := I1.hok.fresh (Nat.le_of_lt low)
    have hlen : (zs.map fun z => V.ref z.1).length ≤ sizeLine := by
      have e := hperm.length_eq
      rw [List.length_map] at e
      rw [List.length_map]
      omega
    have rv : Vals (zs.map fun z => V.ref z.1) (zs.map fun z => Value.ref z.1) := vals_maps (fun z : Addr × Int × Int => V.ref z.1) (fun z => Value.ref z.1) zs fun _ _ => rfl
    have I4 : Inv X pins σ (upd H1 h'.objs.size (.lst (zs.map fun z => V.ref z.1))) { s1 with heap := hF, toks := tk } :=
      I3.take (h' := hF) (t' := tk) (fun b ob _ e => e) (I1.fpOk (Nat.le_of_lt low) hn0) (show ObjOk X.prog X.w _ _ _ (.lst (zs.map fun z => V.ref z.1)) from ⟨hlen, zs.map (fun z => Value.ref z.1), eF, rv, heF⟩)
    obtain ⟨H2, I5, g, qt⟩ := L2.DX.takeT (P := fun b vs => ∃ (j : Nat) (m : Int × Int), as[j]? = some b ∧ ms[j]? = some m ∧ vs = [.int m.1, .int m.2]) I1 as _ I4 nd fun b hb => by
      obtain ⟨j, hj⟩ := List.mem_iff_getElem?.mp hb
      obtain ⟨m, t, t', hm', hg⟩ := pr j b hj
      have hbl : s1.heap.objs.size ≤ b := by
        have hG := hG.above b hb
        have e : (s1.heap.push { cls := .type "dict_items", data := .fields #[.ref d] }).objs.size = s1.heap.objs.size + 1 := Heap.size_push _ _
        have h3 : (s1.heap.push { cls := .type "dict_items", data := .fields #[.ref d] }).objs.size < b := hG
        omega
      refine ⟨hbl, ?_, [.int m.1, .int m.2], ⟨j, m, hj, hm', rfl⟩, fun H3 => ⟨(by rw [sizeLine_eq]; show 2 ≤ 16777216; omega), [Value.int m.1 t, Value.int m.2 t'], .cons ⟨t, rfl⟩ (.cons ⟨t', rfl⟩ .nil), ⟨_, kF _ _ (ne0 _ _ hg) (ka _ _ hg), rfl, 0, rfl⟩⟩⟩
      rw [upd_ne (ne0 _ _ hg)]
      exact I1.hok.fresh hbl
    have gr : ∀ b o, H1 b = some o → H2 b = some o := fun b o e => g b o (by rw [upd_ne (ne_of_none e hn0)]; exact e)
    refine ⟨.ref h'.objs.size, H2, I5, rfl, q H2 h'.objs.size zs gr hn0 hperm hsort (g _ _ upd_same) fun z' hz' => ?_⟩
    obtain ⟨i, i1, i2⟩ := idx z' hz'
    obtain ⟨vs', ⟨j, m, j1, j2, ev⟩, hH⟩ := qt z'.1 (List.mem_of_getElem? i1)
    have eij : i = j := (List.getElem?_inj (List.getElem?_eq_some_iff.mp i1).1 nd).mp (i1.trans j1.symm)
    subst eij
    have ee : m = z'.2 := Option.some.inj (j2.symm.trans i2)
    rw [ev, ee] at hH
    exact hH
end
/-! .. as a reading -/
abbrev pairI (p : Int × Int) : D := .tup [.int p.1, .int p.2]
abbrev entD (p : Int × Int) : Key × D := (Sum.inl p.1, D.int p.2)
def sortItK (Q : DK) : DK := fun d M => ∃ (a : Addr) (ms : List (Int × Int)), d = .ob a ∧ dkAt M a (ms.map entD) ∧ ∀ (ys : List (Int × Int)) l, ys.Perm ms → ys.Pairwise (fun p q => p.1 ≤ q.1) → M l = none → Q (.ob l) (mupd M l (.lst (ys.map pairI)))
def dSortIt (te : DE) : DE := fun env M Q E => te env M (sortItK Q) E
theorem s_sortIt {te env M Q E} : dSortIt te env M Q E = te env M (sortItK Q) E := id rfl
theorem RepKV.ofI {K : PySem.W.Frag} {H : Hp} : ∀ {ms : List (Int × Int)} {us : List (Key × V)}, RepKV K H (ms.map entD) us → us = ms.map entI
  | [], _, h => by unfold RepKV at h; exact h
  | m :: ms, _, h => by
    obtain ⟨u, t, rfl, q, z⟩ := h
    rw [RepKV.ofI z, rep_v q]
    rfl
section
variable {X : Cx} {W : WX} {e : Expr} {te : DE} {p apos cpos pos : Pos}
theorem xe_sortIt (hc : X.calm = true) (he : XE X W e te) (hg : Gl X "sorted") (hm : X.mg "sorted" = none) (hv : bootBuiltins "sorted" = some (.builtin "sorted")) (hbase : attributeBase e "items" X.env (eval e X.env) = eval e X.env := by rfl) (hline : (apos.endLine == cpos.line) = true := by rfl)
    (hs : starEach [.Call (.Attribute e "items" apos) [] [] cpos] X.env = (false, eval (.Call (.Attribute e "items" apos) [] [] cpos) X.env) :: starEach [] X.env := by rfl) :
    XE X W (.Call (.Name "sorted" p) [.Call (.Attribute e "items" apos) [] [] cpos] [] pos) (dSortIt te) := by
  refine ⟨fun env M Q Q' E E' hQ hE => he.mono _ _ _ _ _ _ (fun d M1 ⟨a, ms, h1, h2, h⟩ => ⟨a, ms, h1, h2, fun ys l z1 z2 z3 => hQ _ _ (h ys l z1 z2 z3)⟩) hE, PEw (pe_sortIt hc he.pe hg hm hv hbase hline hs) ?_⟩
  rintro σ H Q ⟨env, M, re, sm, h⟩
  refine stepE he.mono re sm h (fun d M1 u H1 e1 s1 re1 r1 q => ?_) fun _ _ _ z => z
  obtain ⟨a, ms, rfl, hd, q⟩ := q
  obtain ⟨us, q1, l1⟩ := hd.rep s1
  rw [l1.ofI] at q1
  refine ⟨a, ms, rep_v r1, q1, fun H' l ps gr hl hp hso hL hz => ?_⟩
  have ex : Ext X.K H1 H' := ⟨fun b xs g => by
    rcases g with (g | ⟨ob, g⟩) | g
    · exact .inl (.inl (gr _ _ g))
    · exact .inl (.inr ⟨ob, gr _ _ g⟩)
    · exact .inr g, fun b o v g => gr _ _ g⟩
  refine q (ps.map (·.2)) l hp hso (s1.free hl) _ H' (e1.trans ex) (fun b ob g => ?_) rep_of
  by_cases hb : b = l
  · subst hb
    rw [mupd_same] at g
    cases g
    refine ⟨_, hL, ?_⟩
    clear hL hp hso
    induction ps with
    | nil => exact .nil
    | cons z ps ih =>
      refine .cons ?_ (ih fun z' h' => hz z' (List.mem_cons_of_mem _ h'))
      unfold RepD
      exact ⟨z.1, _, rfl, SqT.of (hz z (List.mem_cons_self)), .cons rep_of (.cons rep_of .nil)⟩
  · rw [mupd_ne hb] at g
    obtain ⟨x, hx⟩ := (s1 b ob g).there
    exact (s1 b ob g).mono ex (by rw [gr _ _ hx, hx])
end
end PL

namespace PL
open PySem PySem.Spec PyProof.Rows L2
/-! instances: their attributes, their methods, how they are made -/
def putFD (fs : List (Str × D)) (f : Str) (d : D) : List (Str × D) := match fs with
  | [] => [(f, d)]
  | (g, x) :: r => if g = f then (g, d) :: r else (g, x) :: putFD r f d
theorem RepKV.putF {K : PySem.W.Frag} {H : Hp} {f : Str} {d : D} {u : V} (q : RepD K H d u) : ∀ {fs : List (Str × D)} {us : List (Str × V)}, RepKV K H fs us → RepKV K H (putFD fs f d) (L2.putF f u us)
  | [], us, h => by
    unfold RepKV at h
    subst h
    exact ⟨u, [], rfl, q, rfl⟩
  | (g, x) :: r, us, h => by
    obtain ⟨y, t, rfl, q2, z⟩ := h
    unfold putFD L2.putF
    split
    · exact ⟨u, t, rfl, q, z⟩
    · exact ⟨y, _, rfl, q2, RepKV.putF q z⟩
theorem RepKV.lookup {K : PySem.W.Frag} {H : Hp} (f : Str) : ∀ {fs : List (Str × D)} {us : List (Str × V)}, RepKV K H fs us → match PL.look fs f, us.lookup f with | some d, some u => RepD K H d u | none, none => True | _, _ => False
  | [], us, h => by
    unfold RepKV at h
    subst h
    simp [PL.look]
  | (g, x) :: r, us, h => by
    obtain ⟨y, t, rfl, q2, z⟩ := h
    have ih := RepKV.lookup f z
    by_cases e : g = f
    · subst e
      simpa [PL.look, List.lookup_cons] using q2
    · have e2 : (f == g) = false := by simpa using fun z => e z.symm
      simpa [PL.look, List.lookup_cons, e, e2] using ih
theorem RepKV.lookup_some {K : PySem.W.Frag} {H : Hp} {f : Str} {fs : List (Str × D)} {us : List (Str × V)} {d : D} (h : RepKV K H fs us) (e : PL.look fs f = some d) : ∃ u, us.lookup f = some u ∧ RepD K H d u := by
  have q := h.lookup f
  rw [e] at q
  cases g : us.lookup f with
  | none => rw [g] at q; exact q.elim
  | some u => rw [g] at q; exact ⟨u, rfl, q⟩
theorem RepKV.lookup_none {K : PySem.W.Frag} {H : Hp} {f : Str} {fs : List (Str × D)} {us : List (Str × V)} (h : RepKV K H fs us) (e : PL.look fs f = none) : us.lookup f = none := by
  have q := h.lookup f
  rw [e] at q
  cases g : us.lookup f with
  | none => rfl
  | some u => rw [g] at q; exact q.elim
/-- what an instance of the class at C holds -/
def insAt (C : Addr) (o : Option Ob) (f : List (Str × D) → Prop) : Prop := match o with
  | some (.ins C' fs) => C' = C ∧ f fs
  | _ => False
def optD (o : Option D) (f : D → Prop) : Prop := match o with
  | some d => f d
  | none => False
theorem s_insAt {C C' : Addr} {fs : List (Str × D)} {f : List (Str × D) → Prop} : insAt C (some (.ins C' fs)) f = (C' = C ∧ f fs) := id rfl
theorem s_optD {d : D} {f : D → Prop} : optD (some d) f = f d := id rfl
theorem insAt_mono {C : Addr} {o : Option Ob} {f g : List (Str × D) → Prop} (h : ∀ fs, f fs → g fs) : insAt C o f → insAt C o g := by
  unfold insAt
  split
  · exact fun ⟨a, b⟩ => ⟨a, h _ b⟩
  · exact id
theorem optD_mono {o : Option D} {f g : D → Prop} (h : ∀ d, f d → g d) : optD o f → optD o g := by
  unfold optD
  split
  · exact h _
  · exact id
def obAt (d : D) (f : Addr → Prop) : Prop := match d with
  | .v (.ref a) => f a
  | _ => False
theorem s_obAt {a : Addr} {f : Addr → Prop} : obAt (.ob a) f = f a := id rfl
theorem obAt_mono {d : D} {f g : Addr → Prop} (h : ∀ a, f a → g a) : obAt d f → obAt d g := by
  unfold obAt
  split
  · exact h _
  · exact id
/-- e.f -/
def fldK (C : Addr) (f : Str) (Q : DK) : DK := fun d M => obAt d fun a => insAt C (M a) fun fs => optD (look fs f) fun x => Q x M
def dFld (C : Addr) (f : Str) (te : DE) : DE := fun env M Q E => te env M (fldK C f Q) E
/-- o.f = e -/
def fputK2 (C : Addr) (f : Str) (z : D) (Z : DEnds) (env : DEnv) : DK := fun d M => obAt d fun a => insAt C (M a) fun fs => fs.length < 1000 ∧ Z.nx env (mupd M a (.ins C (putFD fs f z)))
def fputK1 (C : Addr) (f : Str) (to : DE) (Z : DEnds) (env : DEnv) : DK := fun z M => to env M (fputK2 C f z Z env) (exK Z env)
def dFPut (C : Addr) (f : Str) (te to : DE) : DS := fun Z env M => te env M (fputK1 C f to Z env) (exK Z env)
/-- o.f op= e -/
def faugK3 (C : Addr) (f : Str) (a : Addr) (Z : DEnds) (env : DEnv) : DK := fun z M => insAt C (M a) fun fs => fs.length < 1000 ∧ Z.nx env (mupd M a (.ins C (putFD fs f z)))
def faugK2 (C : Addr) (f : Str) (r : DOp2) (a : Addr) (x : D) (Z : DEnds) (env : DEnv) : DK := fun y M => (r x y M).run M (faugK3 C f a Z env)
def faugK1 (C : Addr) (f : Str) (r : DOp2) (te : DE) (Z : DEnds) (env : DEnv) : DK := fun d M => obAt d fun a => insAt C (M a) fun fs => optD (look fs f) fun x => te env M (faugK2 C f r a x Z env) (exK Z env)
def dFAug (C : Addr) (f : Str) (r : DOp2) (to te : DE) : DS := fun Z env M => to env M (faugK1 C f r te Z env) (exK Z env)
/-- o.m(..); dvs: the defaults behind -/
def methK2 (sp : DSp) (dvs : List D) (a : Addr) (Q : DK) (E : DX) : List D → Mem → Prop := fun ds M => sp (.ob a :: (ds ++ dvs)) M Q E
def methK1 (C : Addr) (m : Str) (sp : DSp) (dvs : List D) (t : DA) (env : DEnv) (Q : DK) (E : DX) : DK := fun d M => obAt d fun a => insAt C (M a) fun fs => look fs m = none ∧ t env M (methK2 sp dvs a Q E) E
def dMeth (C : Addr) (m : Str) (sp : DSp) (dvs : List D) (to : DE) (t : DA) : DE := fun env M Q E => to env M (methK1 C m sp dvs t env Q E) E
/-- C(..) -/
def makeK2 (x : Addr) (Q : DK) : DK := fun d M => d = .non ∧ Q (.ob x) M
def makeK (C : Addr) (sp : DSp) (Q : DK) : List D → Mem → Prop := fun ds M => ∀ x, M x = none → sp (.ob x :: ds) (mupd M x (.ins C [])) (makeK2 x Q) noX
def dMake (C : Addr) (sp : DSp) (t : DA) : DE := fun env M Q E => t env M (makeK C sp Q) E
section
variable {env : DEnv} {M : Mem} {Q : DK} {E : DX} {Z : DEnds} {C a x : Addr} {f m : Str} {d z y : D} {te to : DE} {t : DA} {sp : DSp} {r : DOp2} {ds : List D}
theorem s_fld : dFld C f te env M Q E = te env M (fldK C f Q) E := id rfl
theorem s_fldK : fldK C f Q d M = obAt d fun a => insAt C (M a) fun fs => optD (look fs f) fun x => Q x M := id rfl
theorem s_fput : dFPut C f te to Z env M = te env M (fputK1 C f to Z env) (exK Z env) := id rfl
theorem s_fputK1 : fputK1 C f to Z env z M = to env M (fputK2 C f z Z env) (exK Z env) := id rfl
theorem s_fputK2 : fputK2 C f z Z env d M = obAt d fun a => insAt C (M a) fun fs => fs.length < 1000 ∧ Z.nx env (mupd M a (.ins C (putFD fs f z))) := id rfl
theorem s_faug : dFAug C f r to te Z env M = to env M (faugK1 C f r te Z env) (exK Z env) := id rfl
theorem s_faugK1 : faugK1 C f r te Z env d M = obAt d fun a => insAt C (M a) fun fs => optD (look fs f) fun x => te env M (faugK2 C f r a x Z env) (exK Z env) := id rfl
theorem s_faugK2 : faugK2 C f r a z Z env y M = (r z y M).run M (faugK3 C f a Z env) := id rfl
theorem s_faugK3 : faugK3 C f a Z env z M = insAt C (M a) fun fs => fs.length < 1000 ∧ Z.nx env (mupd M a (.ins C (putFD fs f z))) := id rfl
theorem s_meth {dvs : List D} : dMeth C m sp dvs to t env M Q E = to env M (methK1 C m sp dvs t env Q E) E := id rfl
theorem s_methK1 {dvs : List D} : methK1 C m sp dvs t env Q E d M = obAt d fun a => insAt C (M a) fun fs => look fs m = none ∧ t env M (methK2 sp dvs a Q E) E := id rfl
theorem s_methK2 {dvs : List D} : methK2 sp dvs a Q E ds M = sp (.ob a :: (ds ++ dvs)) M Q E := id rfl
theorem s_make : dMake C sp t env M Q E = t env M (makeK C sp Q) E := id rfl
theorem s_makeK : makeK C sp Q ds M = ∀ x, M x = none → sp (.ob x :: ds) (mupd M x (.ins C [])) (makeK2 x Q) noX := id rfl
theorem s_makeK2 : makeK2 x Q d M = (d = .non ∧ Q (.ob x) M) := id rfl
end
/-- what the top has written of a class and its attributes -/
structure ICls (K : PySem.W.Frag) (C : Addr) (fs : List Str) : Prop where
  c : Cls K C
  no : ∀ f ∈ fs, NoAttr K C f
/-- a method -/
structure MFn (P : Program) (w : World) (K : PySem.W.Frag) (mg : Str → Option Value) (base : Heap) (k : Nat) (C : Addr) (m : Str) (sp : DSp) (dvs : List D) : Prop where
  mono : MonoSp sp
  ex : ∃ (f : Addr) (fd : FuncData) (ps : List Str) (ds : List Value) (vds : List V), FnOk P w K mg base (L2.CX P w) k f fd ps (liftSp K sp) ∧ Meth K C m f ∧ Binds K fd ps ds ∧ Vals vds ds ∧ ∀ H, RepL K H dvs vds
theorem MFn.up {P : Program} {w : World} {K : PySem.W.Frag} {mg : Str → Option Value} {base : Heap} {j k : Nat} {C : Addr} {m : Str} {sp : DSp} {dvs : List D} (F : MFn P w K mg base j C m sp dvs) (h : j ≤ k) : MFn P w K mg base k C m sp dvs := by
  obtain ⟨mo, f, fd, ps, ds, vds, F, r⟩ := F
  exact ⟨mo, f, fd, ps, ds, vds, F.mono h, r⟩
/-- a class that is made -/
structure KFn (P : Program) (w : World) (K : PySem.W.Frag) (mg : Str → Option Value) (base : Heap) (k : Nat) (x : Str) (C : Addr) (sp : DSp) : Prop where
  mono : MonoSp sp
  at_ : mg x = some (.ref C)
  ex : ∃ (f : Addr) (fd : FuncData) (ps : List Str), FnOk P w K mg base (L2.CX P w) k f fd ps (liftSp K sp) ∧ Mk K C f ∧ Binds K fd ps []
section
variable {X : Cx} {W : WX} {C : Addr} {f m x : Str} {o e value : Expr} {es : List Expr} {te to : DE} {t : DA} {sp : DSp} {pos pos' apos tpos p : Pos} {k : Nat} {fs : List Str}
theorem xe_fld (T : ICls X.K C fs) (he : XE X W e te) (hf : f ∈ fs := by simp) (hb : attributeBase e f X.env (eval e X.env) = eval e X.env := by rfl) : XE X W (.Attribute e f pos) (dFld C f te) := by
  refine ⟨fun env M Q Q' E E' hQ hE => he.mono _ _ _ _ _ _ (fun d M1 => obAt_mono fun a => insAt_mono fun fs => optD_mono fun x => hQ _ _) hE, PEw (pe_fld he.pe hb) ?_⟩
  rintro σ H Q ⟨env, M, re, s, h⟩
  refine stepE he.mono re s h (fun d M1 u H1 e1 s1 re1 r1 q => ?_) fun _ _ _ z => z
  unfold fldK obAt at q
  split at q <;> first | exact q.elim | skip
  unfold insAt at q
  split at q <;> first | exact q.elim | skip
  obtain ⟨rfl, q⟩ := q
  rename_i a _ C fs' hm
  unfold optD at q
  split at q <;> first | exact q.elim | skip
  rename_i v hv
  obtain ⟨dx, us, e2, l⟩ := s1 _ _ hm
  obtain ⟨w, hw, rw'⟩ := l.lookup_some hv
  exact ⟨a, C, dx, us, w, rep_v r1, e2, T.c, T.no f hf, hw, q w H1 e1 s1 rw'⟩
theorem repO_ins {K : PySem.W.Frag} {H : Hp} {a dx : Addr} {fs : List (Str × D)} {us : List (Str × V)} (ex : Ext K H (upd H a (.ins C dx us))) (l : RepKV K H fs us) : RepO K (upd H a (.ins C dx us)) a (.ins C fs) := ⟨dx, us, upd_same, RepKV.mono ex l⟩
theorem xs_fput (T : ICls X.K C fs) (he : XE X W value te) (ho : XE X W o to) (hf : f ∈ fs := by simp) (hs : swapsWith value (some (.Attribute o f pos')) pos.line X.env = pure false := by rfl) : XS X W (.Assign [.Attribute o f pos'] value pos) (dFPut C f te to) := by
  refine ⟨fun D D' env M l h => he.mono _ _ _ _ _ _ (fun z M1 => ho.mono _ _ _ _ _ _ (fun d M2 => obAt_mono fun a => insAt_mono fun fs ⟨z1, z2⟩ => ⟨z1, l.nx _ _ z2⟩) (fun c f M' => l.ex c f _ M')) (fun c f M' => l.ex c f _ M') h, PSw (ps_fld ho.pe he.pe hs) ?_⟩
  rintro D σ H ⟨env, M, re, s, h⟩
  refine stepE he.mono re s h (fun z M1 u H1 e1 s1 re1 r1 h1 => ?_) (ends_ex re)
  refine stepE ho.mono re1 s1 h1 (fun d M2 u2 H2 e2 s2 re2 r2 q => ?_) fun c f M' q => upX_mono e1 c f M' (ends_ex re c f M' q)
  unfold fputK2 obAt at q
  split at q <;> first | exact q.elim | skip
  unfold insAt at q
  split at q <;> first | exact q.elim | skip
  obtain ⟨rfl, ql, q⟩ := q
  rename_i a _ C fs' hm
  obtain ⟨dx, us, e3, l⟩ := s2 _ _ hm
  have ex : Ext X.K H2 (upd H2 a (.ins C dx (L2.putF f u us))) := Ext.mut e3 True.intro
  refine ⟨a, C, dx, us, rep_v r2, e3, T.c, T.no f hf, by rw [l.length]; exact ql, ?_⟩
  exact q σ _ ((e1.trans e2).trans ex) (s2.put e3 True.intro (repO_ins ex (RepKV.putF (RepD.mono e2 _ r1) l))) (re2.mono ex)
theorem xs_faug {op : Operator} {r : DOp2} (T : ICls X.K C fs) (ho : XE X W o to) (he : XE X W value te) (hop : XOp X (inplaceOp op) r) (hf : f ∈ fs := by simp) : XS X W (.AugAssign (.Attribute o f tpos) op value pos) (dFAug C f r to te) := by
  refine ⟨fun D D' env M l h => ho.mono _ _ _ _ _ _ (fun z M1 => obAt_mono fun a => insAt_mono fun fs => optD_mono fun x => he.mono _ _ _ _ _ _ (fun y M2 => Res.mono fun z M3 => insAt_mono fun fs ⟨z1, z2⟩ => ⟨z1, l.nx _ _ z2⟩) (fun c f M' => l.ex c f _ M')) (fun c f M' => l.ex c f _ M') h, PSw (ps_fldaug (rd := upR2 X.K r) ho.pe he.pe (fun pins s σ H x y u v Q I rx ry h => hop pins s σ H x y u v Q I rx ry h)) ?_⟩
  rintro D σ H ⟨env, M, re, s, h⟩
  refine stepE ho.mono re s h (fun d M1 u H1 e1 s1 re1 r1 q => ?_) (ends_ex re)
  unfold faugK1 obAt at q
  split at q <;> first | exact q.elim | skip
  unfold insAt at q
  split at q <;> first | exact q.elim | skip
  obtain ⟨rfl, q⟩ := q
  rename_i a _ C fs' hm
  unfold optD at q
  split at q <;> first | exact q.elim | skip
  rename_i v hv
  obtain ⟨dx, us, e3, l⟩ := s1 _ _ hm
  obtain ⟨w, hw, rw'⟩ := l.lookup_some hv
  refine ⟨a, C, dx, us, w, rep_v r1, e3, T.c, T.no f hf, hw, ?_⟩
  refine stepE he.mono re1 s1 q (fun y M2 u2 H2 e2 s2 re2 r2 q2 => ?_) fun c f M' q => upX_mono e1 c f M' (ends_ex re c f M' q)
  refine ⟨v, y, M2, RepD.mono e2 _ rw', r2, s2, Res.mono (fun z M3 q3 w3 H3 e3' s3 r3 => ?_) q2⟩
  unfold faugK3 insAt at q3
  split at q3 <;> first | exact q3.elim | skip
  obtain ⟨rfl, ql, q3⟩ := q3
  rename_i _ C fs2 hm3
  obtain ⟨dx2, us2, e4, l2⟩ := s3 _ _ hm3
  have ex : Ext X.K H3 (upd H3 a (.ins C dx2 (L2.putF f w3 us2))) := Ext.mut e4 True.intro
  refine ⟨dx2, us2, e4, by rw [l2.length]; exact ql, ?_⟩
  exact q3 σ _ (((e1.trans e2).trans e3').trans ex) (s3.put e4 True.intro (repO_ins ex (RepKV.putF r3 l2))) ((re2.mono e3').mono ex)
theorem dMeth_mono {dvs : List D} (ms : MonoSp sp) (mo : MonoE to) (mt : MonoA t) : MonoE (dMeth C m sp dvs to t) := fun env M Q Q' E E' hQ hE => mo _ _ _ _ _ _ (fun d M1 => obAt_mono fun a => insAt_mono fun fs ⟨z1, z2⟩ => ⟨z1, mt _ _ _ _ _ _ (fun ds M2 => ms _ _ _ _ _ _ hQ hE) hE z2⟩) hE
/-- the object of a method call, then what is asked of its arguments -/
theorem meth_up {dvs : List D} {vds : List V} (hd : ∀ H, RepL X.K H dvs vds) (ms : MonoSp sp) (mo : MonoE to) (mt : MonoA t) {σ : L2.St} {H : Hp} {Q : VK} (h : liftE X.K W (dMeth C m sp dvs to t) σ H Q) :
    liftE X.K W to σ H fun x H1 => ∃ a dx us, x = .ref a ∧ H1 a = some (.ins C dx us) ∧ us.lookup m = none ∧ liftA X.K W t σ H1 fun vs H2 => liftSp X.K sp (.ref a :: (vs ++ vds)) H2 Q (WE W σ) := by
  obtain ⟨env, M, re, sm, h⟩ := h
  refine stepE mo re sm h (fun d M1 u H1 e1 s1 re1 r1 q => ?_) fun _ _ _ z => z
  unfold methK1 obAt at q
  split at q <;> first | exact q.elim | skip
  unfold insAt at q
  split at q <;> first | exact q.elim | skip
  obtain ⟨rfl, ql, q⟩ := q
  rename_i a _ C fs' hm
  obtain ⟨dx, us, e3, l⟩ := s1 _ _ hm
  refine ⟨a, dx, us, rep_v r1, e3, l.lookup_none ql, ?_⟩
  refine stepA mt re1 s1 q (fun ds M2 vs H2 e2 s2 re2 r2 q2 => ?_) (upX_mono e1)
  exact ⟨.ob a :: (ds ++ dvs), M2, .cons rep_of (r2.append (hd H2)), s2, ms _ _ _ _ _ _ (upK_mono (e1.trans e2)) (upX_mono (e1.trans e2)) q2⟩
theorem xe_meth {dvs : List D} {pl : Sem Bool} (Mf : MFn X.prog X.w X.K X.mg X.base k C m sp dvs) (T : ICls X.K C fs) (hr : Room k X.A) (tk : Takes X W) (ho : XE X W o to) (ha : XA X W (e :: es) t)
    (hst : starEach (e :: es) X.env = (false, eval e X.env) :: starEach es X.env := by rfl) (hpl : (backTo pos (starEach es X.env)).any (·.1) = false := by rfl)
    (ht : eval (.Call (.Attribute o m apos) (e :: es) [] pos) X.env = (do
      let v ← eval o X.env
      standAt apos.atName
      let (g, own) ← holding [v] (getMethod v m pl)
      callWith pos g own (backTo pos (starEach (e :: es) X.env)) (backToKw pos (keywordEach [] X.env))) := by rfl) : XE X W (.Call (.Attribute o m apos) (e :: es) [] pos) (dMeth C m sp dvs to t) := by
  obtain ⟨mo, f, fd, ps, dsv, vds, F, hm, hb, hvd, hrd⟩ := Mf
  refine ⟨dMeth_mono mo ho.mono ha.mono, ⟨fun pins s σ H Q I h => ?_⟩⟩
  have q := meth_up hrd mo ho.mono ha.mono h
  refine PySem.W.methodCall_KW (pl := pl) (thn (ho.pe.run pins s σ H _ I q) fun u s1 z => ?_) ht
  obtain ⟨x, H1, I1, rx, a, dx, us, rfl, e1, l1, q1⟩ := z
  obtain rfl : u = Value.ref a := rx
  refine getmeth_ok I1 e1 T.c hm l1 ?_
  refine PySem.W.callWith_K (first := [.ref a]) (h₀ := X.base) I.ok.mod.kin hm.kp (thn (ha.pa.run pos pins s1 σ H1 _ I1 q1) fun us2 s2 z2 => ?_) hst hpl
  obtain ⟨vs, H2, I2, r2, q2⟩ := z2
  refine ⟨I2.kIn, ?_⟩
  exact run_fnSD (E := WE W) (us := .ref a :: us2) (vs := .ref a :: vs) F hr hb hvd (passAt tk σ) I2 (.cons rfl r2) q2
theorem xe_meth0 {dvs : List D} {pl : Sem Bool} (Mf : MFn X.prog X.w X.K X.mg X.base k C m sp dvs) (T : ICls X.K C fs) (hr : Room k X.A) (tk : Takes X W) (ho : XE X W o to)
    (ht : eval (.Call (.Attribute o m apos) [] [] pos) X.env = (do
      let v ← eval o X.env
      standAt apos.atName
      let (g, own) ← holding [v] (getMethod v m pl)
      callWith pos g own (backTo pos (starEach [] X.env)) (backToKw pos (keywordEach [] X.env))) := by rfl) : XE X W (.Call (.Attribute o m apos) [] [] pos) (dMeth C m sp dvs to dNil) := by
  obtain ⟨mo, f, fd, ps, dsv, vds, F, hm, hb, hvd, hrd⟩ := Mf
  have mn : MonoA dNil := fun _ _ _ _ _ _ hQ _ h => hQ _ _ h
  refine ⟨dMeth_mono mo ho.mono mn, ⟨fun pins s σ H Q I h => ?_⟩⟩
  have q := meth_up hrd mo ho.mono mn h
  refine PySem.W.methodCall_KW (pl := pl) (thn (ho.pe.run pins s σ H _ I q) fun u s1 z => ?_) ht
  obtain ⟨x, H1, I1, rx, a, dx, us, rfl, e1, l1, q1⟩ := z
  obtain rfl : u = Value.ref a := rx
  refine getmeth_ok I1 e1 T.c hm l1 ?_
  have q2 : liftSp X.K sp (.ref a :: ([] ++ vds)) H1 Q (WE W σ) := by
    obtain ⟨env, M, re, sm, q1⟩ := q1
    exact q1 [] H1 Ext.refl sm .nil
  exact PySem.W.callWith_K0 (first := [.ref a]) I1.kIn hm.kp (run_fnSD (E := WE W) (us := [.ref a]) (vs := [.ref a]) F hr hb hvd (passAt tk σ) I1 (.cons rfl .nil) q2)
theorem passNo {X : Cx} : Passes (L2.CX X.prog X.w) X fun _ _ _ => False := fun _ _ _ _ _ _ _ h => by
  obtain ⟨_, _, _, _, _, _, _, _, _, _, _, _, z⟩ := h
  exact z.elim
theorem dMake_mono (ms : MonoSp sp) (mt : MonoA t) : MonoE (dMake C sp t) := fun env M Q Q' E E' hQ hE => mt _ _ _ _ _ _ (fun ds M1 z x hx => ms _ _ _ _ _ _ (fun d M2 ⟨z1, z2⟩ => ⟨z1, hQ _ _ z2⟩) (fun _ _ _ z => z) (z x hx)) hE
theorem make_rep {H : Hp} {M : Mem} {Q : VK} {vs : List V} {ds : List D} {H0 : Hp} (e0 : Ext X.K H0 H) (ms : MonoSp sp) (sm : Sim X.K H M) (r : RepL X.K H ds vs) (q : makeK C sp (upK X.K H0 Q) ds M) {x dx : Addr} (hx : H x = none) (hd : H dx = none) (ne : dx ≠ x) :
    liftSp X.K sp (.ref x :: vs) (upd (upd H dx (.own x)) x (.ins C dx [])) (fun v H2 => v = .non ∧ Q (.ref x) H2) fun _ _ _ => False := by
  have hx2 : upd H dx (.own x) x = none := by rw [upd_ne ne.symm]; exact hx
  have ex : Ext X.K H (upd (upd H dx (.own x)) x (.ins C dx [])) := (Ext.new hd).trans (Ext.new hx2)
  refine ⟨.ob x :: ds, _, .cons rep_of (RepL.mono ex _ r), (sm.laid hd).new hx2 (repO_ins (fs := []) (us := []) (Ext.new hx2) rfl), ms _ _ _ _ _ _ (fun d M2 z u H2 e2 s2 r2 => ?_) (fun _ _ _ z => z.elim) (q x (sm.free hx))⟩
  obtain ⟨rfl, z⟩ := z
  exact ⟨rep_v r2, z _ H2 ((e0.trans ex).trans e2) s2 rep_of⟩
theorem xe_make (Kf : KFn X.prog X.w X.K X.mg X.base k x C sp) (hr : Room (k + 1) X.A) (hg : Gl X x) (ha : XA X W (e :: es) t) (hdb : (x == ("__debug__" : Str)) = false := by decide)
    (he : starEach (e :: es) X.env = (false, eval e X.env) :: starEach es X.env := by rfl) (hpl : (backTo pos (starEach es X.env)).any (·.1) = false := by rfl) : XE X W (.Call (.Name x p) (e :: es) [] pos) (dMake C sp t) := by
  obtain ⟨mo, hm, f, fd, ps, F, Mk, hb⟩ := Kf
  refine ⟨dMake_mono mo ha.mono, PEw (pe_make (ds := []) (dvs := []) Mk F hr hg hm hb .nil passNo ha.pa hdb he hpl) ?_⟩
  rintro σ H Q ⟨env, M, re, s, h⟩
  refine stepA ha.mono re s h (fun ds M1 vs H1 e1 s1 re1 r1 q => ?_) fun _ _ _ z => z
  intro y dy hy hdy ne
  rw [List.append_nil]
  exact make_rep e1 mo s1 r1 q hy hdy ne
theorem xe_make0 (Kf : KFn X.prog X.w X.K X.mg X.base k x C sp) (hr : Room (k + 1) X.A) (hg : Gl X x) (hdb : (x == ("__debug__" : Str)) = false := by decide) : XE X W (.Call (.Name x p) [] [] pos) (dMake C sp dNil) := by
  obtain ⟨mo, hm, f, fd, ps, F, Mk, hb⟩ := Kf
  refine ⟨dMake_mono mo (fun _ _ _ _ _ _ hQ _ h => hQ _ _ h), PEw (pe_make0 (ds := []) (dvs := []) Mk F hr hg hm hb .nil passNo hdb) ?_⟩
  rintro σ H Q ⟨env, M, re, s, h⟩
  intro y dy hy hdy ne
  exact make_rep Ext.refl mo s .nil h hy hdy ne
end
/-- a def by its body, defaults or not -/
structure Def (K : PySem.W.Frag) (qual : Str) (st : Stmt) (f : Addr) (fd : FuncData) : Prop where
  ok : ∀ {P : Program} {w : World} {mg : Str → Option Value} {base : Heap} {N ps : List Str} {k : Nat} {sp : Sp}, FnScope N ps (defScope st) → (∀ vs H Q E, sp vs H Q E → vs.length = ps.length) →
    (∀ (cdv : Value) (A : Around) (outer : List Env) (s : Shared) (H : Hp) (vs : List V) (Q : VK) (E : XK), Room k (A.deeper (envOfC qual (defScope st) s.heap.objs.size f cdv)) → sp vs H Q E →
      ∃ t, PSs (cxOf (L2.CX P w) P w K mg base N qual (defScope st) f cdv A outer s H E) (defBody st) t ∧ t { nx := fun _ H' => Q .non H', rt := Q } (L2.start N vs) H) → FnOk P w K mg base (L2.CX P w) (k + 1) f fd ps sp
theorem def_fun {K : PySem.W.Frag} {x qual : Str} {st : Stmt} {f : Addr} {fd : FuncData} (F : Fun K x qual st f fd) : Def K qual st f fd := ⟨fun S len h => F.okX S len h⟩
theorem def_funD {K : PySem.W.Frag} {x qual : Str} {st : Stmt} {f : Addr} {fd : FuncData} {dvs : List V} (F : FunD K x qual (defArgs st) (defBody st) (defScope st) dvs [] f fd) : Def K qual st f fd := ⟨fun S len h => F.ok S len h⟩
theorem def_ok {P : Program} {w : World} {K : PySem.W.Frag} {mg : Str → Option Value} {base : Heap} {qual : Str} {st : Stmt} {f : Addr} {fd : FuncData} {N ps : List Str} {k : Nat} {sp : DSp} (F : Def K qual st f fd) (S : FnScope N ps (defScope st))
    (len : ∀ ds M Q E, sp ds M Q E → ds.length = ps.length)
    (hb : ∃ t : DS, (∀ cdv A outer s H E, Room k (A.deeper (envOfC qual (defScope st) s.heap.objs.size f cdv)) → XSs (bx P w K mg base N qual st f cdv A outer s H E) (bW E) (defBody st) t) ∧
      ∀ ds M Q E, sp ds M Q E → t (retEnds Q E) (startD N ds) M) : FnOk P w K mg base (L2.CX P w) (k + 1) f fd ps (liftSp K sp) := by
  obtain ⟨t, ht, hq⟩ := hb
  refine F.ok S (fun vs H Q E h => ?_) (fun cdv A outer s H vs Q E hr h => ?_)
  · obtain ⟨ds, M, r, _, h⟩ := h
    rw [r.length]
    exact len _ _ _ _ h
  · obtain ⟨ds, M, r, sm, h⟩ := h
    refine ⟨_, (ht cdv A outer s H E hr).ps, startD N ds, M, rep_start r, sm, (ht cdv A outer s H E hr).mono _ _ _ _ ⟨?_, ?_, ?_, ?_, ?_⟩ (hq _ _ _ _ h)⟩
    · exact fun e M' q σ' H' e' s' _ => q .non H' e' s' rep_of
    · exact fun d M' q => q
    · exact fun e M' q => q.elim
    · exact fun e M' q => q.elim
    · exact fun c fs e M' q d σ' H' e' s' _ x => q d H' e' s' x
/-- what the top has written of a method -/
structure MSrc (K : PySem.W.Frag) (C : Addr) (m qual : Str) (st : Stmt) (ps : List Str) (dvs : List D) : Prop where
  ex : ∃ (f : Addr) (fd : FuncData) (ds : List Value) (vds : List V), Def K qual st f fd ∧ Meth K C m f ∧ Binds K fd ps ds ∧ Vals vds ds ∧ ∀ H, RepL K H dvs vds
theorem MSrc.fn {P : Program} {w : World} {K : PySem.W.Frag} {mg : Str → Option Value} {base : Heap} {C : Addr} {m qual : Str} {st : Stmt} {ps : List Str} {dvs : List D} {k : Nat} {sp : DSp} (S : MSrc K C m qual st ps dvs) (mo : MonoSp sp)
    (h : ∀ f fd, Def K qual st f fd → FnOk P w K mg base (L2.CX P w) k f fd ps (liftSp K sp)) : MFn P w K mg base k C m sp dvs := by
  obtain ⟨f, fd, ds, vds, F, h1, h2⟩ := S.ex
  exact ⟨mo, f, fd, ps, ds, vds, h f fd F, h1, h2⟩
/-- what the top has written of how a class is made -/
structure KSrc (K : PySem.W.Frag) (mg : Str → Option Value) (x : Str) (C : Addr) (qual : Str) (st : Stmt) (ps : List Str) : Prop where
  at_ : mg x = some (.ref C)
  ex : ∃ (f : Addr) (fd : FuncData), Def K qual st f fd ∧ Mk K C f ∧ Binds K fd ps []
theorem KSrc.fn {P : Program} {w : World} {K : PySem.W.Frag} {mg : Str → Option Value} {base : Heap} {C : Addr} {x qual : Str} {st : Stmt} {ps : List Str} {k : Nat} {sp : DSp} (S : KSrc K mg x C qual st ps) (mo : MonoSp sp)
    (h : ∀ f fd, Def K qual st f fd → FnOk P w K mg base (L2.CX P w) k f fd ps (liftSp K sp)) : KFn P w K mg base k x C sp := by
  obtain ⟨f, fd, F, h1, h2⟩ := S.ex
  exact ⟨mo, S.at_, f, fd, ps, h f fd F, h1, h2⟩
theorem msrc_dfl {K : PySem.W.Frag} {x qual : Str} {st : Stmt} {f T C : Addr} {m : Str} {oT oc : Value} {dT od an : Option Addr} {its : List Value} {n : Nat} {sT osl : Array (Option Value)} {kV dc pm cdv ct : Value} {ps : List Str} {dvs : List V}
    (l : K.lookup f = some ⟨oc, od, .func (PySem.W.fnOf x qual (defArgs st) (defBody st) (defScope st) (.ref T) kV dc pm an cdv ct), osl⟩) (c : PySem.W.codeIn K cdv qual = true) (k : PySem.W.keepIn K (.ref f) = true) (hm : Meth K C m f)
    (lT : K.lookup T = some ⟨oT, dT, .seq its.toArray n, sT⟩) (hv : Vals dvs its) (hd : dvs ≠ []) (j : Nat) (hn : j + (dvs.length - 0) = ps.length)
    (h : ∀ (T : Addr) (kV doc pm : Value) (an : Option Addr) (cdv ct : Value) (us its : List Value), us.length = j → its.length = dvs.length →
      ∃ k, bindArgs (PySem.W.fnOf x qual (defArgs st) (defBody st) (defScope st) (.ref T) kV doc pm an cdv ct) ⟨us, []⟩ = seqItems? (.ref T) >>= k ∧ k (some its.toArray) = pure (ps.zip (us ++ its.drop 0))) : MSrc K C m qual st ps (dvs.map D.v) := by
  have F : FunD K x qual (defArgs st) (defBody st) (defScope st) dvs [] f _ := ⟨⟨oc, od, .ref T, kV, dc, pm, an, cdv, ct, osl, rfl, l, c, .inr ⟨hd, T, _, its, n, rfl, lT, rfl, hv⟩, .inl rfl⟩, k⟩
  obtain ⟨ds, h1, h2⟩ := F.binds1 (ps := ps) j 0 hd hn h
  refine ⟨f, _, ds, dvs, def_funD F, hm, h2, by simpa using h1, fun H => ?_⟩
  clear h1 h2 h hn F hv hd
  induction dvs with
  | nil => exact .nil
  | cons v r ih => exact .cons rep_of ih
end PL

namespace PL
open PySem PySem.Spec PyProof.Rows L2
/-! what is never reached; a try whose body raises nothing -/
def dDead : DS := fun _ _ _ => False
theorem s_dead {Z : DEnds} {env : DEnv} {M : Mem} : dDead Z env M = False := id rfl
theorem xs_dead {X : Cx} {W : WX} {st : Stmt} : XS X W st dDead := ⟨fun _ _ _ _ _ h => h, ⟨fun pins s σ H D I h => by obtain ⟨_, _, _, _, z⟩ := h; exact z.elim⟩⟩
def DEnds.noX (Z : DEnds) : DEnds := { Z with ex := fun _ _ _ _ => False }
def dTryN (tb : DS) : DS := fun Z env M => tb Z.noX env M
section
variable {Z : DEnds} {env : DEnv} {M : Mem} {tb : DS}
theorem s_tryN : dTryN tb Z env M = tb Z.noX env M := id rfl
theorem noX_nx : Z.noX.nx = Z.nx := id rfl
theorem noX_rt : Z.noX.rt = Z.rt := id rfl
theorem noX_bk : Z.noX.bk = Z.bk := id rfl
theorem noX_ct : Z.noX.ct = Z.ct := id rfl
end
theorem xs_tryN {X : Cx} {W : WX} {body : List Stmt} {h₀ : ExceptHandler} {hs : List ExceptHandler} {pos : Pos} {tb : DS} (hb : XSs X.nox W0 body tb) : XS X W (.Try body (h₀ :: hs) [] [] pos) (dTryN tb) := by
  refine ⟨fun D D' env M l h => hb.mono D.noX D'.noX env M ⟨l.nx, l.rt, l.bk, l.ct, fun _ _ _ _ z => z⟩ h, PSw (ps_try_thru0 hb.ps) ?_⟩
  rintro D σ H ⟨env, M, re, s, h⟩
  exact ⟨env, M, re, s, hb.mono (upEnds X.K W H D).noX (upEnds X.K W0 H D) env M ⟨fun _ _ z => z, fun _ _ z => z, fun _ _ z => z, fun _ _ z => z, fun _ _ _ _ z => False.elim z⟩ h⟩
/-! x.split(y) -/
def mSplit : DMeth
  | .v (.str a), [.v (.str b)], _ => .new ((b.length == 0) = false ∧ a.length + 2 ≤ sizeLine) (.lst ((Txt.split a b).map D.str))
  | _, _, _ => .bad
theorem m_split {X : Cx} : MtR X "str.split" (upMeth X.K mSplit) := by
  rintro pins s σ H x xs v us Q I rx rxs ⟨d, ds, M, r1, rl, sm, h⟩
  unfold mSplit at h
  split at h <;> first | exact h.elim | skip
  obtain ⟨u, rfl, q⟩ := rl1 rl
  rw [rep_v r1] at rx
  rw [rep_v q] at rxs
  exact mt_split pins s σ H _ _ v us Q I rx rxs ⟨_, _, rfl, rfl, h.1.1, h.1.2, fun p hp => fin_lst (fun p hp => h.2 p hp) sm hp .of_strs⟩
/-! texts * n -/
def opMulS : DOp2
  | .v (.str x), .v (.int k), _ => .val (1 ≤ x.length ∧ 0 ≤ k ∧ k ≤ 1000 ∧ x.length ≤ 1000) (.str ⟨(List.replicate k.toNat x.cps.toList).flatten.toArray⟩)
  | _, _, _ => .bad
theorem x_mulS {X : Cx} : XOp X (binaryOp .Mult) opMulS := by
  rintro pins s σ H x y v u Q I rx ry ⟨dx, dy, M, r1, r2, sm, h⟩
  unfold opMulS at h
  split at h <;> first | exact h.elim | skip
  rename_i z k
  obtain ⟨h1, h2, h3, h4⟩ := h.1
  by_cases h5 : 2 ≤ k
  · exact x_mul pins s σ H x y v u Q I rx ry ⟨_, _, M, r1, r2, sm, ⟨h1, h5, h3, h4⟩, h.2⟩
  rw [rep_v r1] at rx; rw [rep_v r2] at ry
  obtain ⟨t, rfl⟩ := rx
  obtain ⟨t', rfl⟩ := ry
  rcases (show k = 0 ∨ k = 1 by omega) with rfl | rfl
  · refine PySem.P.mul_str_none (by decide) (by decide) ⟨.str _, H, I.tok _, ⟨_, rfl⟩, fin_val h.2 sm⟩
  · refine PySem.P.mul_str (by decide) (fun _ q => by cases q) (fun _ q => by cases q) ?_
    rw [if_neg (by decide), if_pos (by rfl)]
    have e : (⟨(List.replicate (1 : Int).toNat z.cps.toList).flatten.toArray⟩ : Str) = z := by
      obtain ⟨a⟩ := z
      simp
    rw [e] at h
    exact ⟨.str z, H, I, ⟨_, rfl⟩, fin_val h.2 sm⟩
/-! enumerate of a list -/
def nums (i : Nat) : List D → List D
  | [] => []
  | d :: r => .tup [.int (i : Nat), d] :: nums (i + 1) r
theorem nums_get : ∀ {ds : List D} {i j : Nat} {d : D}, ds[j]? = some d → (nums i ds)[j]? = some (.tup [.int ((i + j : Nat) : Int), d])
  | [], _, _, _, h => by simp at h
  | x :: r, i, 0, d, h => by simp at h; subst h; simp [nums]
  | x :: r, i, j + 1, d, h => by
    have := nums_get (i := i + 1) (show r[j]? = some d by simpa using h)
    rw [show i + 1 + j = i + (j + 1) by omega] at this
    simpa [nums] using this
theorem nums_length : ∀ (ds : List D) (i : Nat), (nums i ds).length = ds.length
  | [], _ => rfl
  | _ :: r, i => by simp [nums, nums_length r]
theorem rep_enum {K : PySem.W.Frag} {H0 : Hp} {a : Addr} {ds : List D} : ItRep K H0 (Ite K a) ⟨nums 0 ds, fun M => M a = some (.lst ds)⟩ where
  go := fun i H M _ s k hi => by
    obtain ⟨us, q, l⟩ := s.seq (.inl k)
    have hl : i < us.length := by rw [l.length]; simpa [nums_length] using hi
    exact ⟨us, us[i], q, by simp [hl]⟩
  yld := fun i H M x H' _ s k _ y => by
    obtain ⟨us, q, l⟩ := s.seq (.inl k)
    obtain ⟨T, x, rfl, hT, rfl, y⟩ := y
    obtain ⟨d, h1, h2⟩ := l.get' (y us q)
    refine ⟨_, by have := nums_get (i := 0) h1; rwa [Nat.zero_add] at this, ?_, Ext.new hT, s.laid hT⟩
    unfold RepD
    exact ⟨T, _, rfl, .inl (.inl upd_same), .cons rep_of (.cons (RepD.mono (Ext.new hT) _ h2) .nil)⟩
  stop := fun H M _ s k => by
    obtain ⟨us, q, l⟩ := s.seq (.inl k)
    exact ⟨us, q, by show us.length ≤ (nums 0 ds).length; rw [l.length, nums_length]; exact Nat.le_refl _⟩
def enumK (R : DIt → Mem → Prop) : List D → Mem → Prop := fun es M => ∃ a ds, es = [.ob a] ∧ M a = some (.lst ds) ∧ R ⟨nums 0 ds, fun M => M a = some (.lst ds)⟩ M
def dEnum (ta : DA) : DI := fun env M R E => ta env M (enumK R) E
theorem s_enum {ta : DA} {env M R E} : dEnum ta env M R E = ta env M (enumK R) E := id rfl
theorem s_enumK {R es M} : enumK R es M = ∃ a ds, es = [.ob a] ∧ M a = some (.lst ds) ∧ R ⟨nums 0 ds, fun M => M a = some (.lst ds)⟩ M := id rfl
section
variable {X : Cx} {W : WX} {e : Expr} {ta : DA} {pos p tpos : Pos} {elts : List Expr} {kk : Nat}
theorem xi_enum (hg : Gl X "enumerate") (hm : X.mg "enumerate" = none) (ha : XA X W [e] ta) (hs : starEach [e] X.env = [(false, eval e X.env)] := by rfl) : XI X W (.Tuple elts kk tpos) (.Call (.Name "enumerate" p) [e] [] pos) (dEnum ta) := by
  refine ⟨fun env M Q Q' E E' hQ hE h => ?_, PIw (pi_enum hg hm ha.pa hs) ?_⟩
  · refine ha.mono env M _ _ _ _ (fun ds M1 q => ?_) hE h
    obtain ⟨a, es, h1, h2, h3⟩ := q
    exact ⟨a, es, h1, h2, hQ _ _ h3⟩
  rintro σ H R ⟨env, M, re, s, h⟩
  refine stepA ha.mono re s h (fun ds M1 us H1 e1 s1 re1 r1 q => ?_) fun _ _ _ z => z
  obtain ⟨a, es, rfl, h2, h3⟩ := q
  obtain ⟨u, rfl, q1⟩ := rl1 r1
  obtain ⟨ws, q2, l⟩ := s1.seq (.inl h2)
  rw [rep_v q1]
  exact ⟨a, ws, rfl, q2, h3 _ H1 e1 s1 rep_enum⟩
end
/-! constants that are tuples of tuples -/
theorem rep_tup0 {K : PySem.W.Frag} {H : Hp} {a : Addr} {d : Option Addr} {t : Array Value} {n : Nat} {s : Array (Option Value)} (h : K.lookup a = some ⟨.type "tuple", d, .seq t n, s⟩) (ht : t.toList = []) : RepD K H (.tup []) (.ref a) := by
  unfold RepD
  exact ⟨a, [], rfl, .inr ⟨_, t, n, h, rfl, rfl, by rw [← Array.length_toList, ht]; decide, by rw [ht]; exact .nil⟩, .nil⟩
theorem vals_refs : ∀ (as : List Addr), Vals (as.map V.ref) (as.map Value.ref)
  | [] => .nil
  | a :: as => .cons rfl (vals_refs as)
theorem rep_tups {K : PySem.W.Frag} {H : Hp} {a : Addr} {d : Option Addr} {t : Array Value} {n : Nat} {s : Array (Option Value)} {ds : List D} (as : List Addr) (h : K.lookup a = some ⟨.type "tuple", d, .seq t n, s⟩) (hz : t.size ≤ sizeLine) (ht : t.toList = as.map Value.ref) (r : RepL K H ds (as.map V.ref)) : RepD K H (.tup ds) (.ref a) := by
  unfold RepD
  exact ⟨a, as.map V.ref, rfl, .inr ⟨_, t, n, h, rfl, rfl, hz, by rw [ht]; exact vals_refs as⟩, r⟩
theorem look_nil {β : Type} {f : Str} : look ([] : List (Str × β)) f = none := id rfl
theorem look_cons {β : Type} {f g : Str} {x : β} {r : List (Str × β)} : look ((g, x) :: r) f = if g = f then some x else look r f := id rfl
theorem putFD_nil {f : Str} {d : D} : putFD [] f d = [(f, d)] := id rfl
theorem putFD_cons {f g : Str} {d x : D} {r : List (Str × D)} : putFD ((g, x) :: r) f d = if g = f then (g, d) :: r else (g, x) :: putFD r f d := id rfl
end PL

namespace PL
open PySem PySem.Spec PyProof.Rows L2
/-! def f(p): return p[0] -/
theorem bindL_one {k : Str → Option NameKind} {p : Str} {v : Value} (h : k p = some .local) : PySem.bindL k ([p].zip ([v] ++ [])) (fun _ => none) p = some v := by
  show PySem.bindL k [] (if k p = some .local then fun y => if y = p then some v else none else fun _ => none) p = some v
  rw [if_pos h]
  exact if_pos rfl
theorem key_first {P : Program} {w : World} {K : PySem.W.Frag} {x qual p : Str} {st : Stmt} {f : Addr} {fd : FuncData} {pp p2 p3 p4 : Pos} {kk : Nat} (F : Fun K x qual st f fd) (hb : defBody st = [.Return (some (.Subscript (.Name p pp) (.Constant (.int 0) kk p2) p3)) p4])
    (S : FnScope [p] [p] (defScope st)) (hloc : (defScope st).names.lookup p = some .local) (hbd : Binds K fd [p] []) (hp : (p == ("__debug__" : Str)) = false) {A : Around} {s : Shared} (KX : K.In s.heap) (lim : s.heap.NoLimit) (hr : A.depth < recursionLimit) {t : Addr} {items : Array Value}
    (ht : IsTup s.heap t items) {y : Value} (hy : items[0]? = some y) : wpAny (model P w) A (call (.ref f) [.ref t]) (fun v s' => v = y ∧ ∃ h' tk, s' = { s with heap := h', toks := tk } ∧ ∀ b o, s.heap.get? b = some o → h'.get? b = some o) (fun _ _ => False) s := by
  have hq := hbd s [.ref t] KX rfl
  obtain ⟨oc, od, kV, doc, pm, an, cdv, ct, osl, rfl, lk, hcd⟩ := F.ex
  have hkind : ∀ z ∈ [p].zip ([Value.ref t] ++ []), (defScope st).names.lookup z.1 = some .local ∨ ((defScope st).names.lookup z.1 = some .cell ∧ ((cellsFrom (s.heap.objs.size + 1) (defScope st).names []).lookup z.1).isSome = true) := fun ⟨n, v⟩ hz => by
    have : n = p := by simpa using (List.of_mem_zip hz).1
    subst this
    exact .inl hloc
  refine wpAny_call (codeAny_call_function hr (KX _ _ lk) rfl S.co S.gen rfl (PySem.W.codeRec_of KX hcd) (hq _ _ _ _ ?_))
  refine wpAny_newFunctionEnv_cells S.kind hkind fun env he s1 x => ?_
  subst he
  refine ⟨lim.keeps x.toInCall.keep, codeAny_func ?_⟩
  show wpAny _ _ (execs (defBody st) _) _ _ _
  rw [hb]
  refine wpAny_execs_cons (wpAny_Return_some (wpAny_Subscript_Constant_late (wpAny_Name (ldLC x S.kind hloc (v := .ref t) (by first | exact bindL_one hloc | skip) ?_) hp)))
  refine wpAny_Constant_int ?_
  have ht1 : IsTup s1.heap t items := ht.keeps x.toInCall.keep
  refine ⟨"tuple", "tuple.__getitem__", slot_tuple_getitem.lookup, ht1.typeIs, ?_⟩
  have h0 : 0 < items.size := (Array.getElem?_eq_some_iff.mp hy).1
  refine getItem_tuple (j := 0) ht1 (by decide) (by decide) (by unfold seqIndex?; simp [h0]) hy ?_
  obtain ⟨h1, tk, rfl, hk⟩ := x.done
  exact ⟨rfl, h1, _, rfl, hk⟩
/-! sorted(xs, key=f), f as above: tuples by their first text -/
def nameD : D → Str
  | .tup (.v (.str s) :: _) => s
  | _ => ⟨#[]⟩
def leD (a b : D) : Bool := decide ((nameD a).cps.toList ≤ (nameD b).cps.toList)
def TupS (d : D) : Prop := ∃ s r, d = .tup (.str s :: r)
def sortByK (Q : DK) : DK := fun d M => ∃ ds, lstAt M d = some ds ∧ (∀ d ∈ ds, TupS d) ∧ ∀ p, M p = none → Q (.ob p) (mupd M p (.lst (ds.mergeSort leD)))
def dSortBy (te : DE) : DE := fun env M Q E => te env M (sortByK Q) E
theorem s_sortBy {te env M Q E} : dSortBy te env M Q E = te env M (sortByK Q) E := id rfl
theorem s_sortByK {Q d M} : sortByK Q d M = ∃ ds, lstAt M d = some ds ∧ (∀ d ∈ ds, TupS d) ∧ ∀ p, M p = none → Q (.ob p) (mupd M p (.lst (ds.mergeSort leD))) := id rfl
def rSortBy (K : PySem.W.Frag) (f : Addr) : List V → List V → Hp → VK → Prop := fun vs zs H Q => ∃ (a : Addr) (as : List Addr) (ds : List D), vs = [.ref a] ∧ zs = [.ref f] ∧ SqL K H a (as.map V.ref) ∧ RepL K H ds (as.map V.ref) ∧ (∀ d ∈ ds, TupS d) ∧
  ∀ (p : Addr) (us : List V), H p = none → RepL K H (ds.mergeSort leD) us → Q (.ref p) (upd H p (.lst us))
theorem refs_of {K : PySem.W.Frag} {H : Hp} : ∀ {ds : List D} {us : List V}, (∀ d ∈ ds, TupS d) → RepL K H ds us → ∃ as : List Addr, us = as.map V.ref
  | [], _, _, h => by unfold RepL at h; exact ⟨[], h⟩
  | d :: ds, _, ht, h => by
    unfold RepL at h
    obtain ⟨u, r, rfl, q, t⟩ := h
    obtain ⟨s, r', rfl⟩ := ht d List.mem_cons_self
    unfold RepD at q
    obtain ⟨a, us, rfl, _⟩ := q
    obtain ⟨as, rfl⟩ := refs_of (fun d hd => ht d (List.mem_cons_of_mem _ hd)) t
    exact ⟨a :: as, rfl⟩
theorem rep_zip {K : PySem.W.Frag} {H : Hp} : ∀ {ds : List D} {as : List Addr}, RepL K H ds (as.map V.ref) → (∀ z ∈ as.zip ds, RepD K H z.2 (.ref z.1)) ∧ (as.zip ds).map (·.2) = ds ∧ (as.zip ds).map (·.1) = as
  | [], as, h => by
    unfold RepL at h
    have : as = [] := by simpa using h
    subst this
    exact ⟨by simp, rfl, rfl⟩
  | d :: ds, [], h => by
    unfold RepL at h
    obtain ⟨u, r, e, _⟩ := h
    cases e
  | d :: ds, a :: as, h => by
    unfold RepL at h
    obtain ⟨u, r, e, q, t⟩ := h
    simp only [List.map_cons, List.cons.injEq] at e
    obtain ⟨rfl, rfl⟩ := e
    obtain ⟨h1, h2, h3⟩ := rep_zip t
    refine ⟨fun z hz => ?_, by simp [h2], by simp [h3]⟩
    rw [List.zip_cons_cons] at hz
    rcases List.mem_cons.mp hz with e | e
    · rw [e]; exact q
    · exact h1 z e
theorem rep_unzip {K : PySem.W.Frag} {H : Hp} : ∀ {zs : List (Addr × D)}, (∀ z ∈ zs, RepD K H z.2 (.ref z.1)) → RepL K H (zs.map (·.2)) (zs.map fun z => V.ref z.1)
  | [], _ => .nil
  | z :: zs, h => .cons (h z List.mem_cons_self) (rep_unzip fun z' hz => h z' (List.mem_cons_of_mem _ hz))
theorem eachIs_refs {K : PySem.W.Frag} : ∀ (zs : List (Addr × D)), PySem.W.EachIs (fun (v : Value) (z : Addr × D) => v = .ref z.1) (zs.map fun z => Value.ref z.1) zs
  | [] => .nil
  | z :: zs => .cons rfl (eachIs_refs (K := K) zs)
theorem eachIs_eq : ∀ {vs : List Value} {zs : List (Addr × D)}, PySem.W.EachIs (fun (v : Value) (z : Addr × D) => v = .ref z.1) vs zs → vs = zs.map fun z => Value.ref z.1
  | _, _, .nil => rfl
  | _, _, .cons h t => by rw [h, eachIs_eq t]; rfl
theorem cr_sortBy {X : Cx} {x qual p : Str} {st : Stmt} {f : Addr} {fd : FuncData} {pp p2 p3 p4 : Pos} {kk : Nat} (F : Fun X.K x qual st f fd) (hb : defBody st = [.Return (some (.Subscript (.Name p pp) (.Constant (.int 0) kk p2) p3)) p4])
    (S : FnScope [p] [p] (defScope st)) (hloc : (defScope st).names.lookup p = some .local) (hbd : Binds X.K fd [p] []) (hp : (p == ("__debug__" : Str)) = false) (hr : Room 1 X.A) : CallRK X (.builtin "sorted") [Str.ofString "key"] (rSortBy X.K f) := by
  intro pins s σ H vs zs us ws Q I r rz h
  obtain ⟨a, as, ds, rfl, rfl, hs, hl, hts, q⟩ := h
  obtain rfl := Vals.ref1 r
  obtain ⟨w1, rfl, e1⟩ := vals1 rz
  obtain rfl : w1 = Value.ref f := e1
  obtain ⟨its, rv, p', hz⟩ := I.list hs
  have ei : its = as.map Value.ref := by
    clear p' hz hs hl q
    induction as generalizing its with
    | nil => cases rv; rfl
    | cons b as ih =>
      cases rv with
      | cons r1 rr =>
        cases r1
        rw [ih _ rr]; rfl
  subst ei
  obtain ⟨z1, z2, z3⟩ := rep_zip hl
  have hlen : (as.zip ds).length = as.length := by
    have := congrArg List.length z3
    simpa using this
  have ev : as.map Value.ref = (as.zip ds).map fun z => Value.ref z.1 := by
    rw [show (fun z : Addr × D => Value.ref z.1) = Value.ref ∘ Prod.fst from rfl, ← List.map_map, z3]
  have hz' : as.length ≤ sizeLine := by simpa using hz
  refine PySem.W.sorted_key_data (s := s) (vs := as.map Value.ref) (bs := as.zip ds) (R := fun (v : Value) (z : Addr × D) => v = .ref z.1) (b := false) (f := .ref f) (k := fun z : Addr × D => .str (nameD z.2)) p'.isList (ev ▸ eachIs_refs (K := X.K) _) ?_ ?_ (by rw [hlen]; exact hz') (fun z _ => ?_) (PyProof.Rows.ksk_s1 _ _) (fun _ => PyProof.Rows.ksk_l1 _ _) (fun b => PyProof.Rows.ksk_t1 f b) ?_ ?_
  · intro d hd d' hd'
    obtain ⟨z, _, rfl⟩ := List.mem_map.mp hd
    obtain ⟨z', _, rfl⟩ := List.mem_map.mp hd'
    simp [PySem.W.alike]
  · refine .inr fun d hd => ?_
    obtain ⟨z, _, rfl⟩ := List.mem_map.mp hd
    exact ⟨by simp, by simp⟩
  · have := hr.un
    show X.A.units + 2 + PyData.depth (.str _) < cLine
    simp [PyData.depth]; omega
  · intro v z hv hzm h1 tk kp
    subst hv
    have rd := z1 z hzm
    have hd2 : z.2 ∈ ds := (List.of_mem_zip hzm).2
    obtain ⟨sx, rx, ez⟩ := hts z.2 hd2
    rw [ez] at rd ⊢
    unfold RepD at rd
    obtain ⟨a', us', e, sq, rl⟩ := rd
    cases e
    obtain ⟨its2, rv2, tt, _⟩ := I.tuple sq
    unfold RepL at rl
    obtain ⟨u0, r0, rfl, q0, _⟩ := rl
    rw [rep_v q0] at rv2
    cases rv2 with
    | cons ra rb =>
      obtain ⟨tok, rfl⟩ := ra
      rename_i its3
      refine wpAny_mono (key_first (y := .str sx tok) F hb S hloc hbd hp (A := X.A.in1.in1) (s := { s with heap := h1, toks := tk }) (I.kIn.keeps kp) ((I.env0.mod.nolimit.keeps fun b o e => (I.env0.bs b o e).1).keeps kp) (by have := hr.dp; show X.A.depth < _; omega) (tt.keeps kp) (by simp)) (fun v s' ⟨hv, h', tk', e, kk'⟩ => ?_) fun _ _ z => z
      subst e hv
      exact ⟨h', tk', rfl, kk', .str _ _⟩
  · intro out c h' tk kp fr he ho hE
    rw [eachIs_eq hE, PySem.W.dataLe_str (fun z : Addr × D => nameD z.2)] at he
    have e2 : ((as.zip ds).mergeSort fun a b => decide ((nameD a.2).cps.toList ≤ (nameD b.2).cps.toList)).map (·.2) = ds.mergeSort leD := by
      exact (List.map_mergeSort (r := fun a b : Addr × D => decide ((nameD a.2).cps.toList ≤ (nameD b.2).cps.toList)) (s := leD) (f := fun z : Addr × D => z.2) (l := as.zip ds) (fun a _ b _ => rfl)).trans (by rw [z2])
    have zr : ∀ z ∈ (as.zip ds).mergeSort fun a b => decide ((nameD a.2).cps.toList ≤ (nameD b.2).cps.toList), RepD X.K H z.2 (.ref z.1) := fun z hz => z1 z (List.mem_mergeSort.mp hz)
    generalize (as.zip ds).mergeSort (fun a b => decide ((nameD a.2).cps.toList ≤ (nameD b.2).cps.toList)) = zs at he e2 zr
    have hn : H (s.heap.objs.size + 1) = none := I.hok.fresh (Nat.le_succ _)
    have hls : (zs.map fun z => V.ref z.1).length ≤ sizeLine := by
      have e3 := congrArg List.length e2
      rw [List.length_map, List.length_mergeSort] at e3
      rw [List.length_map, e3]
      have := congrArg List.length z2
      rw [List.length_map, hlen] at this
      omega
    have rl := rep_unzip zr
    rw [e2] at rl
    refine ⟨.ref _, upd H (s.heap.objs.size + 1) (.lst (zs.map fun z => V.ref z.1)), I.laid (t' := tk) kp (Nat.le_succ _) ⟨hls, _, c, vals_maps (fun z : Addr × D => V.ref z.1) (fun z => Value.ref z.1) zs fun _ _ => rfl, he⟩, rfl, q _ _ hn rl⟩
section
variable {X : Cx} {W : WX} {e : Expr} {te : DE} {x y p : Str} {sp kp np pos pp p2 p3 p4 : Pos} {kk : Nat} {st : Stmt}
theorem xe_sortBy (S0 : Src X.K X.mg y st [p]) (hb : defBody st = [.Return (some (.Subscript (.Name p pp) (.Constant (.int 0) kk p2) p3)) p4]) (S : FnScope [p] [p] (defScope st)) (hloc : (defScope st).names.lookup p = some .local) (hr : Room 1 X.A) (he : XE X W e te) (hg : Gl X "sorted") (hm : X.mg "sorted" = none)
    (hv : bootBuiltins "sorted" = some (.builtin "sorted")) (hgy : Gl X y) (hp : (p == ("__debug__" : Str)) = false := by decide) (hdb : (y == ("__debug__" : Str)) = false := by decide)
    (hs0 : starEach [e] X.env = (false, eval e X.env) :: starEach [] X.env := by rfl) (hs : backTo pos (starEach [e] X.env) = (false, eval e X.env) :: backTo pos (starEach [] X.env) := by rfl) (hpl : (backTo pos (starEach [e] X.env)).any (·.1) = false := by rfl)
    (hall : (backToKw pos (keywordEach [⟨some "key", .Name y np, kp⟩] X.env)).all (·.1.isSome) = true := by rfl) (hnone : (backToKw pos (keywordEach [⟨some "key", .Name y np, kp⟩] X.env)).any (·.1.isNone) = false := by rfl) (hks : (backToKw pos (keywordEach [⟨some "key", .Name y np, kp⟩] X.env)).filterMap (·.1) = [Str.ofString "key"] := by rfl) :
    XE X W (.Call (.Name "sorted" sp) [e] [⟨some "key", .Name y np, kp⟩] pos) (dSortBy te) := by
  obtain ⟨f, fd, F, h1, h2, h3⟩ := S0.ex
  refine ⟨fun env M Q Q' E E' hQ hE => he.mono _ _ _ _ _ _ (fun d M1 ⟨ds, h1, h2, h⟩ => ⟨ds, h1, h2, fun p z => hQ _ _ (h p z)⟩) hE, PEw (pe_callBK (cr_sortBy F hb S hloc h3 hp hr) hg hm hv (pa_cons he.pe pa_nil hs0) (pk_cons (pe_glob (v := .ref f) hgy h1 rfl hdb) pk_nil) (he := hs) (hpl := hpl) (hall := hall) (hnone := hnone) (hks := hks)) ?_⟩
  rintro σ H Q ⟨env, M, re, sm, h⟩
  refine stepE he.mono re sm h (fun d M1 u H1 e1 s1 re1 r1 q => ?_) fun _ _ _ z => z
  obtain ⟨ds, hd, hts, q⟩ := q
  obtain ⟨a, us, rfl, hs', l⟩ := lstAt_rep s1 r1 hd
  obtain ⟨as, rfl⟩ := refs_of hts l
  refine ⟨a, as, ds, rfl, rfl, hs', l, hts, fun p us hp hl => ?_⟩
  exact q p (s1.free hp) _ _ (e1.trans (Ext.new hp)) (s1.new hp ⟨us, upd_same, RepL.mono (Ext.new hp) _ hl⟩) rep_of
end
end PL

set_option maxHeartbeats 4000000
namespace PL
open PySem PySem.Spec PyProof.Rows L2 NdefX

/-! an own error whose __init__ says super().__init__(..) -/
section
open PySem.W
variable {prog : Program} {w : World} {A : Around} {E : Value → Shared → Prop} {h : Heap} {g : Array GenState} {d : Drawn} {t : Nat} {os : OsState}
variable {nm q : Str} {C N : Addr} {bs bm bmB : List Value} {hdct : Bool} {sn : List Str} {sub : List Value} {ab : Bool} {col : Option Bool} {dd : Option Addr} {k0 k1 k2 k3 k5 : Option Value} {B i newId : String}
theorem call_mw (FB : ExcBaseFacts B newId i bmB) {u e t0 : Addr} {rest : List Value} {Q : Value → Shared → Prop}
    (hC : h.get? C = some (excClassObj nm q C N bs bm hdct sn sub ab col dd k0 k1 k2 k3 k5 newId)) (he : h.get? e = some (excRec (.ref C) t0 none .none .none (.bool false))) (hu : h.get? u = some (kxs_mw i e)) (hrest : rest.length ≤ sizeLine)
    (hq : ∀ h' t1, (∀ b o, b ≠ e → h.get? b = some o → h'.get? b = some o) → h'.get? e = some (excRec (.ref C) t1 none .none .none (.bool false)) → Q .none ⟨h', g, d, t, os⟩) :
    wpAny (model prog w) A (call (.ref u) rest) Q E ⟨h, g, d, t, os⟩ := by
  refine wpAny_call (codeAny_of_tree ?_)
  show wpAny _ A.in1 (callAny (.ref u) ⟨rest, []⟩) _ _ _
  simp only [callAny]
  refine wpAny_bind (wpAny_load hu ?_)
  simp only [kxs_mw, show (Value.type "method-wrapper" == Value.type "method" || Value.type "method-wrapper" == Value.type "builtin_function_or_method" || Value.type "method-wrapper" == Value.type "method-wrapper") = true by decide, if_true]
  refine KFB.if_so (by decide) ?_
  refine wpAny_bind (check_bound_init FB.toExcCallFacts hC he rfl ?_)
  refine wpAny_bind (wpAny_pure (wpAny_pure ?_))
  refine ⟨plainId_quiet FB.init.plain _, codeAny_builtin FB.initEntry ?_⟩
  exact exc_init_tree he hrest fun h' k e' _ => hq h' _ k e'
end
/-- the def -/
structure SupF (P : Program) (K : PySem.W.Frag) (D f : Addr) (qual : Str) (st : Stmt) (ar : Arg) (fd : FuncData) (cc cda : Addr) : Prop where
  fdx : ∃ dV kV dc pm ct an, fd = PySem.W.fnX "__init__" qual (defArgs st) (defBody st) (defScope st) [("__class__", cc)] dV kV dc pm an (.ref cda) ct
  lk : ∃ oc od osl, K.lookup f = some ⟨oc, od, .func fd, osl⟩
  code : PySem.W.codeIn K (.ref cda) qual = true
  file : ∃ ccl cdd vs ccs file tf, K.lookup cda = some ⟨ccl, cdd, .fields vs, ccs⟩ ∧ vs[2]? = some (.str file tf) ∧ ((P.main.file : Str) == file) = true
  cell : ∃ cl cld csl, K.lookup cc = some ⟨cl, cld, .cell (some (.ref D)), csl⟩
  cls : ∃ cdD, PySem.W.clsIn K D = some cdD
  top : (P.main.scope.names.lookup ("super" : Str)).isSome = false
  hd : ((defArgs st).posonlyargs ++ (defArgs st).args).head? = some ar
/-- the class C that is made, D the one whose __init__ it is -/
structure SupB (K : PySem.W.Frag) (D C : Addr) (B i newId : String) (bmB : List Value) : Prop where
  KF : PySem.W.KxsFacts B i
  FB : ExcBaseFacts B newId i bmB
  cls : ∃ nm q N bs bm hdct sn sub ab col dd k0 k1 k2 k3 k5, K.lookup C = some (excClassObj nm q C N bs bm hdct sn sub ab col dd k0 k1 k2 k3 k5 newId)
  sub : PySem.W.mroIn K C (.ref D) = some true
  sup : PySem.W.ks_superIn K C D "__init__" = some (some (.builtin i))
  isB : PySem.W.subIn K (.ref C) (.type B) = some true
  tp : PySem.W.nsIn K cStatics "thirdparty.any" = some none
abbrev SNF (qual : Str) (st : Stmt) (cc cda : Addr) : NF := ⟨"__init__", qual, defArgs st, defBody st, defScope st, [("__class__", cc)], cda⟩
section
variable {CX : CXT} {P : Program} {w : World} {K : PySem.W.Frag} {mg : Str → Option Value} {base : Heap} {N : List Str} {qual : Str} {st : Stmt} {ar : Arg} {fd : FuncData} {cc cda f C D : Addr} {A : Around} {outer : List Env} {s0 : Shared} {H0 : Hp} {E : XK} {B i newId : String} {bmB : List Value}
theorem super_stmt {arg : Expr} {p0 p1 p2 p3 p4 : Pos} {pl : Sem Bool} {σ : L2.St} {H : Hp} {s1 : Shared} {j : Nat} {a : Addr} {ta : TA} (SF : SupF P K D f qual st ar fd cc cda) (SB : SupB K D C B i newId bmB)
    (hks : (defScope st).names.lookup ("super" : Str) = some .globalImplicit) (hkc : (defScope st).names.lookup ("__class__" : Str) = some .free) (hka : (defScope st).names.lookup ar.arg = some .local) (hmg : mg "super" = none)
    (I : Inv (ncx CX P w K mg base N (SNF qual st cc cda) f A outer s0 H0 E) [] σ H s1) (hN : N[j]? = some ar.arg) (hσ : σ[j]? = some (some (.ref a))) (ha : H a = some (exo a C none))
    (hta : PA (ncx CX P w K mg base N (SNF qual st cc cda) f A outer s0 H0 E) [arg] ta) (hT : ∀ Q : List V → Hp → Prop, (∀ v, Q [v] H) → ta σ H Q)
    (hsw : swapsWith (.Call (.Attribute (.Call (.Name "super" p0) [] [] p1) "__init__" p2) [arg] [] p3) none p4.line (envF (SNF qual st cc cda) f s0.heap.objs.size) = pure false)
    (he : eval (.Call (.Attribute (.Call (.Name "super" p0) [] [] p1) "__init__" p2) [arg] [] p3) (envF (SNF qual st cc cda) f s0.heap.objs.size) = (do
      let ov ← attributeBase (.Call (.Name "super" p0) [] [] p1) "__init__" (envF (SNF qual st cc cda) f s0.heap.objs.size) (eval (.Call (.Name "super" p0) [] [] p1) (envF (SNF qual st cc cda) f s0.heap.objs.size))
      standAt p2.atName
      let (f', first) ← holding [ov] (getMethod ov "__init__" pl)
      callWith p3 f' first (backTo p3 (starEach [arg] (envF (SNF qual st cc cda) f s0.heap.objs.size))) []))
    (hse : starEach [arg] (envF (SNF qual st cc cda) f s0.heap.objs.size) = (false, eval arg (envF (SNF qual st cc cda) f s0.heap.objs.size)) :: starEach [] (envF (SNF qual st cc cda) f s0.heap.objs.size)) :
    PySem.wpAt (model P w) (A.deeper (envF (SNF qual st cc cda) f s0.heap.objs.size)) (.func (defBody st) (envF (SNF qual st cc cda) f s0.heap.objs.size))
      (exec (.Expr (.Call (.Attribute (.Call (.Name "super" p0) [] [] p1) "__init__" p2) [arg] [] p3) p4) (envF (SNF qual st cc cda) f s0.heap.objs.size))
      (fun fl s' => fl = .next ∧ Inv (ncx CX P w K mg base N (SNF qual st cc cda) f A outer s0 H0 E) [] σ H s') (ncx CX P w K mg base N (SNF qual st cc cda) f A outer s0 H0 E).xe s1 := by
  obtain ⟨dV, kV, dc, pm, ct, an, hfd⟩ := SF.fdx
  obtain ⟨oc, od, osl, hlk⟩ := SF.lk
  obtain ⟨ccl, cdd, vs, ccs, file, tf, hcode, hvs, hfile⟩ := SF.file
  obtain ⟨cl, cld, csl, hcell⟩ := SF.cell
  obtain ⟨cdD, hD⟩ := SF.cls
  obtain ⟨nm, q, Nc, bs, bm, hdct, sn, sub, ab, col, dd, k0, k1, k2, k3, k5, hC⟩ := SB.cls
  have KX : K.In s1.heap := I.kIn
  obtain ⟨oD, hD1, hD2⟩ : ∃ oD, s1.heap.get? D = some oD ∧ oD.data = .cls cdD := by
    unfold PySem.W.clsIn at hD
    split at hD
    · rename_i c d cd' sl ho
      cases hD
      exact ⟨_, KX _ _ ho, rfl⟩
    · cases hD
  refine PySem.ks_wpAt_Expr_any ?_ I.quiet hsw
  refine PySem.ks_wpAt_MethodCall (pl := pl) ?_ he
  have hdata : ({ cls := oc, dict := od, data := Data.func fd, slots := osl } : Obj).data = .func fd := rfl
  have hpar : (fd.params.posonlyargs ++ fd.params.args).head? = some ar := by rw [hfd]; exact SF.hd
  refine PySem.ks_wpAt_super_base hks hkc (by decide) rfl (KX _ _ hlk) hdata hpar rfl (KX _ _ hcode) rfl hvs hfile SF.top ?_
  obtain ⟨mb, hb1, hb2⟩ := I.mod.blt
  refine PySem.W.ks_loadName_global I.ok.kind hks (Calls.loadGlobal_builtin (show s1.heap.Ns mainGlobals mg from I.mod.glob.keeps I.bk) hmg (show s1.heap.Ns builtinsNs mb from hb1.keeps I.bk) ((hb2 "super" (by decide)).trans (show bootBuiltins "super" = some (.type "super") from by decide +kernel)) ⟨rfl, ?_⟩)
  refine wpAny_loadName_free I.ok.kind hkc rfl ⟨_, KX _ _ hcell, rfl⟩ ?_
  obtain ⟨m, hns, hloc⟩ := I.loc
  obtain ⟨u0, ru0, hlook⟩ := hloc j ar.arg (.ref a) hN hσ (.inl hka)
  have hu0 : u0 = Value.ref a := ru0
  have hm : m ar.arg = some (.ref a) := by
    rcases hlook with ⟨_, z⟩ | ⟨z, _⟩
    · rw [z, hu0]
    · rcases z with z | z
      · exact absurd (hka.symm.trans z) (by simp)
      · exact absurd (hka.symm.trans z) (by simp)
  refine wpAny_loadName_local I.ok.kind hka hns hm ?_
  obtain ⟨t0, hoa⟩ := exo_at I.hok ha
  obtain ⟨hp, g, d, t, os⟩ := s1
  refine PySem.ks_wpAny_isType_cls hD1 hD2 ⟨rfl, ?_⟩
  refine PySem.ks_wpAny_call_super hD1 hD2 hoa rfl (fun c e => by cases e) (PySem.W.looks_mroIn KX SB.sub) (fun h1 e1 kk1 => ?_)
  have I1 : Inv (ncx CX P w K mg base N (SNF qual st cc cda) f A outer s0 H0 E) [] σ H ⟨h1, g, d, t, os⟩ := I.kept (t' := t) kk1
  have X1 : K.In h1 := I1.kIn
  obtain ⟨cd, hcd⟩ : ∃ cd, PySem.W.clsIn K C = some cd := ⟨_, by unfold PySem.W.clsIn; rw [hC] <;> rfl⟩
  have hsup := SB.sup
  unfold PySem.W.ks_superIn at hsup
  rw [hcd] at hsup
  have II : PySem.W.InstAt h1 a { cls := .ref C, dict := none, data := .fields #[.ref t0, .none, .none, .none, .bool false, .none] } C none := ⟨kk1 _ _ hoa, rfl, rfl, trivial⟩
  have hI : PySem.W.Looks (model P w) h1 (isInstance (.ref a) (.type B)) true := II.type.andThen (PySem.W.looks_subIn X1 SB.isB)
  refine PySem.W.kxs_getMethod SB.KF e1 (PySem.W.looks_opaque X1 SB.tp) (l₀ := cd.mro) ?_ rfl X1 hsup hI (PySem.W.ks_ne X1 II hcd) (by decide) ?_
  · exact fun A Q E s k q => wpAny_bind ((PySem.W.looks_clsIn X1 hcd) A _ E s k (wpAny_pure q))
  have hu : (h1.push (PySem.W.kxs_mw i a)).get? h1.objs.size = some (PySem.W.kxs_mw i a) := Heap.get?_push_at rfl rfl
  have I2 : Inv (ncx CX P w K mg base N (SNF qual st cc cda) f A outer s0 H0 E) [] σ H ⟨h1.push (PySem.W.kxs_mw i a), g, d, t + 1, os⟩ := I1.kept (t' := t + 1) (fun b o e => Heap.get?_push_of_some _ e)
  have I3 : Inv (ncx CX P w K mg base N (SNF qual st cc cda) f A outer s0 H0 E) [(h1.objs.size, PySem.W.kxs_mw i a)] σ H ⟨h1.push (PySem.W.kxs_mw i a), g, d, t + 1, os⟩ := I2.pins_of fun p hp => by
    rw [List.mem_singleton.mp hp]
    refine ⟨hu, I1.hok.fresh (Nat.le_refl _), fun z => ?_, I1.nofs (Nat.le_refl _), fun v z => by cases z⟩
    have z' : h1.objs.size = (ncx CX P w K mg base N (SNF qual st cc cda) f A outer s0 H0 E).env.locals := z
    exact absurd I1.lt (by rw [← z']; exact Nat.lt_irrefl _)
  show wpAny _ _ (callWith p3 (.ref h1.objs.size) [] (backTo p3 (starEach [arg] (envF (SNF qual st cc cda) f s0.heap.objs.size))) []) _ _ _
  refine PySem.W.kxs_callWith (i := i) (x := a) (by rw [hse]; rfl) ?_
  have hrun := hta.run p3 [(h1.objs.size, PySem.W.kxs_mw i a)] _ σ H (fun vs H1 => vs.length = 1 ∧ H1 = H) I3 (hT _ fun v => ⟨rfl, rfl⟩)
  have hbk : backTo p3 (starEach [arg] (envF (SNF qual st cc cda) f s0.heap.objs.size)) = (false, eval arg (envF (SNF qual st cc cda) f s0.heap.objs.size)) :: backTo p3 (starEach [] (envF (SNF qual st cc cda) f s0.heap.objs.size)) := by rw [hse]; rfl
  have hrun' : wpAny (model P w) (A.deeper (envF (SNF qual st cc cda) f s0.heap.objs.size)) (spliced (backTo p3 (starEach [arg] (envF (SNF qual st cc cda) f s0.heap.objs.size)))) _ (ncx CX P w K mg base N (SNF qual st cc cda) f A outer s0 H0 E).xe _ := hrun
  rw [hbk] at hrun' ⊢
  refine Calls.evalArgs_plain (thn hrun' fun us s2 hh => ?_)
  obtain ⟨vs2, H2, I4, r4, hv2, rfl⟩ := hh
  have hu4 := (I4.pin _ (List.mem_append_right _ List.mem_cons_self)).1
  refine ⟨hu4, ?_⟩
  obtain ⟨t4, ho4⟩ := exo_at I4.hok ha
  have hus : us.length ≤ sizeLine := by rw [← Paired.length r4, hv2, sizeLine_eq]; decide
  obtain ⟨hp4, g4, d4, tk4, os4⟩ := s2
  show wpAny _ _ (call (.ref h1.objs.size) us) _ _ _
  refine call_mw SB.FB (I4.kIn _ _ hC) ho4 hu4 hus fun h' t2 k hx => ?_
  have J := I4.write (t' := tk4) (x := a) (e := a) (o := exo a C none) (by rw [ha]; exact True.intro) (.inl rfl) k ⟨_, hx⟩ (exo_ok hx)
  have eu : upd H2 a (exo a C none) = H2 := by
    funext b
    by_cases hb : b = a
    · rw [hb, upd_same, ha]
    · rw [upd_ne hb]
  rw [eu] at J
  exact ⟨rfl, J.unpinned (pins := []) (pl := [(h1.objs.size, PySem.W.kxs_mw i a)])⟩
/-- the def's promise, by what stands behind the super().__init__(..) -/
theorem super_fn {k : Nat} {ps : List Str} {sp : Sp} {rest : List Stmt} {arg : Expr} {p0 p1 p2 p3 p4 : Pos} {j : Nat} (SF : SupF P K D f qual st ar fd cc cda) (S : NScope N ps ["__class__"] (defScope st))
    (hst : defBody st = .Expr (.Call (.Attribute (.Call (.Name "super" p0) [] [] p1) "__init__" p2) [arg] [] p3) p4 :: rest)
    (hks : (defScope st).names.lookup ("super" : Str) = some .globalImplicit) (hkc : (defScope st).names.lookup ("__class__" : Str) = some .free) (hka : (defScope st).names.lookup ar.arg = some .local) (hmg : mg "super" = none) (hN : N[j]? = some ar.arg)
    (len : ∀ vs H Q E, sp vs H Q E → vs.length = ps.length)
    (hpl : ∀ L : Addr, ∃ pl : Sem Bool, swapsWith (.Call (.Attribute (.Call (.Name "super" p0) [] [] p1) "__init__" p2) [arg] [] p3) none p4.line (envF (SNF qual st cc cda) f L) = pure false ∧
      eval (.Call (.Attribute (.Call (.Name "super" p0) [] [] p1) "__init__" p2) [arg] [] p3) (envF (SNF qual st cc cda) f L) = (do
        let ov ← attributeBase (.Call (.Name "super" p0) [] [] p1) "__init__" (envF (SNF qual st cc cda) f L) (eval (.Call (.Name "super" p0) [] [] p1) (envF (SNF qual st cc cda) f L))
        standAt p2.atName
        let (f', first) ← holding [ov] (getMethod ov "__init__" pl)
        callWith p3 f' first (backTo p3 (starEach [arg] (envF (SNF qual st cc cda) f L))) []) ∧
      starEach [arg] (envF (SNF qual st cc cda) f L) = (false, eval arg (envF (SNF qual st cc cda) f L)) :: starEach [] (envF (SNF qual st cc cda) f L))
    (hbody : ∀ (A : Around) (outer : List Env) (s : Shared) (H : Hp) (vs : List V) (Q : VK) (E : XK), Room k (A.deeper (envF (SNF qual st cc cda) f s.heap.objs.size)) → sp vs H Q E →
      ∃ (a C : Addr) (B i newId : String) (bmB : List Value) (ta : TA) (t : TS), SupB K D C B i newId bmB ∧ (startF N vs [none])[j]? = some (some (.ref a)) ∧ H a = some (exo a C none) ∧
        PA (ncx CX P w K mg base N (SNF qual st cc cda) f A outer s H E) [arg] ta ∧ (∀ Q : List V → Hp → Prop, (∀ v, Q [v] H) → ta (startF N vs [none]) H Q) ∧
        PSs (ncx CX P w K mg base N (SNF qual st cc cda) f A outer s H E) rest t ∧ t { nx := fun _ H' => Q .non H', rt := Q } (startF N vs [none]) H) :
    FnOk P w K mg base CX (k + 1) f fd ps sp := by
  refine ⟨len, fun A outer s H args us vs Q E hr e0 hb r hsp => ?_⟩
  obtain ⟨dV, kV, dc, pm, ct, an, hfd⟩ := SF.fdx
  subst hfd
  obtain ⟨oc, od, osl, hlk⟩ := SF.lk
  obtain ⟨cl, cld, csl, hcell⟩ := SF.cell
  have hl := len _ _ _ _ hsp
  have KX : K.In s.heap := e0.mod.kin.keeps fun b o e => (e0.bs b o e).1
  have lim : s.heap.NoLimit := e0.mod.nolimit.keeps fun b o e => (e0.bs b o e).1
  have CA : CellsAt (SNF qual st cc cda).cl ["__class__"] [none] s.heap H := by
    have hone : ∀ y c, [(("__class__" : Str), cc)].lookup y = some c → y = "__class__" ∧ c = cc := fun y c e => by
      simp only [List.lookup] at e
      split at e
      · rename_i z
        exact ⟨by simpa using z, (Option.some.inj e).symm⟩
      · cases e
    refine ⟨rfl, fun y c e => ?_, fun x y c e1 e2 => ?_, fun i y e => ?_⟩
    · obtain ⟨_, rfl⟩ := hone y c e
      exact ⟨(e0.bs _ _ (e0.mod.kin _ _ hcell)).2, _, _, KX _ _ hcell, rfl⟩
    · rw [(hone x c e1).1, (hone y c e2).1]
    · cases i with
      | zero =>
        cases e
        refine ⟨cc, by simp [List.lookup], fun v hv => by simp at hv⟩
      | succ i => simp at e
  refine codeAny_call_function hr.depth (KX _ _ hlk) rfl S.co S.gen rfl (PySem.W.codeRec_of KX SF.code) (hb _ _ _ _ ?_)
  refine wpAny_newFunctionEnv S.nocell (fun ⟨n, _⟩ hy => S.par n (List.of_mem_zip hy).1) (fun h₁ hns hsb => ⟨lim.fresh _ hsb, ?_⟩) S.kind
  show codeAny _ _ (.func (defBody st) (envF (SNF qual st cc cda) f s.heap.objs.size)) _ _
  refine PySem.ks_codeAny_funcAt ?_
  have kp : ∀ b o, s.heap.get? b = some o → h₁.get? b = some o := fun b o e => hsb.extBut b o (Nat.ne_of_lt (Heap.lt_size e)) (Heap.get?_push_of_some _ e)
  obtain ⟨a, C, B, i, newId, bmB, ta, t, SB, hσ, ha, hta, hT, ht, hq⟩ := hbody A outer s H vs Q E (hr.deeper _) hsp
  have I : Inv (ncx CX P w K mg base N (SNF qual st cc cda) f A outer s H E) [] (startF N vs [none]) H { s with heap := h₁, toks := s.toks + (ps.zip us).length } := inv_startN S hr.hd e0 hl r CA hns kp
  obtain ⟨pl, h1, h2, h3⟩ := hpl s.heap.objs.size
  have first := super_stmt (pl := pl) SF SB hks hkc hka hmg I hN hσ ha hta hT h1 h2 h3
  rw [hst] at first ⊢
  refine PySem.ks_wpAt_execs_cons (PySem.ks_wpAt_mono first (fun fl s' hs => ?_) fun e s' hs => hs)
  obtain ⟨rfl, I'⟩ := hs
  refine wpAt_of_wpAny (wpAny_mono (ht.run [] s' _ H _ I' hq) (fun fl s' hs => ?_) fun e s' hs => hs)
  have fin : ∀ {σ' : L2.St} {H' : Hp} {v : V} {u : Value}, Inv (ncx CX P w K mg base N (SNF qual st cc cda) f A outer s H E) [] σ' H' s' → L2.RelV v u → Q v H' → CE outer P w H s Q u s' :=
    fun {σ' H' v u} J rv q => ⟨v, H', J.os, J.bare, J.base, J.hok, rv, q⟩
  cases fl with
  | ret u =>
    obtain ⟨v, σ', H', J, rv, q⟩ := hs
    exact fin J rv q
  | next =>
    obtain ⟨σ', H', J, q⟩ := hs
    exact fin (v := V.non) (u := Value.none) J rfl q
  | brk =>
    obtain ⟨_, _, _, q⟩ := hs
    exact False.elim q
  | cont =>
    obtain ⟨_, _, _, q⟩ := hs
    exact False.elim q
end
/-- __init__(self, x): super().__init__(a + x + b); self.f = x -/
def spI (K : PySem.W.Frag) (D : Addr) (B i newId : String) (bmB : List Value) (f : Str) : Sp := fun vs H Q _ => ∃ (a C : Addr) (x : Str), vs = [.ref a, .str x] ∧ x.length ≤ 1000 ∧ OexC K C ∧ SupB K D C B i newId bmB ∧ PySem.W.findIn K (.ref C) f = some none ∧ H a = some (exo a C none) ∧
  ∀ dx, H dx = none → dx ≠ a → Q .non (upd (upd H dx (exd dx [(f, .str x)])) a (exo a C (some dx)))
section
variable {CX : CXT} {P : Program} {w : World} {K : PySem.W.Frag} {mg : Str → Option Value} {base : Heap} {qual : Str} {st : Stmt} {ar : Arg} {fd : FuncData} {cc cda f D : Addr} {B i newId : String} {bmB : List Value}
theorem exi_fn {k : Nat} {x fld m1 m2 : Str} {j1 j2 : Nat} {p0 p1 p2 p3 p4 q1 q2 q3 q4 q5 q6 q7 q8 q9 : Pos} (SF : SupF P K D f qual st ar fd cc cda) (S : NScope ["self", x, "__class__"] ["self", x] ["__class__"] (defScope st)) (har : ar.arg = "self")
    (hst : defBody st = [.Expr (.Call (.Attribute (.Call (.Name "super" p0) [] [] p1) "__init__" p2) [.BinOp (.BinOp (.Constant (.str m1) j1 q1) .Add (.Name x q2) q3) .Add (.Constant (.str m2) j2 q4) q5] [] p3) p4, .Assign [.Attribute (.Name "self" q6) fld q7] (.Name x q8) q9])
    (hm : m1.length ≤ 1000 ∧ m2.length ≤ 1000) (hks : (defScope st).names.lookup ("super" : Str) = some .globalImplicit) (hmg : mg "super" = none) (hd : (x == ("__debug__" : Str)) = false) (hcd : (x == ("__classdict__" : Str)) = false)
    (hpl : ∀ L : Addr, ∃ pl : Sem Bool, swapsWith (.Call (.Attribute (.Call (.Name "super" p0) [] [] p1) "__init__" p2) [.BinOp (.BinOp (.Constant (.str m1) j1 q1) .Add (.Name x q2) q3) .Add (.Constant (.str m2) j2 q4) q5] [] p3) none p4.line (envF (SNF qual st cc cda) f L) = pure false ∧
      eval (.Call (.Attribute (.Call (.Name "super" p0) [] [] p1) "__init__" p2) [.BinOp (.BinOp (.Constant (.str m1) j1 q1) .Add (.Name x q2) q3) .Add (.Constant (.str m2) j2 q4) q5] [] p3) (envF (SNF qual st cc cda) f L) = (do
        let ov ← attributeBase (.Call (.Name "super" p0) [] [] p1) "__init__" (envF (SNF qual st cc cda) f L) (eval (.Call (.Name "super" p0) [] [] p1) (envF (SNF qual st cc cda) f L))
        standAt p2.atName
        let (f', first) ← holding [ov] (getMethod ov "__init__" pl)
        callWith p3 f' first (backTo p3 (starEach [.BinOp (.BinOp (.Constant (.str m1) j1 q1) .Add (.Name x q2) q3) .Add (.Constant (.str m2) j2 q4) q5] (envF (SNF qual st cc cda) f L))) []) ∧
      starEach [.BinOp (.BinOp (.Constant (.str m1) j1 q1) .Add (.Name x q2) q3) .Add (.Constant (.str m2) j2 q4) q5] (envF (SNF qual st cc cda) f L) = (false, eval (.BinOp (.BinOp (.Constant (.str m1) j1 q1) .Add (.Name x q2) q3) .Add (.Constant (.str m2) j2 q4) q5) (envF (SNF qual st cc cda) f L)) :: starEach [] (envF (SNF qual st cc cda) f L)) :
    FnOk P w K mg base CX (k + 1) f fd ["self", x] (spI K D B i newId bmB fld) := by
  have hself : (defScope st).names.lookup ("self" : Str) = some .local := S.par _ (by simp)
  have hx : (defScope st).names.lookup x = some .local := S.par _ (by simp)
  refine super_fn SF S hst hks (S.frk _ (by simp)) (by rw [har]; exact hself) hmg (j := 0) (by rw [har]; rfl) (fun vs H Q E h => by obtain ⟨a, C, x, rfl, _⟩ := h; rfl) hpl fun A outer s H vs Q E hr h => ?_
  obtain ⟨a, C, y, rfl, hy, T, SB, hno, ha, hq⟩ := h
  have hv1 : Vis (defScope st) x := .inl hx
  have hv0 : Vis (defScope st) "self" := .inl hself
  refine ⟨a, C, B, i, newId, bmB, _, _, SB, rfl, ha, pa_cons (pe_op op_add_str (pe_op op_add_str pe_str (pe_var (i := 1) rfl hv1 hd hcd)) pe_str) pa_nil, fun Q' hQ => ?_, pss_one (ps_ost (pe_var (i := 0) rfl hv0) (pe_var (i := 1) rfl hv1 hd hcd)), ?_⟩
  · refine ⟨.str y, rfl, _, _, rfl, rfl, by rw [sizeLine_eq]; omega, _, _, rfl, rfl, ?_, hQ _⟩
    rw [sizeLine_eq]
    have : (m1 ++ y).length = m1.length + y.length := Array.size_append
    omega
  · exact ⟨.str y, rfl, .ref a, rfl, a, C, rfl, T, hno, .inl ⟨ha, fun dx h1 h2 => hq dx h1 h2⟩⟩
end
end PL

set_option maxHeartbeats 4000000
namespace PL
open PySem PySem.Spec PyProof.Rows L2

/-! own errors with a field -/
structure FCls (P : Program) (w : World) (K : PySem.W.Frag) (mg : Str → Option Value) (base : Heap) (k : Nat) (x : Str) (C : Addr) (f : Str) : Prop where
  g : mg x = some (.ref C)
  T : OexC K C
  no : PySem.W.findIn K (.ref C) f = some none
  made : ∃ (fI D : Addr) (fd : FuncData) (ps : List Str) (B i newId : String) (bmB : List Value), FnOk P w K mg base (L2.CX P w) k fI fd ps (spI K D B i newId bmB f) ∧ SupB K D C B i newId bmB ∧ PySem.W.findIn K (.ref C) "__init__" = some (some (.ref fI)) ∧
    PySem.W.typeIn K (.ref fI) = some (.type "function") ∧ Binds K fd ps []
def raiseFK (C : Addr) (f : Str) (Z : DEnds) (env : DEnv) : DK := fun y M1 => ∃ s : Str, y = .str s ∧ s.length ≤ 1000 ∧ Z.ex (.ref C) [(f, y)] env M1
def dRaiseF (C : Addr) (f : Str) (te : DE) : DS := fun Z env M => te env M (raiseFK C f Z env) (fun c fs M1 => Z.ex c fs env M1)
section
variable {X : Cx} {W : WX} {k : Nat} {x f : Str} {C : Addr} {e : Expr} {te : DE} {p pos pos2 : Pos}
theorem xs_raiseF (F : FCls X.prog X.w X.K X.mg X.base k x C f) (hc : X.calm = true) (hr : Room (k + 1) X.A) (tk : Takes X W) (hg : Gl X x) (he : XE X W e te) (hdb : (x == ("__debug__" : Str)) = false := by decide)
    (hse : starEach [e] X.env = (false, eval e X.env) :: starEach [] X.env := by rfl) : XS X W (.Raise (some (.Call (.Name x p) [e] [] pos2)) none pos) (dRaiseF C f te) := by
  obtain ⟨fI, D, fd, ps, B, i, newId, bmB, Fn, SB, iC, tI, hb⟩ := F.made
  have ha : PA X [e] (tCons (liftE X.K W te) tNil) := pa_cons he.pe pa_nil hse
  have hmk := pmk_oex (p := p) (pos := pos2) F.T iC tI Fn hr hb .nil passNo hg F.g ha hdb hse rfl
  refine ⟨fun Z Z' env M l h => he.mono _ _ _ _ _ _ (fun y M1 ⟨s, h1, h2, h3⟩ => ⟨s, h1, h2, l.ex _ _ _ _ h3⟩) (fun c fs M1 q => l.ex _ _ _ _ q) h, PSw (ps_raise hc tk hmk) ?_⟩
  rintro Z σ H ⟨env, M, re, s, h⟩
  refine stepE he.mono re s h (fun y M1 u H1 e1 s1 re1 r1 q => ?_) (ends_ex re)
  obtain ⟨x', rfl, hx, q⟩ := q
  have hu : u = V.str x' := rep_v r1
  subst hu
  refine ⟨by simp, fun a ha1 => ⟨a, C, x', rfl, hx, F.T, SB, F.no, upd_same, fun dx hdx hne => ?_⟩⟩
  rw [upd_ne hne] at hdx
  refine ⟨rfl, dx, [(f, .str x')], upd_same, by rw [upd_ne hne, upd_same], hdx, ?_⟩
  have eH : upd (del (upd (upd (upd H1 a (exo a C none)) dx (exd dx [(f, .str x')])) a (exo a C (some dx))) a) dx (.xd [(f, .str x')]) = upd H1 dx (.xd [(f, .str x')]) := by
    funext b
    by_cases hb1 : b = dx
    · rw [hb1, upd_same, upd_same]
    · rw [upd_ne hb1, upd_ne hb1]
      by_cases hb2 : b = a
      · rw [hb2, del_same, ha1]
      · rw [del_ne hb2, upd_ne hb2, upd_ne hb1, upd_ne hb2]
  show W (.ref C) (some dx) σ _
  rw [eH]
  have ex : Ext X.K H1 (upd H1 dx (.xd [(f, .str x')])) := Ext.new hdx
  exact q (some dx) σ _ (e1.trans ex) (s1.laid hdx) (re1.mono ex) ⟨by simp, _, upd_same, _, _, rfl, rep_of, rfl⟩
end
/-! try: .. except C as n: .., the errors bear fields -/
def noOb (o : Option Ob) : Prop := ∀ z, o = some z → ∃ fs, z = .xd fs
def exTryF (hd : Value → Option Bool) (i : Nat) (ts : Addr → Value → Addr → DS) (Z : DEnds) : Value → List (Str × D) → DEnv → Mem → Prop := fun c fs e M' => match hd c with
  | some true => fs ≠ [] ∧ ∀ a dd, M' a = none → noOb (M' dd) → ts a c dd (suiteEnds i Z) (e.set i (some (.ob a))) (mupd M' dd (.xd fs))
  | some false => Z.ex c fs e M'
  | none => False
theorem exTryF_mono {hd : Value → Option Bool} {i : Nat} {ts : Addr → Value → Addr → DS} (mt : ∀ a c dd, MonoS (ts a c dd)) {Z Z' : DEnds} (l : Z.Le Z') : ∀ c fs e M', exTryF hd i ts Z c fs e M' → exTryF hd i ts Z' c fs e M' := fun c fs e M' q => by
  unfold exTryF at q ⊢
  cases hq : hd c with
  | none => rw [hq] at q; exact q
  | some b =>
    rw [hq] at q
    cases b with
    | true => exact ⟨q.1, fun a dd ha hd => mt _ _ _ _ _ _ _ (suiteEnds_le l) (q.2 a dd ha hd)⟩
    | false => exact l.ex _ _ _ _ q
def dTryF (hd : Value → Option Bool) (i : Nat) (tb : DS) (ts : Addr → Value → Addr → DS) : DS := fun Z env M => tb { Z with ex := exTryF hd i ts Z } env M
theorem xs_tryF {X : Cx} {W : WX} {x n : Str} {c : Value} (i : Nat) {body suite : List Stmt} {b₀ : Stmt} {np pos' pos : Pos} {tb : DS} {ts : Addr → Value → Addr → DS} (hs : X.stack = X.env :: X.outer) (hf : X.env.frame = some X.env.locals) (hN : X.N.Nodup) (hln : X.env.kindOf n = some .local) (hc : Names X x c) (tk : Takes X W)
    (mt : ∀ a c dd, MonoS (ts a c dd)) (hb : ∀ (W : WX) (pn : List (Addr × Obj)) (xe : Value → Shared → Prop), Takes (X.tr pn xe) W → PassesOwn (model X.prog X.w) X.A X.env xe → XSs (X.tr pn xe) W body tb)
    (hsu : ∀ (a dd : Addr) (oe : Obj) (cls : Value) (pn : List (Addr × Obj)), Zc cls (some dd) oe → (∃ vs, oe.data = .fields vs) → XSs (X.suite a ((a, oe) :: pn)) W0 (b₀ :: suite) (ts a cls dd)) (mb : MonoS tb) (hi : X.N[i]? = some n := by rfl) :
    XS X W (.Try body [.ExceptHandler (some (.Name x np)) (some n) (b₀ :: suite) pos'] [] [] pos) (dTryF (fun z => PySem.W.exmOne X.K z c) i tb ts) := by
  refine ⟨fun Z Z' env M l h => mb { Z with ex := exTryF _ i ts Z } _ _ _ ⟨l.nx, l.rt, l.bk, l.ct, exTryF_mono mt l⟩ h, PSw (ps_try_as (tb := fun W' => liftS X.K W' tb) (ts := fun a cls d D σ H => ∃ dd, d = some dd ∧ liftS X.K W0 (ts a cls dd) D σ H) hs hf hN hi hln hc tk (fun W' pn xe t p => (hb W' pn xe t p).ps) fun a oe cls d pn hz hv => ?_) ?_⟩
  · refine ⟨fun pins s σ H D I h => ?_⟩
    obtain ⟨dd, rfl, h⟩ := h
    exact (hsu a dd oe cls pn hz hv).ps.run pins s σ H D I h
  · rintro D σ H ⟨env, M, re, s, h⟩
    refine ⟨env, M, re, s, mb { upEnds X.K W H D with ex := exTryF (fun z => PySem.W.exmOne X.K z c) i ts (upEnds X.K W H D) } _ _ _ ⟨fun _ _ q => q, fun _ _ q => q, fun _ _ q => q, fun _ _ q => q, fun c' fs e M' q d σ' H' e' s' re' rx => ?_⟩ h⟩
    have q : exTryF (fun z => PySem.W.exmOne X.K z c) i ts (upEnds X.K W H D) c' fs e M' := q
    unfold exTryF at q
    dsimp only at q
    cases hq : PySem.W.exmOne X.K c' c with
    | none => rw [hq] at q; exact q.elim
    | some b =>
      rw [hq] at q
      refine ⟨b, hq, ?_, ?_⟩
      · rintro rfl a ha
        obtain ⟨hfs, q⟩ := q
        cases d with
        | none => exact absurd rx hfs
        | some dd =>
          obtain ⟨_, us, hdd, rkv⟩ := rx
          have hno : noOb (M' dd) := fun z hz => by
            have := s' _ _ hz
            cases z with
            | xd fs => exact ⟨fs, rfl⟩
            | lst ds => obtain ⟨us', q1, _⟩ := this; rw [hdd] at q1; cases q1
            | rol ds => obtain ⟨_, us', q1, _⟩ := this; rw [hdd] at q1; cases q1
            | dk ds => obtain ⟨us', q1, _⟩ := this; rw [hdd] at q1; cases q1
            | rdk ds => obtain ⟨_, us', q1, _⟩ := this; rw [hdd] at q1; cases q1
            | ctp ds => obtain ⟨_, us', q1, _⟩ := this; rw [hdd] at q1; cases q1
            | ins C fs => obtain ⟨_, us', q1, _⟩ := this; rw [hdd] at q1; cases q1
          have s2 : Sim X.K H' (mupd M' dd (.xd fs)) := fun b o hb => by
            by_cases hbd : b = dd
            · subst hbd
              rw [mupd_same] at hb
              cases hb
              exact ⟨us, hdd, rkv⟩
            · rw [mupd_ne hbd] at hb
              exact s' b o hb
          refine ⟨dd, rfl, e.set i (some (.ob a)), mupd M' dd (.xd fs), re'.set rep_of i, s2, mt _ _ _ (suiteEnds i (upEnds X.K W H D)) _ _ _ ⟨?_, ?_, ?_, ?_, ?_⟩ (q a dd (s'.free ha) hno)⟩
          · exact fun e2 M2 z σ2 H2 x2 s2 r2 => z (σ2.set i none) H2 (e'.trans x2) s2 (r2.clear i)
          · exact fun d2 M2 z u2 H2 x2 s2 r2 => z u2 H2 (e'.trans x2) s2 r2
          · exact fun e2 M2 z σ2 H2 x2 s2 r2 => z (σ2.set i none) H2 (e'.trans x2) s2 (r2.clear i)
          · exact fun e2 M2 z σ2 H2 x2 s2 r2 => z (σ2.set i none) H2 (e'.trans x2) s2 (r2.clear i)
          · exact fun c f e2 M2 z => z.elim
      · rintro rfl
        exact q d σ' H' e' s' re' rx
/-! in the suite: the error's class is one of a few -/
section
variable {X : Cx} {W : WX}
theorem suite_cls {ok : Addr → Prop} {st : List Stmt} {ts : Addr → Addr → Addr → DS} (h : ∀ C, ok C → ∀ (a dd : Addr) (oe : Obj) (pn : List (Addr × Obj)), Zc (.ref C) (some dd) oe → (∃ vs, oe.data = .fields vs) → XSs (X.suite a ((a, oe) :: pn)) W0 st (ts C a dd)) :
    ∀ (a dd : Addr) (oe : Obj) (cls : Value) (pn : List (Addr × Obj)), Zc cls (some dd) oe → (∃ vs, oe.data = .fields vs) → XSs (X.suite a ((a, oe) :: pn)) W0 st (fun D env M => ∃ C, ok C ∧ cls = .ref C ∧ ts C a dd D env M) := by
  intro a dd oe cls pn hz hf
  by_cases e : ∃ C, ok C ∧ cls = .ref C
  · obtain ⟨C, hC, rfl⟩ := e
    have q := h C hC a dd oe pn hz hf
    refine ⟨fun D D' env M l z => by
      obtain ⟨C', h1, h2, h3⟩ := z
      cases h2
      exact ⟨C, h1, rfl, q.mono _ _ _ _ l h3⟩, ⟨fun pins s σ H D I z => ?_⟩⟩
    obtain ⟨env, M, re, sm, C', _, h2, h3⟩ := z
    cases h2
    exact q.ps.run pins s σ H D I ⟨env, M, re, sm, h3⟩
  · refine ⟨fun D D' env M l z => (e (by obtain ⟨C, h1, h2, _⟩ := z; exact ⟨C, h1, h2⟩)).elim, ⟨fun pins s σ H D I z => ?_⟩⟩
    obtain ⟨env, M, re, sm, C, h1, h2, _⟩ := z
    exact (e ⟨C, h1, h2⟩).elim
theorem xs_tryL {ok : Addr → Prop} {x n : Str} {B : Addr} {K : PySem.W.Frag} (i : Nat) {body suite : List Stmt} {b₀ : Stmt} {np pos' pos : Pos} {tb : DS} {ts : Addr → Addr → Addr → DS} (hK : X.K = K) (hB : X.mg x = some (.ref B)) (hg : Gl X x) (hs : X.stack = X.env :: X.outer) (hf : X.env.frame = some X.env.locals) (hN : X.N.Nodup) (hln : X.env.kindOf n = some .local) (tk : Takes X W)
    (hb : ∀ (W : WX) (pn : List (Addr × Obj)) (xe : Value → Shared → Prop), Takes (X.tr pn xe) W → PassesOwn (model X.prog X.w) X.A X.env xe → XSs (X.tr pn xe) W body tb)
    (h : ∀ C, ok C → ∀ (a dd : Addr) (oe : Obj) (pn : List (Addr × Obj)), Zc (.ref C) (some dd) oe → (∃ vs, oe.data = .fields vs) → XSs (X.suite a ((a, oe) :: pn)) W0 (b₀ :: suite) (ts C a dd)) (hdb : (x == ("__debug__" : Str)) = false := by decide) (hi : X.N[i]? = some n := by rfl) :
    XS X W (.Try body [.ExceptHandler (some (.Name x np)) (some n) (b₀ :: suite) pos'] [] [] pos) (dTryF (fun z => PySem.W.exmOne K z (.ref B)) i tb (fun a cls dd D env M => ∃ C, ok C ∧ cls = .ref C ∧ ts C a dd D env M)) := by
  subst hK
  have mb : MonoS tb := (hb W0 [] (fun _ _ => False) takes0 PassesOwn.never).mono
  refine xs_tryF i hs hf hN hln ⟨hg, hdb, .inl hB⟩ tk (fun a cls dd D D' env M l z => ?_) hb (suite_cls h) mb hi
  obtain ⟨C, h1, h2, h3⟩ := z
  exact ⟨C, h1, h2, (h C h1 a dd { cls := .ref C, dict := some dd, data := .fields #[] } [] ⟨rfl, rfl⟩ ⟨_, rfl⟩).mono _ _ _ _ l h3⟩
end
/-- a field of the error -/
def xfAt (f : Str) (Q : DK) (M : Mem) : Option Ob → Prop
  | some (.xd fs) => optD (look fs f) fun x => Q x M
  | _ => False
def xfK (a dd : Addr) (f : Str) (Q : DK) : DK := fun d M => d = .ob a ∧ xfAt f Q M (M dd)
def dXf (a dd : Addr) (f : Str) (te : DE) : DE := fun env M Q E => te env M (xfK a dd f Q) E
theorem s_xf {a dd f te env M Q E} : dXf a dd f te env M Q E = te env M (xfK a dd f Q) E := id rfl
theorem s_xfK {a dd f Q d M} : xfK a dd f Q d M = (d = .ob a ∧ xfAt f Q M (M dd)) := id rfl
theorem s_xfAt {f fs Q M} : xfAt f Q M (some (.xd fs)) = optD (look fs f) fun x => Q x M := id rfl
theorem xfAt_mono {f : Str} {Q Q' : DK} {M : Mem} (h : ∀ d M, Q d M → Q' d M) : ∀ {o}, xfAt f Q M o → xfAt f Q' M o := fun {o} q => by
  unfold xfAt at q ⊢
  split at q
  · unfold optD at q ⊢
    split at q
    · exact h _ _ q
    · exact q.elim
  · exact q.elim
section
variable {X : Cx} {W : WX} {a dd C : Addr} {oe : Obj} {pn : List (Addr × Obj)} {e : Expr} {te : DE} {pos : Pos} {n : Str}
theorem xe_xf (T : XfC X.K C) (hno : PySem.W.findIn X.K (.ref C) n = some none) (hz : Zc (.ref C) (some dd) oe) (hf : ∃ vs, oe.data = .fields vs) (he : XE (X.suite a ((a, oe) :: pn)) W e te) (hb : attributeBase e n X.env (eval e X.env) = eval e X.env := by rfl) :
    XE (X.suite a ((a, oe) :: pn)) W (.Attribute e n pos) (dXf a dd n te) := by
  refine ⟨fun env M Q Q' E E' hQ hE h => he.mono _ _ _ _ _ _ (fun d M1 ⟨z1, z2⟩ => ⟨z1, xfAt_mono hQ z2⟩) hE h, PEw (pe_xf T hno hz hf he.pe hb) ?_⟩
  rintro σ H Q ⟨env, M, re, s, h⟩
  refine stepE he.mono re s h (fun d M1 u H1 e1 s1 re1 r1 q => ?_) fun _ _ _ z => z
  obtain ⟨rfl, q⟩ := q
  unfold xfAt at q
  split at q
  · rename_i fs hm
    unfold optD at q
    split at q
    · rename_i v hv
      obtain ⟨us, e2, l⟩ := s1 _ _ hm
      obtain ⟨w, hw, rw'⟩ := l.lookup_some hv
      exact ⟨rep_v r1, rfl, dd, us, w, rfl, e2, hw, q w H1 e1 s1 rw'⟩
    · exact q.elim
  · exact q.elim
/-- isinstance of the error that the suite holds -/
def bIsF (K : PySem.W.Frag) (C a dd : Addr) : DCallG := fun ds M Q => ∃ (c : V) (cv : Value) (b : Bool) (fs : List (Str × D)), ds = [.ob a, .v c] ∧ (∀ u, RelV c u → u = cv) ∧ PySem.W.kitOne K (.ref C) cv = some b ∧ M dd = some (.xd fs) ∧ Q (.bl b) M
theorem bIsF_mono {K : PySem.W.Frag} {C a dd : Addr} : MonoC (bIsF K C a dd) := by
  rintro ds M Q Q' hQ ⟨c, cv, b, fs, h1, h2, h3, h4, h⟩
  exact ⟨c, cv, b, fs, h1, h2, h3, h4, hQ _ _ h⟩
theorem c_isF {K : PySem.W.Frag} (T : ExcC K C) (hK : X.K = K) (hz : Zc (.ref C) (some dd) oe) (hf : ∃ vs, oe.data = .fields vs) : CallR (X.suite a ((a, oe) :: pn)) (.builtin "isinstance") (upCallG X.K (bIsF K C a dd)) := by
  subst hK
  rintro pins s σ H xs us Q I r ⟨ds, M, rl, sm, c, cv, b, fs, rfl, h1, h2, hm, h⟩
  obtain ⟨u, v, rfl, q1, q2⟩ := rl2 rl
  rw [rep_v q1, rep_v q2] at r
  obtain ⟨ud, hdd, _⟩ := sm _ _ hm
  cases r with
  | cons rx rr =>
    cases rr with
    | cons rt rr =>
      cases rr
      cases rx
      have ec := h1 _ rt
      subst ec
      obtain ⟨hget, _⟩ := I.pin (a, oe) (List.mem_append.mpr (.inl List.mem_cons_self))
      obtain ⟨vs, hv⟩ := hf
      have hx : ObjOk X.prog X.w H s.heap dd (.xd ud) := I.hok dd _ hdd
      obtain ⟨mA, hns, _⟩ := hx
      obtain ⟨od, ho, _⟩ := lookIn_ns hns
      have J : PySem.W.InstAt s.heap a oe C (some od) := ⟨hget, hz.1, by unfold PySem.W.notCls; rw [hv] <;> rfl, by rw [hz.2]; exact ho⟩
      have hcl : (PySem.W.clsIn X.K C).isSome = true := by
        obtain ⟨cd, hc, _⟩ := PySem.W.any_some T.hd
        rw [hc]; rfl
      exact PySem.W.kia_one (PySem.W.kitx_exc hcl T.hg T.hk T.hs T.ha T.hn T.ht T.hm) I.kIn J h2 (fun z => nomatch z) fun tk => ⟨.bl b, H, I.kept (t' := tk) fun _ _ z => z, rfl, fin_val h sm⟩
end
end PL

set_option maxHeartbeats 4000000
namespace PL
open PySem PySem.Spec PyProof.Rows L2

/-! [elt for tg in iter if .. for tg1 in iter1 if ..] -/
def dLc2In (keep : Mem → Prop) (p : Pat) (tt : DT) (te : DE) (env : DEnv) (a : Addr) (Nx : List D → Mem → Prop) : List D → List D → Mem → Prop
  | [], acc, M => keep M ∧ Nx acc M
  | x :: r, acc, M => keep M ∧ match p.bind M x env with
    | some env1 => tt env1 M (fun b M2 => if b = true then te env1 M2 (fun y M3 => M3 a = some (.lst acc) ∧ acc.length < sizeLine ∧ dLc2In keep p tt te env a Nx r (acc ++ [y]) (mupd M3 a (.lst (acc ++ [y])))) noX else dLc2In keep p tt te env a Nx r acc M2) noX
    | none => False
def dLc2Go (keep : Mem → Prop) (p : Pat) (tt : DT) (ti1 : DI) (p1 : Pat) (tt1 : DT) (te : DE) (vs1 : List Nat) (env : DEnv) (a : Addr) (Q : DK) : List D → List D → Mem → Prop
  | [], acc, M => keep M ∧ M a = some (.lst acc) ∧ Q (.ob a) M
  | x :: r, acc, M => keep M ∧ match p.bind M x env with
    | some env1 => tt env1 M (fun b M2 => if b = true then ti1 env1 M2 (fun J1 M3 => dLc2In J1.keep p1 tt1 te (wipeD env1 vs1) a (fun acc' M4 => dLc2Go keep p tt ti1 p1 tt1 te vs1 env a Q r acc' M4) J1.items acc M3) noX else dLc2Go keep p tt ti1 p1 tt1 te vs1 env a Q r acc M2) noX
    | none => False
def dLc2 (ti : DI) (p : Pat) (tt : DT) (ti1 : DI) (p1 : Pat) (tt1 : DT) (te : DE) (vs vs1 : List Nat) : DE := fun env M Q E => ti env M (fun J M1 => ∀ a, M1 a = none → dLc2Go J.keep p tt ti1 p1 tt1 te vs1 (wipeD env vs) a Q J.items [] (mupd M1 a (.lst []))) E
theorem dLc2In_mono {keep : Mem → Prop} {p : Pat} {tt : DT} {te : DE} (ht : MonoT tt) (he : MonoE te) {env : DEnv} {a : Addr} {Nx Nx' : List D → Mem → Prop} (hN : ∀ acc M, Nx acc M → Nx' acc M) : ∀ (xs acc : List D) (M : Mem), dLc2In keep p tt te env a Nx xs acc M → dLc2In keep p tt te env a Nx' xs acc M
  | [], acc, M, h => ⟨h.1, hN _ _ h.2⟩
  | x :: r, acc, M, h => by
    refine ⟨h.1, ?_⟩
    have h2 := h.2
    split
    · rename_i env1 hb1
      rw [hb1] at h2
      refine ht _ _ _ _ _ _ (fun b M2 => ?_) (fun _ _ _ z => z) h2
      cases b with
      | true =>
        rw [if_pos rfl, if_pos rfl]
        exact he _ _ _ _ _ _ (fun y M3 z => ⟨z.1, z.2.1, dLc2In_mono ht he hN r _ _ z.2.2⟩) (fun _ _ _ z => z)
      | false =>
        rw [if_neg Bool.false_ne_true, if_neg Bool.false_ne_true]
        exact dLc2In_mono ht he hN r _ _
    · rename_i hb1
      rw [hb1] at h2
      exact h2
theorem dLc2Go_mono {keep : Mem → Prop} {p p1 : Pat} {tt tt1 : DT} {ti1 : DI} {te : DE} {vs1 : List Nat} (ht : MonoT tt) (hi1 : MonoI ti1) (ht1 : MonoT tt1) (he : MonoE te) {env : DEnv} {a : Addr} {Q Q' : DK} (hQ : ∀ d M, Q d M → Q' d M) :
    ∀ (xs acc : List D) (M : Mem), dLc2Go keep p tt ti1 p1 tt1 te vs1 env a Q xs acc M → dLc2Go keep p tt ti1 p1 tt1 te vs1 env a Q' xs acc M
  | [], acc, M, h => ⟨h.1, h.2.1, hQ _ _ h.2.2⟩
  | x :: r, acc, M, h => by
    refine ⟨h.1, ?_⟩
    have h2 := h.2
    split
    · rename_i env1 hb1
      rw [hb1] at h2
      refine ht _ _ _ _ _ _ (fun b M2 => ?_) (fun _ _ _ z => z) h2
      cases b with
      | true =>
        rw [if_pos rfl, if_pos rfl]
        exact hi1 _ _ _ _ _ _ (fun J M3 z => dLc2In_mono ht1 he (fun acc' M4 => dLc2Go_mono ht hi1 ht1 he hQ r acc' M4) _ _ _ z) (fun _ _ _ z => z)
      | false =>
        rw [if_neg Bool.false_ne_true, if_neg Bool.false_ne_true]
        exact dLc2Go_mono ht hi1 ht1 he hQ r _ _
    · rename_i hb1
      rw [hb1] at h2
      exact h2
section
variable {X : Cx} {W : WX} {elt tg iter tg1 iter1 : Expr} {ifs ifs1 : List Expr} {scope : Scope} {own : List (Str × Nat)} {pos : Pos} {ti ti1 : DI} {p p1 : Pat} {tt tt1 : DT} {te : DE}
theorem dLc2_mono {vs vs1 : List Nat} (hi : MonoI ti) (mt : MonoT tt) (hi1 : MonoI ti1) (mt1 : MonoT tt1) (me : MonoE te) : MonoE (dLc2 ti p tt ti1 p1 tt1 te vs vs1) := fun env M Q Q' E E' hQ hE => hi _ _ _ _ _ _ (fun J M1 q a ha => dLc2Go_mono mt hi1 mt1 me hQ _ _ _ (q a ha)) hE
theorem lc2_up (hi : XI X W tg iter ti) (mt : MonoT tt) (hi1 : MonoI ti1) (mt1 : MonoT tt1) (me : MonoE te) (vs vs1 : List Nat) (hv : ∀ i ∈ p.slots, i ∈ vs) (hv1 : ∀ i ∈ p1.slots, i ∈ vs1) :
    ∀ σ H Q, liftE X.K W (dLc2 ti p tt ti1 p1 tt1 te vs vs1) σ H Q → tLc2 (liftI X.K W ti) (p.tg X.K) (liftT X.K W0 tt) (liftI X.K W0 ti1) (p1.tg X.K) (liftT X.K W0 tt1) (liftE X.K W0 te) vs vs1 σ H Q := by
  rintro σ H Q ⟨env, M, re, s, h⟩
  refine ⟨env, M, re, s, hi.mono _ _ _ _ _ _ (fun J M1 q J' H1 e1 s1 ir => ?_) (fun _ _ _ z => z) h⟩
  intro a ha
  have q := q a (s1.free ha)
  have sA : Sim X.K (upd H1 a (.lst [])) (mupd M1 a (.lst [])) := s1.new ha (repO_lst (Ext.new ha) .nil)
  have eA : Ext X.K H1 (upd H1 a (.lst [])) := Ext.new ha
  refine ⟨fun i m H' => m = J.items.length - i ∧ i ≤ J.items.length ∧ Ext X.K H1 H' ∧ ∃ M acc, Sim X.K H' M ∧ dLc2Go J.keep p tt ti1 p1 tt1 te vs1 (wipeD env vs) a (upK X.K H Q) (J.items.drop i) acc M,
    ⟨J.items.length, by simp, Nat.zero_le _, eA, _, [], sA, by simpa using q⟩, ?_⟩
  rintro i m H2 ⟨rfl, hi2, e2, M2, acc, s2, q2⟩
  by_cases hlt : i < J.items.length
  · rw [List.drop_eq_getElem_cons hlt] at q2
    obtain ⟨kp, q2⟩ := q2
    refine .inr ⟨ir.go i H2 M2 e2 s2 kp hlt, fun H' => Ext X.K H1 H' ∧ ∃ M acc, Sim X.K H' M ∧ dLc2Go J.keep p tt ti1 p1 tt1 te vs1 (wipeD env vs) a (upK X.K H Q) (J.items.drop (i + 1)) acc M, fun H' n => ⟨_, by omega, rfl, hlt, n⟩, fun x H3 y => ?_⟩
    obtain ⟨d, hd, r3, e3, s3⟩ := ir.yld i H2 M2 x H3 e2 s2 kp hlt y
    rw [List.getElem?_eq_getElem hlt] at hd
    obtain rfl := Option.some.inj hd
    split at q2
    · rename_i env3 hb3
      have re3 : RepE X.K H3 (wipeD env vs) (L2.wipe σ vs) := (re.mono ((e1.trans e2).trans e3)).wipe vs
      obtain ⟨σ3, h1, hw, h3⟩ := Pat.rep s3 vs p r3 re3 hb3 hv
      refine h3 _ ⟨hw.trans (wipe_wipe vs), ?_⟩
      refine stepT mt h1 s3 q2 (fun b M4 H4 e4 s4 re4 q4 => ?_) fun _ _ _ z => z.elim
      cases b with
      | true =>
        rw [if_pos rfl] at q4 ⊢
        refine ⟨env3, M4, re4, s4, hi1 _ _ _ _ _ _ (fun J1 M5 q5 J1' H5 e5 s5 ir1 => ?_) (fun _ _ _ z => z.elim) q4⟩
        have e15 : Ext X.K H1 H5 := ((e2.trans e3).trans e4).trans e5
        refine ⟨fun j k H' => k = J1.items.length - j ∧ j ≤ J1.items.length ∧ Ext X.K H5 H' ∧ ∃ M acc, Sim X.K H' M ∧ dLc2In J1.keep p1 tt1 te (wipeD env3 vs1) a (fun acc' M4 => dLc2Go J.keep p tt ti1 p1 tt1 te vs1 (wipeD env vs) a (upK X.K H Q) (J.items.drop (i + 1)) acc' M4) (J1.items.drop j) acc M,
          ⟨J1.items.length, by simp, Nat.zero_le _, Ext.refl, M5, acc, s5, by simpa using q5⟩, ?_⟩
        rintro j k H6 ⟨rfl, hj2, e6, M6, acc6, s6, q6⟩
        by_cases hlt1 : j < J1.items.length
        · rw [List.drop_eq_getElem_cons hlt1] at q6
          obtain ⟨kp1, q6⟩ := q6
          refine .inr ⟨ir1.go j H6 M6 e6 s6 kp1 hlt1, fun H' => Ext X.K H5 H' ∧ ∃ M acc, Sim X.K H' M ∧ dLc2In J1.keep p1 tt1 te (wipeD env3 vs1) a (fun acc' M4 => dLc2Go J.keep p tt ti1 p1 tt1 te vs1 (wipeD env vs) a (upK X.K H Q) (J.items.drop (i + 1)) acc' M4) (J1.items.drop (j + 1)) acc M,
            fun H' n => ⟨_, by omega, rfl, hlt1, n⟩, fun x1 H7 y1 => ?_⟩
          obtain ⟨d1, hd1, r7, e7, s7⟩ := ir1.yld j H6 M6 x1 H7 e6 s6 kp1 hlt1 y1
          rw [List.getElem?_eq_getElem hlt1] at hd1
          obtain rfl := Option.some.inj hd1
          split at q6
          · rename_i env7 hb7
            have re7 : RepE X.K H7 (wipeD env3 vs1) (L2.wipe σ3 vs1) := (re4.mono ((e5.trans e6).trans e7)).wipe vs1
            obtain ⟨σ7, h71, hw7, h73⟩ := Pat.rep s7 vs1 p1 r7 re7 hb7 hv1
            refine h73 _ ⟨hw7.trans (wipe_wipe vs1), ?_⟩
            refine stepT mt1 h71 s7 q6 (fun b M8 H8 e8 s8 re8 q8 => ?_) fun _ _ _ z => z.elim
            cases b with
            | true =>
              rw [if_pos rfl] at q8 ⊢
              refine stepE me re8 s8 q8 (fun y M9 u H9 e9 s9 re9 r9 q9 => ?_) fun _ _ _ z => z.elim
              obtain ⟨ma9, lz, q9⟩ := q9
              obtain ⟨us, h9, l9⟩ := s9.lst ma9
              have ex : Ext X.K H9 (upd H9 a (.lst (us ++ [u]))) := Ext.mut h9 True.intro
              refine ⟨us, h9, by rw [l9.length]; exact lz, (((e6.trans e7).trans e8).trans e9).trans ex, _, _, s9.put h9 True.intro (repO_lst ex (RepL.append l9 (.cons r9 .nil))), q9⟩
            | false =>
              rw [if_neg Bool.false_ne_true] at q8 ⊢
              exact ⟨(e6.trans e7).trans e8, M8, acc6, s8, q8⟩
          · exact q6.elim
        · have e : j = J1.items.length := by omega
          subst e
          rw [List.drop_length] at q6
          exact .inl ⟨ir1.stop H6 M6 e6 s6 q6.1, e15.trans e6, M6, acc6, s6, q6.2⟩
      | false =>
        rw [if_neg Bool.false_ne_true] at q4 ⊢
        exact ⟨(e2.trans e3).trans e4, M4, acc, s4, q4⟩
    · exact q2.elim
  · have e : i = J.items.length := by omega
    subst e
    rw [List.drop_length] at q2
    exact .inl ⟨ir.stop H2 M2 e2 s2 q2.1, q2.2.2 (.ref a) H2 (e1.trans e2) s2 rep_of⟩
theorem xe_lc2 {vs1 : List Nat} (hc : X.calm = true) (hN : X.N.Nodup) (hi : XI X W tg iter ti) (ok : BlkOk X.N X.env.scope scope own) (hg : BlkAll X scope fun Y => PG Y tg (p.tg X.K)) (ht : BlkAll X scope fun Y => XTs Y W0 ifs tt)
    (hi1 : BlkAll X scope fun Y => XI Y W0 tg1 iter1 ti1) (hg1 : BlkAll X scope fun Y => PG Y tg1 (p1.tg X.K)) (ht1 : BlkAll X scope fun Y => XTs Y W0 ifs1 tt1) (he : BlkAll X scope fun Y => XE Y W0 elt te)
    (hv : p.slots.all (fun i => decide (i ∈ own.map (·.2))) = true := by decide) (hv1 : p1.slots.all (fun i => decide (i ∈ vs1)) = true := by decide) (hv2 : vs1.all (fun i => decide (i ∈ own.map (·.2))) = true := by decide)
    (hs : ∀ x, foldedSetIterable iter X.env x = pure x := by intro _; rfl) (hs1 : ∀ env x, foldedSetIterable iter1 env x = pure x := by intro _ _; rfl) :
    XE X W (.ListComp elt [⟨tg, iter, ifs, 0⟩, ⟨tg1, iter1, ifs1, 0⟩] scope pos) (dLc2 ti p tt ti1 p1 tt1 te (own.map (·.2)) vs1) := by
  have mt := (ht X.s_0 X.H_0 0 [] []).mono
  have mt1 := (ht1 X.s_0 X.H_0 0 [] []).mono
  have mi1 := (hi1 X.s_0 X.H_0 0 [] []).mono
  have me := (he X.s_0 X.H_0 0 [] []).mono
  refine ⟨dLc2_mono hi.mono mt mi1 mt1 me, PEw (pe_lc2 (vs1 := vs1) (g := p.tg X.K) (g1 := p1.tg X.K) (tt := liftT X.K W0 tt) (tt1 := liftT X.K W0 tt1) (wi1 := liftI X.K W0 ti1) (te := liftE X.K W0 te) hc hN hi.pi ok (fun i hi => of_decide_eq_true (List.all_eq_true.mp hv2 i hi)) hg (fun s H C cl fp => (ht s H C cl fp).pts) (fun s H C cl fp => (hi1 s H C cl fp).pi) hg1 (fun s H C cl fp => (ht1 s H C cl fp).pts) (fun s H C cl fp => (he s H C cl fp).pe) hs hs1)
    (lc2_up hi mt mi1 mt1 me _ _ (fun i h => ?_) fun i h => ?_)⟩
  · exact of_decide_eq_true (List.all_eq_true.mp hv i h)
  · exact of_decide_eq_true (List.all_eq_true.mp hv1 i h)
end
/-! stepping -/
theorem s_lc2 {ti p tt ti1 p1 tt1 te vs vs1 env M Q E} : dLc2 ti p tt ti1 p1 tt1 te vs vs1 env M Q E = ti env M (fun J M1 => ∀ a, M1 a = none → dLc2Go J.keep p tt ti1 p1 tt1 te vs1 (wipeD env vs) a Q J.items [] (mupd M1 a (.lst []))) E := id rfl
end PL

set_option maxHeartbeats 4000000
namespace PL
open PySem PySem.Spec PyProof.Rows L2
section
variable {P : Program} {w : World} {A : Around} {E : Value → Shared → Prop} {s : Shared} {a : Addr}
theorem init_textsT {S l : Addr} {items : Array Value} {xs : List Str} {Q : Value → Shared → Prop} (hh : A.handled = none) (hS : s.heap.get? S = some (newSetO w)) (hl : s.heap.IsTuple l items) (hne : l ≠ S) (hsz : items.size = xs.length) (hv : ∀ (j : Nat) (v : Value), items[j]? = some v → ∃ t, v = Value.str (xs.getD j ⟨#[]⟩) t)
    (hb : xs.length + 1 < scanBound) (h : ∀ h' tk, SetOfTexts w h' S (firsts [] xs) → (∀ b o, b ≠ S → s.heap.get? b = some o → h'.get? b = some o) → Q .none { s with heap := h', toks := tk }) :
    wpAny (model P w) A (Builtin.«set.__init__» ⟨[.ref S, .ref l], []⟩) (fun f s' => ∃ r, f = .done (.ret r) ∧ Q r s') E s := by
  have hT : s.TypeIs (.ref S) "set" := ⟨_, hS, rfl⟩
  obtain ⟨ol, hol, hcl, nl, hdl⟩ := hl
  obtain ⟨ocls, odict, odata, oslots⟩ := ol
  simp only at hcl hdl
  subst hcl
  subst hdl
  have hl2 : s.heap.IsTuple l items := ⟨_, hol, rfl, nl, rfl⟩
  have a1 := F.sub_tuple_set
  have a2 := F.sub_tuple_frozenset
  have a3 : (Value.type "tuple" == Value.type "dict") = false := by decide
  unfold Builtin.«set.__init__» noKeywords Builtin.Frozenset.updateFrom
  generalize hp : pyIter = go
  wp_walk
  subst hp
  refine wpAny_pyIter_tuple hl2 (wpAny_bind (wpAny_runValue ?_))
  have lS : S < s.heap.objs.size := Heap.lt_size hS
  have ll : l < s.heap.objs.size := Heap.lt_size hol
  have hI : l ≠ s.heap.objs.size := Nat.ne_of_lt ll
  have hSI : S ∉ [s.heap.objs.size, l] := by
    simp only [List.mem_cons, List.not_mem_nil, or_false, not_or]
    exact ⟨Nat.ne_of_lt lS, hne.symm⟩
  have e0 : (s.heap.push { cls := .type "tuple_iterator", data := .fields #[.ref l, .int 0 0] }).get? S = some (newSetO w) := Heap.get?_push_of_some _ hS
  refine takes_walk (A := A) (P := P) (w := w) ((Walks.tuple (by simp [hh]) _ l hI items).toS) hSI xs [] 0 _ (by omega) (by simpa using hb) (fun j v pv hj => hv j v (by simpa using pv)) ⟨⟨_, Heap.get?_push_size _ rfl, rfl, rfl⟩, hl2.push _⟩ (empty_held e0) ?_
  intro s1 mv q
  obtain ⟨h', g', d', tk', o'⟩ := s1
  obtain rfl : g' = s.gens := mv.gens
  obtain rfl : d' = s.drawn := mv.drawn
  obtain rfl : o' = s.os := mv.os
  refine wpAny_pure (wpAny_pure ⟨_, rfl, h h' tk' q fun b o hb e => ?_⟩)
  refine mv.heap b o ?_ (Heap.get?_push_of_some _ e)
  simp only [List.mem_cons, List.not_mem_nil, or_false, not_or]
  exact ⟨hb, Nat.ne_of_lt (Heap.lt_size e)⟩
theorem call_set_textsT {l : Addr} {items : Array Value} {xs : List Str} {Q : Value → Shared → Prop} (hh : A.handled = none) (hl : s.heap.IsTuple l items) (hsz : items.size = xs.length) (hv : ∀ (j : Nat) (v : Value), items[j]? = some v → ∃ t, v = Value.str (xs.getD j ⟨#[]⟩) t)
    (hb : xs.length + 1 < scanBound) (h : ∀ h' tk, SetOfTexts w h' s.heap.objs.size (firsts [] xs) → (∀ b o, s.heap.get? b = some o → h'.get? b = some o) → Q (.ref s.heap.objs.size) { s with heap := h', toks := tk }) : wpAny (model P w) A (call (.type "set") [.ref l]) Q E s := by
  have c1 := F.called_set.notType
  have c2 := F.called_set.canCreate
  have c3 := F.called_set.made
  have c4 := F.called_set.sub
  have c5 := F.typeCall_set_1 (.ref l)
  obtain ⟨_, _, c6⟩ := F.called_set.mro
  refine wpAny_call (codeAny_of_tree ?_)
  show wpAny (model P w) _ (callAny (.type "set") ⟨[.ref l], []⟩) _ _ s
  refine wpAny_pure ⟨Code.quiet_builtin _ (by decide +kernel), codeAny_builtin F.entry_type_call ?_⟩
  rw [Around.under_plain (weight_type_call_type "set" [.ref l] []) rfl]
  repeat (any_goals (first | assumption | wp_step))
  refine codeAny_mono (code_set_led1 (.ref l) (E := E) (Q₁ := fun v s1 => v = .ref s.heap.objs.size ∧ s1 = { s with heap := s.heap.push (newSetO w) }) ⟨rfl, rfl⟩) fun r s1 hr => ?_
  obtain e | fl := r
  · exact hr
  cases fl <;> first | exact hr.elim | skip
  obtain ⟨rfl, rfl⟩ := hr
  have new : (s.heap.push (newSetO w)).get? s.heap.objs.size = some (newSetO w) := Heap.get?_push_size _ rfl
  have ty : Shared.TypeIs { s with heap := s.heap.push (newSetO w) } (.ref s.heap.objs.size) "set" := ⟨_, new, rfl⟩
  have c7 := F.called_set.init.lookup
  have c8 := F.called_set.init.bind (.ref s.heap.objs.size)
  have hlt : l ≠ s.heap.objs.size := by
    obtain ⟨o, ho, _⟩ := hl
    exact Nat.ne_of_lt (Heap.lt_size ho)
  repeat (any_goals (first | assumption | wp_step))
  refine codeAny_mono (codeAny_call_builtin (R := wants (fun r s2 => r = .none ∧ ∃ h' tk, s2 = { s with heap := h', toks := tk } ∧ SetOfTexts w h' s.heap.objs.size (firsts [] xs) ∧ ∀ b o, s.heap.get? b = some o → h'.get? b = some o) E) F.called_set.init.plain F.entry_set_init (check_set_init_1 ty ?_)) fun r2 s2 hr2 => ?_
  · refine wpAny_mono (init_textsT (E := E) (Q := fun r s2 => r = .none ∧ ∃ h' tk, s2 = { s with heap := h', toks := tk } ∧ SetOfTexts w h' s.heap.objs.size (firsts [] xs) ∧ ∀ b o, s.heap.get? b = some o → h'.get? b = some o) (by simp [hh]) new (hl.push _) hlt hsz hv hb fun h' tk q k => ⟨rfl, h', tk, rfl, q, fun b o e => k b o (Nat.ne_of_lt (Heap.lt_size e)) (Heap.get?_push_of_some _ e)⟩) ?_ fun e s2 q => q
    rintro f s2 ⟨r, rfl, q⟩
    exact q
  · obtain e | fl := r2
    · exact hr2
    cases fl <;> first | exact hr2.elim | skip
    obtain ⟨rfl, h', tk, rfl, q, k⟩ := hr2
    repeat (any_goals (first | assumption | wp_step))
    exact h _ _ q k
end
/-- len(set(xs)) of a tuple of texts: the texts, each once -/
def lenSetR (d : D) (M : Mem) (Q : DK) : Prop := ∃ ss : List Str, d = .tup (ss.map D.str) ∧ ss.length < 1000 ∧ Q (.int (firsts [] ss).length) M
def lenSetK (Q : DK) : DK := fun d M => lenSetR d M Q
def dLenSet (te : DE) : DE := fun env M Q E => te env M (lenSetK Q) E
theorem s_lenSet {te env M Q E} : dLenSet te env M Q E = te env M (lenSetK Q) E := id rfl
theorem s_lenSetK {d M Q} : lenSetK Q d M = lenSetR d M Q := id rfl
theorem xe_lenSet {X : Cx} {W : WX} {a : Expr} {ta : DE} {p p2 q pos : Pos} (hc : X.calm = true) (hg : Gl X "len") (hm : X.mg "len" = none) (hg2 : Gl X "set") (hm2 : X.mg "set" = none) (ha : XE X W a ta) (na : starEach [a] X.env = (false, eval a X.env) :: starEach [] X.env := by rfl) :
    XE X W (.Call (.Name "len" p) [.Call (.Name "set" p2) [a] [] q] [] pos) (dLenSet ta) := by
  refine ⟨fun env M Q Q' E E' hQ hE => ha.mono _ _ _ _ _ _ (fun d M1 ⟨ss, h1, h2, h⟩ => ⟨ss, h1, h2, hQ _ _ h⟩) hE, ⟨fun pins s σ H Q I h => ?_⟩⟩
  obtain ⟨env, M, re, sm, h⟩ := h
  have h1 : liftE X.K W ta σ H fun u H1 => ∃ (l : Addr) (ss : List Str), u = .ref l ∧ SqT X.K H1 l (ss.map V.str) ∧ ss.length < 1000 ∧ Q (.int (firsts [] ss).length) H1 := by
    refine stepE ha.mono re sm h (fun d M1 u H1 e1 s1 re1 r1 q => ?_) fun _ _ _ z => z
    obtain ⟨ss, rfl, q3, q4⟩ := q
    obtain ⟨l, us, rfl, hs, lr⟩ := rep_tup r1
    rw [lr.strs] at hs
    exact ⟨l, ss, rfl, hs, q3, q4 _ H1 e1 s1 rep_of⟩
  refine Call_ (ld_blt I hg hm (by rfl) ?_)
  refine PyProof.Rows.callWith_builtin1 (PyProof.Rows.args_cons ?_ rfl) rfl rfl
  refine Call_ (ld_blt I hg2 hm2 (by rfl) ?_)
  refine PyProof.Rows.callWith_type1 (PyProof.Rows.args_cons (thn (ha.pe.run pins s σ H _ I h1) fun v s1 ⟨x, H1, I1, r1, q1⟩ => PyProof.Rows.args_nil ?_) na) na rfl
  obtain ⟨l, ss, rfl, hs, few, q⟩ := q1
  cases r1
  obtain ⟨its, rv, pl, hz⟩ := I1.tuple hs
  have sa : StrsAre its ss := strsAre_of rv
  have isz : its.toArray.size = ss.length := by rw [List.size_toArray, ← rv.length, List.length_map]
  refine call_set_textsT (I1.ok.hd hc) pl isz (fun j v e => ?_) (by have : scanBound = 4096 := rfl; omega) fun h' tk S k => PyProof.Rows.args_nil ?_
  · obtain ⟨t, z⟩ := SS.strs_at sa j v (by simpa using e)
    exact ⟨t, z⟩
  have I2 : Inv X pins σ H1 { s1 with heap := h', toks := tk } := I1.kept k
  have fl := firsts_len ss []
  simp only [List.length_nil] at fl
  obtain ⟨es, t, ⟨⟨o, ep, ho, hx, hd⟩, ge, nd, fw, hf, hr, hl⟩, pm⟩ := S
  have sz : es.size = (firsts [] ss).length := by rw [← pm.length_eq, List.length_map, Array.length_toList]
  refine call_len_set ho hx hd hf (by rw [sz]; omega) ⟨.int (firsts [] ss).length, H1, I2.tok _, ⟨_, by rw [sz]⟩, q⟩
/-- each once: as many just if none comes twice -/
theorem firsts_go : ∀ (ss ks : List Str), ks.Nodup → (firsts ks ss).Nodup ∧ (firsts ks ss).length ≤ ks.length + ss.length ∧ ((firsts ks ss).length = ks.length + ss.length ↔ ss.Nodup ∧ ∀ x ∈ ss, x ∉ ks)
  | [], ks, h => ⟨h, by simp [firsts], by simp [firsts]⟩
  | x :: r, ks, h => by
    rw [firsts]
    by_cases e : x ∈ ks
    · rw [if_pos e]
      obtain ⟨h1, h2, h3⟩ := firsts_go r ks h
      refine ⟨h1, by simp only [List.length_cons]; omega, ⟨fun z => ?_, fun z => absurd e (z.2 x List.mem_cons_self)⟩⟩
      simp only [List.length_cons] at z
      omega
    · rw [if_neg e]
      obtain ⟨h1, h2, h3⟩ := firsts_go r (x :: ks) (List.nodup_cons.mpr ⟨e, h⟩)
      simp only [List.length_cons] at h2 h3 ⊢
      refine ⟨h1, by omega, ?_⟩
      rw [show ks.length + (r.length + 1) = ks.length + 1 + r.length by omega, h3, List.nodup_cons]
      constructor
      · rintro ⟨a, b⟩
        refine ⟨⟨fun z => b x z List.mem_cons_self, a⟩, fun y hy => ?_⟩
        rcases List.mem_cons.mp hy with rfl | hy
        · exact e
        · exact fun z => b y hy (List.mem_cons_of_mem _ z)
      · rintro ⟨⟨a, b⟩, c⟩
        refine ⟨b, fun y hy z => ?_⟩
        rcases List.mem_cons.mp z with rfl | z
        · exact a hy
        · exact c y (List.mem_cons_of_mem _ hy) z
theorem firsts_lt {ss : List Str} : (firsts [] ss).length < ss.length ↔ ¬ ss.Nodup := by
  obtain ⟨_, h2, h3⟩ := firsts_go ss [] List.nodup_nil
  simp only [List.length_nil, Nat.zero_add, List.not_mem_nil, not_false_eq_true, implies_true, and_true] at h2 h3
  rw [← h3]; omega
theorem firsts_eq {ss : List Str} : (firsts [] ss).length = ss.length ↔ ss.Nodup := by
  obtain ⟨_, h2, h3⟩ := firsts_go ss [] List.nodup_nil
  simpa using h3
end PL

set_option maxHeartbeats 4000000
namespace PL
open PySem PySem.Spec PyProof.Rows L2
open PySem.AutoSeq1 (wpAny_loadPart')
/-! a tuple * 1 is the tuple -/
theorem tuple_mul1 (l : Addr) (items : Array Value) (n : Nat) (dd : Option Addr) (sl : Array (Option Value)) (u : Tok) :
    PySem.Meets (Builtin.«tuple.__mul__» ⟨[.ref l, .int 1 u], []⟩) (fun _ R s => s.heap.get? l = some { cls := .type "tuple", dict := dd, data := .seq items n, slots := sl } ∧ R (.ok (.ret (Value.ref l))) s) :=
  .of_wp fun prog w A R s h => by
    obtain ⟨hp, g, d, tk, os⟩ := s
    obtain ⟨hl, h⟩ := h
    have f1 := AutoSeq1.idx_int
    have c0 : (decide ((1 : Int) < -(2 ^ 63)) || decide ((1 : Int) ≥ 2 ^ 63)) = false := by decide
    have c1 : (items.isEmpty || (1 : Int) == 1) = true := by simp
    wp_walk using wpAny_loadPart' hl
    repeat (first
      | (refine wpAny_ite_false (decide_eq_false (by rw [c0]; exact Bool.false_ne_true)) ?_; wp_walk using wpAny_loadPart' hl)
      | (refine wpAny_ite_true (decide_eq_true c1) ?_; wp_walk using wpAny_loadPart' hl))
    exact ⟨_, rfl, h⟩
theorem rep_one {α : Type} (xs : List α) : (List.replicate (1 : Int).toNat xs).flatten = xs := by
  show (List.replicate 1 xs).flatten = xs
  simp
theorem op_one {X : Cx} {pins : List (Addr × Obj)} {s : Shared} {σ : L2.St} {H : Hp} {l : Addr} {u : Tok} {xs : List V} {Q : Value → Shared → Prop} {E : Value → Shared → Prop} (I : Inv X pins σ H s) (hT : SqT X.K H l xs) (h : Q (.ref l) s) :
    wpAny (model X.prog X.w) X.A (binaryOp .Mult (.ref l) (.int 1 u)) Q E s := by
  obtain ⟨its, r, ⟨⟨cls, dd, data, sl⟩, ho, hc, n, hd⟩, hs⟩ := I.tuple hT
  simp only at hc hd
  subst hc hd
  exact wpAny_binaryOp_repeat_ref (T := "tuple") (U := "int") (by decide) ⟨_, ho, rfl⟩ (fun s' => typeIs_int s' 1 u) noFill_tuple_mul F.fills_int_mul F.slot_int_rmul repeat_tuple F.slot_int_index.lookup
    (call_meets F.slot_int_rmul (typeIs_int s 1 u) F.entry_int_rmul (F.args_int_rmul_2 _ _) (int_rmul_tuple 1 u l its.toArray n dd sl)
      ⟨ho, rfl, ⟨_, ho, rfl⟩, call_meets F.slot_tuple_mul ⟨_, ho, rfl⟩ F.entry_tuple_mul (F.args_tuple_mul_2 _ _) (tuple_mul1 l its.toArray n dd sl u) ⟨ho, h⟩⟩)
def opMulT : DOp2
  | .tup xs, .v (.int k), _ => .val (xs ≠ [] ∧ 1 ≤ k ∧ k ≤ 1000 ∧ xs.length ≤ 1000) (.tup (List.replicate k.toNat xs).flatten)
  | _, _, _ => .bad
theorem x_mulT {X : Cx} : XOp X (binaryOp .Mult) opMulT := by
  rintro pins s σ H x y v u Q I rx ry ⟨dx, dy, M, r1, r2, sm, h⟩
  unfold opMulT at h
  split at h <;> first | exact h.elim | skip
  rename_i z k
  obtain ⟨h1, h2, h3, h4⟩ := h.1
  by_cases h5 : 2 ≤ k
  · exact x_mul pins s σ H x y v u Q I rx ry ⟨_, _, M, r1, r2, sm, ⟨h1, h5, h3, h4⟩, h.2⟩
  obtain rfl : k = 1 := by omega
  obtain ⟨a, us, rfl, q1, l1⟩ := rep_tup r1
  rw [rep_v r2] at ry
  cases rx
  obtain ⟨t', rfl⟩ := ry
  refine op_one I q1 ⟨.ref a, H, I, rfl, ?_⟩
  have e := h.2
  rw [rep_one] at e
  exact fin_rep e sm r1
/-! sum of a list of ints -/
def bSum : DCall
  | [.v (.ref a)], M => match M a with
    | some (.lst ds) => match intsOf ds with
      | some ns => .val True (.int ns.sum)
      | none => .bad
    | _ => .bad
  | _, _ => .bad
theorem c_sum {X : Cx} (hc : X.calm = true) : CallR X (.builtin "sum") (upCall X.K bSum) := by
  rintro pins s σ H xs us Q I r ⟨ds, M, rl, sm, h⟩
  unfold bSum at h
  split at h <;> first | exact h.elim | skip
  split at h <;> first | exact h.elim | skip
  split at h <;> first | exact h.elim | skip
  rename_i hm _ bs hb
  obtain ⟨u, rfl, q⟩ := rl1 rl
  rw [rep_v q] at r
  obtain ⟨ws, q1, l1⟩ := sm.seq (.inl hm)
  rw [intsOf_eq hb] at l1
  rw [l1.ints] at q1
  exact cr_sum hc pins s σ H _ us Q I r ⟨_, _, rfl, q1, fin_val h.2 sm⟩
end PL

set_option maxHeartbeats 4000000
namespace PL
open PySem PySem.Spec PyProof.Rows L2
/-! stepping a comprehension of two clauses -/
def lc2J (p1 : Pat) (tt1 : DT) (te : DE) (env1 : DEnv) (a : Addr) (acc : List D) (N : List D → Mem → Prop) : DIt → Mem → Prop := fun J M => dLc2In J.keep p1 tt1 te env1 a N J.items acc M
def lc2B (ti1 : DI) (p1 : Pat) (tt1 : DT) (te : DE) (vs1 : List Nat) (a : Addr) (acc : List D) (N : List D → Mem → Prop) (env : DEnv) (M : Mem) : Prop := ti1 env M (lc2J p1 tt1 te (wipeD env vs1) a acc N) noX
def lc2T (ti1 : DI) (p1 : Pat) (tt1 : DT) (te : DE) (vs1 : List Nat) (a : Addr) (acc : List D) (N : List D → Mem → Prop) (env : DEnv) : Bool → Mem → Prop := fun b M => bifM b (lc2B ti1 p1 tt1 te vs1 a acc N env) (N acc) M
def lc2E (tt : DT) (ti1 : DI) (p1 : Pat) (tt1 : DT) (te : DE) (vs1 : List Nat) (a : Addr) (acc : List D) (N : List D → Mem → Prop) (env : DEnv) (M : Mem) : Prop := tt env M (lc2T ti1 p1 tt1 te vs1 a acc N env) noX
section
variable {te : DE} {tt tt1 : DT} {ti1 : DI} {p1 : Pat} {vs1 : List Nat} {a : Addr} {acc : List D} {N : List D → Mem → Prop} {env : DEnv} {M : Mem} {b : Bool}
theorem s_lc2J {J} : lc2J p1 tt1 te env a acc N J M = dLc2In J.keep p1 tt1 te env a N J.items acc M := id rfl
theorem s_lc2B : lc2B ti1 p1 tt1 te vs1 a acc N env M = ti1 env M (lc2J p1 tt1 te (wipeD env vs1) a acc N) noX := id rfl
theorem s_lc2T : lc2T ti1 p1 tt1 te vs1 a acc N env b M = bifM b (lc2B ti1 p1 tt1 te vs1 a acc N env) (N acc) M := id rfl
theorem s_lc2E : lc2E tt ti1 p1 tt1 te vs1 a acc N env M = tt env M (lc2T ti1 p1 tt1 te vs1 a acc N env) noX := id rfl
end
theorem lc2_in {α : Type} (f : α → D) {kp : Mem → Prop} {p : Pat} {tt : DT} {te : DE} {env : DEnv} {a : Addr} {Nx : List D → Mem → Prop} (I : List α → List D → Mem → Prop) (hk : ∀ r acc M, I r acc M → kp M)
    (step : ∀ x r acc M (N : List D → Mem → Prop), I (x :: r) acc M → (∀ acc' M', I r acc' M' → N acc' M') → optE (p.bind M (f x) env) (lcE tt te a acc N) M)
    (done : ∀ acc M, I [] acc M → Nx acc M) : ∀ (xs : List α) (acc : List D) (M : Mem), I xs acc M → dLc2In kp p tt te env a Nx (xs.map f) acc M
  | [], acc, M, h => ⟨hk _ _ _ h, done _ _ h⟩
  | x :: r, acc, M, h => by
    refine ⟨hk _ _ _ h, ?_⟩
    have q := step x r acc M (fun acc' M' => dLc2In kp p tt te env a Nx (r.map f) acc' M') h (fun acc' M' => lc2_in f I hk step done r acc' M')
    unfold optE at q
    split at q
    · rename_i env1 hb
      first | exact q | (rw [hb]; exact q)
    · exact q.elim
theorem lc2_go {α : Type} (f : α → D) {kp : Mem → Prop} {p p1 : Pat} {tt tt1 : DT} {ti1 : DI} {te : DE} {vs1 : List Nat} {env : DEnv} {a : Addr} {Q : DK} (I : List α → List D → Mem → Prop) (hk : ∀ r acc M, I r acc M → kp M ∧ M a = some (.lst acc))
    (step : ∀ x r acc M (N : List D → Mem → Prop), I (x :: r) acc M → (∀ acc' M', I r acc' M' → N acc' M') → optE (p.bind M (f x) env) (lc2E tt ti1 p1 tt1 te vs1 a acc N) M)
    (done : ∀ acc M, I [] acc M → Q (.ob a) M) : ∀ (xs : List α) (acc : List D) (M : Mem), I xs acc M → dLc2Go kp p tt ti1 p1 tt1 te vs1 env a Q (xs.map f) acc M
  | [], acc, M, h => ⟨(hk _ _ _ h).1, (hk _ _ _ h).2, done _ _ h⟩
  | x :: r, acc, M, h => by
    refine ⟨(hk _ _ _ h).1, ?_⟩
    have q := step x r acc M (fun acc' M' => dLc2Go kp p tt ti1 p1 tt1 te vs1 env a Q (r.map f) acc' M') h (fun acc' M' => lc2_go f I hk step done r acc' M')
    unfold optE at q
    split at q
    · rename_i env1 hb
      first | exact q | (rw [hb]; exact q)
    · exact q.elim
/-! raise, try of own errors with a field -/
theorem s_raiseF {C f te Z env M} : dRaiseF C f te Z env M = te env M (raiseFK C f Z env) (fun c fs M1 => Z.ex c fs env M1) := id rfl
theorem s_raiseFK {C f Z env y M} : raiseFK C f Z env y M = ∃ s : Str, y = .str s ∧ s.length ≤ 1000 ∧ Z.ex (.ref C) [(f, y)] env M := id rfl
theorem s_tryF {hd i tb ts Z env M} : dTryF hd i tb ts Z env M = tb { Z with ex := exTryF hd i ts Z } env M := id rfl
end PL

set_option maxHeartbeats 4000000
namespace PL
open PySem PySem.Spec PyProof.Rows L2
/-! xs.insert(i, y), i not below 0 -/
def mInsert : DMeth
  | .v (.ref a), [.v (.int i), y], M => match M a with
    | some (.lst ds) => .put (ds.length < sizeLine ∧ 0 ≤ i ∧ i < 2 ^ 63) a (.lst (ds.take i.toNat ++ [y] ++ ds.drop i.toNat)) .non
    | _ => .bad
  | _, _, _ => .bad
section
variable {X : Cx}
theorem m_insert : MtR X "list.insert" (upMeth X.K mInsert) := by
  rintro pins s σ H x xs v us Q I rx rxs ⟨d, ds, M, r1, rl, sm, h⟩
  unfold mInsert at h
  split at h <;> first | exact h.elim | skip
  split at h <;> first | exact h.elim | skip
  rename_i hm
  obtain ⟨u1, u2, rfl, q1, q2⟩ := rl2 rl
  rw [rep_v r1] at rx
  rw [rep_v q1] at rxs
  obtain ⟨ws, e1, l1⟩ := sm.lst hm
  exact mt_insert pins s σ H _ _ v us Q I rx rxs ⟨_, ws, _, u2, rfl, rfl, e1, by rw [l1.length]; exact h.1.1, h.1.2.1, h.1.2.2,
    fin_put h.2 sm e1 True.intro (repO_lst (Ext.mut e1 True.intro) (RepL.append (RepL.append (l1.take _) (.cons q2 .nil)) (l1.drop _))) rep_of⟩
end
end PL

set_option maxHeartbeats 4000000
namespace PL
open PySem PySem.Spec PyProof.Rows L2
/-! zip of a tuple and a list, and of two tuples -/
def mzIt (K : PySem.W.Frag) (a b : Addr) : It where
  go := fun j H => ∃ us ws u w, (SqT K H a us ∧ SqL K H b ws) ∧ us[j]? = some u ∧ ws[j]? = some w
  yld := fun j H v H' => ∃ T u w, (v = .ref T ∧ H T = none ∧ H' = upd H T (.tup [u, w])) ∧ (∀ us, SqT K H a us → us[j]? = some u) ∧ ∀ ws, SqL K H b ws → ws[j]? = some w
  stop := fun j H => ∃ us ws, (SqT K H a us ∧ SqL K H b ws) ∧ j ≤ us.length ∧ j ≤ ws.length ∧ (j = us.length ∨ j = ws.length)
structure MzSt (a b z p q i1 i2 : Addr) (j : Nat) (h : Heap) : Prop where
  hz : IsZip h z p q .none
  hp : IsTupOf2 h p (.ref i1) (.ref i2)
  hq : ∃ u w, IsTupOf2 h q u w
  h1 : h.IsTupleIter i1 a j
  h2 : h.IsListIter i2 b j
theorem mz_turn {P : Program} {w : World} {K : PySem.W.Frag} {elts : List Expr} {kk : Nat} {tpos : Pos} {a b z p q i1 i2 : Addr} (S : ZipSep2 z p q i1 i2 [i1, a] [i2, b]) (na : a ≠ i1) (nb : b ≠ i2) :
    Turn P w K (.Tuple elts kk tpos) (mzIt K a b) [z, p, q, i1, i2] z (MzSt a b z p q i1 i2) := by
  have five : ∀ {c : Addr}, c ∈ [z, p, q, i1, i2] ↔ c = z ∨ c = p ∨ c = q ∨ c = i1 ∨ c = i2 := by simp
  have zi1 : z ≠ i1 := S.zi1
  have zi2 : z ≠ i2 := S.zi2
  have qi1 : q ≠ i1 := S.Ti1
  have qi2 : q ≠ i2 := S.Ti2
  refine ⟨by simp, fun j h st c hc => ?_, fun j h h' st k => ?_, ?_, ?_, fun A j s Q E st hQ => wpAny_pyIter_zip st.hz hQ⟩
  · obtain ⟨⟨u, w', hq⟩, ⟨o1, e1, _, d1⟩, ⟨o2, e2, _, d2⟩⟩ := And.intro st.hq (And.intro st.h1 st.h2)
    rcases five.mp hc with rfl | rfl | rfl | rfl | rfl
    · exact ⟨_, st.hz, fun v e => by cases e⟩
    · exact ⟨_, st.hp, fun v e => by cases e⟩
    · exact ⟨_, hq, fun v e => by cases e⟩
    · exact ⟨o1, e1, fun v e => by rw [d1] at e; cases e⟩
    · exact ⟨o2, e2, fun v e => by rw [d2] at e; cases e⟩
  · obtain ⟨u, w', hq⟩ := st.hq
    exact ⟨k z (five.mpr (by simp)) _ st.hz, k p (five.mpr (by simp)) _ st.hp, ⟨u, w', k q (five.mpr (by simp)) _ hq⟩, st.h1.at fun o e => k i1 (five.mpr (by simp)) o e, st.h2.at fun o e => k i2 (five.mpr (by simp)) o e⟩
  · rintro X rfl rfl rfl hc j pins s σ H E I hf st ⟨us, ws, u, w', ⟨sa, sb⟩, hu, hw⟩
    obtain ⟨u0, w0, hq⟩ := st.hq
    obtain ⟨its, rv, pt, _⟩ := I.tuple sa
    obtain ⟨jts, rv2, pl, _⟩ := I.list sb
    obtain ⟨x, hx, rx⟩ := rv.get hu
    obtain ⟨y, hy, ry⟩ := rv2.get hw
    have hh : X.A.in1.handled = none := I.ok.hd hc
    have lz : z < s.heap.objs.size := Heap.lt_size st.hz
    have ltu : j < its.toArray.size := by rw [List.size_toArray]; exact (List.getElem?_eq_some_iff.mp hx).1
    have ltw : j < jts.toArray.size := by rw [List.size_toArray]; exact (List.getElem?_eq_some_iff.mp hy).1
    refine wpAny_pyNext_zipD2_item S (Draws.tuple hh i1 a na its.toArray) (Draws.list hh i2 b nb jts.toArray) st.hz st.hp hq ⟨st.h1, pt⟩ ⟨st.h2, pl.isList⟩ ltu ltw fun v1 v2 h' tk g1 g2 z1 q1 c1 c2 t1 _ kp => ?_
    have ev1 : v1 = x := by
      have : its.toArray[j]? = some v1 := g1
      rw [List.getElem?_toArray, hx] at this
      exact (Option.some.inj this).symm
    have ev2 : v2 = y := by
      have : jts.toArray[j]? = some v2 := g2
      rw [List.getElem?_toArray, hy] at this
      exact (Option.some.inj this).symm
    subst ev1 ev2
    refine ⟨_, rfl, wpAny_letOwnedTupleGo_zip (s := { s with heap := h', toks := tk }) z1 fun h2 z2 sb2 => ?_⟩
    have lower : ∀ c, c ≠ z → ∀ o, h'.get? c = some o → h2.get? c = some o := fun c hn o e => (sb2.2 c hn).trans e
    have tup : h2.get? s.heap.objs.size = some { cls := .type "tuple", data := .seq #[v1, v2] } := lower _ (Nat.ne_of_gt lz) _ t1
    have J : Inv X pins σ (upd H s.heap.objs.size (.tup [u, w'])) { s with heap := h2, toks := tk } :=
      I.turnedNew (ch := [z, p, q, i1, i2]) (fun c o hb e => by
        have hb := fun e => hb (five.mpr e)
        exact lower c (fun e => hb (.inl e)) _ (kp c o (fun e => hb (.inl e)) (fun e => hb (.inr (.inr (.inl e)))) (fun e => hb (.inr (.inr (.inr (.inl e))))) (fun e => hb (.inr (.inr (.inr (.inr e))))) e)) hf (Nat.le_refl _)
        ⟨by show 2 ≤ sizeLine; decide, [v1, v2], .cons rx (.cons ry .nil), ⟨_, tup, rfl, _, rfl⟩⟩
    refine ⟨.ref s.heap.objs.size, _, J, rfl, ⟨_, u, w', ⟨rfl, I.hok.fresh (Nat.le_refl _), rfl⟩, fun us' e => by rw [I.tuple_inj e sa]; exact hu, fun ws' e => by rw [I.list_inj e sb]; exact hw⟩, ?_, fun c hcm => ?_⟩
    · exact ⟨z2, lower _ S.TIz _ (kp _ _ S.TIz S.TITO S.TIi1 S.TIi2 st.hp), ⟨v1, v2, lower _ S.TOz _ q1⟩, c1.1.at fun o e => lower _ zi1.symm _ e, c2.1.at fun o e => lower _ zi2.symm _ e⟩
    · have : c < s.heap.objs.size := by
        obtain ⟨⟨o1, e1, _⟩, ⟨o2, e2, _⟩⟩ := And.intro st.h1 st.h2
        rcases five.mp hcm with rfl | rfl | rfl | rfl | rfl
        · exact lz
        · exact Heap.lt_size st.hp
        · exact Heap.lt_size hq
        · exact Heap.lt_size e1
        · exact Heap.lt_size e2
      rw [upd_ne (Nat.ne_of_lt this)]
      exact (hf c hcm).1
  · rintro X rfl rfl rfl hc j pins s σ H E I hf st ⟨us, ws, ⟨sa, sb⟩, l1, l2, hend⟩
    obtain ⟨u0, w0, hq⟩ := st.hq
    obtain ⟨its, rv, pt, _⟩ := I.tuple sa
    obtain ⟨jts, rv2, pl, _⟩ := I.list sb
    have n1 := rv.length
    have n2 := rv2.length
    have hh : X.A.in1.handled = none := I.ok.hd hc
    refine wpAny_pyNext_zipD2_end S (Draws.tuple hh i1 a na its.toArray) (Draws.list hh i2 b nb jts.toArray) st.hz st.hp hq ⟨st.h1, pt⟩ ⟨st.h2, pl.isList⟩ (by rw [List.size_toArray]; omega) (by rw [List.size_toArray]; omega) (by rw [List.size_toArray, List.size_toArray]; omega) fun h' tk kp => ⟨rfl, I.turnedL (ch := [z, p, q, i1, i2]) (fun c o hb e => ?_) hf⟩
    have hb := fun e => hb (five.mpr e)
    exact kp c o (fun e => hb (.inl e)) (fun e => hb (.inr (.inr (.inl e)))) (fun e => hb (.inr (.inr (.inr (.inl e))))) (fun e => hb (.inr (.inr (.inr (.inr e))))) e
def mzI (K : PySem.W.Frag) (ta : TA) : TI := fun σ H R => ta σ H fun vs H1 => ∃ a b us, vs = [.ref a, .ref b] ∧ SqT K H1 a us ∧ ((∃ ws, SqL K H1 b ws ∧ R (mzIt K a b) H1) ∨ ∃ ws, SqT K H1 b ws ∧ R (RZ.ItzT K a b) H1)
theorem mz_pi {X : Cx} {e e2 : Expr} {ta : TA} {p pos tpos : Pos} {elts : List Expr} {kk : Nat} (hg : Gl X "zip") (hm : X.mg "zip" = none) (ha : PA X [e, e2] ta)
    (hs : starEach [e, e2] X.env = (false, eval e X.env) :: starEach [e2] X.env := by rfl) (hpl : (backTo pos (starEach [e2] X.env)).any (·.1) = false := by rfl) :
    PI X (.Tuple elts kk tpos) (.Call (.Name "zip" p) [e, e2] [] pos) (mzI X.K ta) := by
  refine ⟨fun pins s σ H R I h => Call_ (ld_blt I hg hm PyProof.Rows.boot_zip (PyProof.Rows.callWith_type1 (thn (ha.run pos pins s σ H _ I h) fun args s1 ⟨vs, H1, J, rl, z⟩ => ?_) hs hpl))⟩
  obtain ⟨a, b, us, rfl, sa, z⟩ := z
  obtain ⟨va, vb, rfl, ra, rb⟩ := vals2 rl
  cases ra
  cases rb
  obtain ⟨its, rv, pt, _⟩ := J.tuple sa
  have la : a < s1.heap.objs.size := by obtain ⟨_, ea, _⟩ := id pt; exact Heap.lt_size ea
  have mem5 : ∀ c, c ∈ [s1.heap.objs.size + 4, s1.heap.objs.size + 2, s1.heap.objs.size + 3, s1.heap.objs.size, s1.heap.objs.size + 1] → FpOk X pins H1 c := fun c hc => by
    have lc : s1.heap.objs.size ≤ c := by
      simp only [List.mem_cons, List.not_mem_nil, or_false] at hc
      rcases hc with rfl | rfl | rfl | rfl | rfl <;> first | exact Nat.le_refl _ | exact Nat.le_add_right _ _
    exact J.fpOk lc (J.hok.fresh lc)
  rcases z with ⟨ws, sb, z⟩ | ⟨ws, sb, z⟩
  · obtain ⟨jts, rv2, pl, _⟩ := J.list sb
    have lb : b < s1.heap.objs.size := pl.lt
    refine zip_begins2 (begins_tuple a its.toArray) (begins_list b jts.toArray) pt pl.isList fun h' gz gp gq g1 g2 _ kp => wpAny_pyIter_zip gz ?_
    have J2 : Inv X pins σ H1 { s1 with heap := h' } := J.kept (t' := s1.toks) kp
    have S : ZipSep2 (s1.heap.objs.size + 4) (s1.heap.objs.size + 2) (s1.heap.objs.size + 3) s1.heap.objs.size (s1.heap.objs.size + 1) [s1.heap.objs.size, a] [s1.heap.objs.size + 1, b] :=
      zip_sep2 (fun c hc => by rw [List.mem_singleton.mp hc]; exact la) fun c hc => by rw [List.mem_singleton.mp hc]; exact lb
    exact ⟨_, _, _, _, H1, rfl, J2, mz_turn S (Nat.ne_of_lt la) (Nat.ne_of_lt (Nat.lt_succ_of_lt lb)), ⟨gz, gp, ⟨_, _, gq⟩, ⟨_, g1, rfl, rfl⟩, ⟨_, g2, rfl, rfl⟩⟩, mem5, z⟩
  · obtain ⟨jts, rv2, pt2, _⟩ := J.tuple sb
    have lb : b < s1.heap.objs.size := by obtain ⟨_, eb, _⟩ := id pt2; exact Heap.lt_size eb
    refine RZ.call_zipT (show s1.heap.IsTuple a its.toArray from pt) (show s1.heap.IsTuple b jts.toArray from pt2) fun h' gz gp gq g1 g2 _ kp => wpAny_pyIter_zip gz ?_
    have J2 : Inv X pins σ H1 { s1 with heap := h' } := J.kept (t' := s1.toks) kp
    exact ⟨_, _, _, _, H1, rfl, J2, RZ.turn_zipT (PySem.W.ktu_apart s1.heap.objs.size a b la lb), ⟨gz, gp, ⟨_, _, gq⟩, g1, g2⟩, mem5, z⟩
/-! .. as a reading -/
def zipD : List D → List D → List D
  | d :: r, e :: t => .tup [d, e] :: zipD r t
  | _, _ => []
theorem zipD_len : ∀ {ds es : List D}, (zipD ds es).length = min ds.length es.length
  | [], _ => by simp [zipD]
  | _ :: _, [] => by simp [zipD]
  | _ :: r, _ :: t => by simp only [zipD, List.length_cons, zipD_len]; omega
theorem zipD_get : ∀ {ds es : List D} {i : Nat} {d e : D}, ds[i]? = some d → es[i]? = some e → (zipD ds es)[i]? = some (.tup [d, e])
  | [], _, _, _, _, h, _ => by simp at h
  | _ :: _, [], _, _, _, _, h => by simp at h
  | x :: r, y :: t, 0, d, e, h, h2 => by simp at h h2; subst h h2; simp [zipD]
  | x :: r, y :: t, i + 1, d, e, h, h2 => by simpa [zipD] using zipD_get (ds := r) (es := t) (by simpa using h) (by simpa using h2)
theorem rep_zipL {K : PySem.W.Frag} {H0 : Hp} {a b : Addr} {ds es : List D} (h0 : RepD K H0 (.tup ds) (.ref a)) (hl : ds.length = es.length) : ItRep K H0 (mzIt K a b) ⟨zipD ds es, fun M => M b = some (.lst es)⟩ where
  go := fun i H M ex s k hi => by
    obtain ⟨a', us, e, q, l⟩ := rep_tup (RepD.mono ex _ h0)
    cases e
    obtain ⟨ws, q2, l2⟩ := s.seq (.inl k)
    have hi := (show i < (zipD ds es).length from hi)
    rw [zipD_len] at hi
    have h1 : i < us.length := by rw [l.length]; omega
    have h2 : i < ws.length := by rw [l2.length]; omega
    exact ⟨us, ws, us[i], ws[i], ⟨q, q2⟩, List.getElem?_eq_getElem h1, List.getElem?_eq_getElem h2⟩
  yld := fun i H M x H' ex s k _ y => by
    obtain ⟨a', us, e, q, l⟩ := rep_tup (RepD.mono ex _ h0)
    cases e
    obtain ⟨ws, q2, l2⟩ := s.seq (.inl k)
    obtain ⟨T, u, w, ⟨rfl, hT, rfl⟩, y1, y2⟩ := y
    obtain ⟨d, g1, g2⟩ := l.get' (y1 us q)
    obtain ⟨d2, g3, g4⟩ := l2.get' (y2 ws q2)
    refine ⟨_, zipD_get g1 g3, ?_, Ext.new hT, s.laid hT⟩
    unfold RepD
    exact ⟨T, _, rfl, .inl (.inl upd_same), .cons (RepD.mono (Ext.new hT) _ g2) (.cons (RepD.mono (Ext.new hT) _ g4) .nil)⟩
  stop := fun H M ex s k => by
    obtain ⟨a', us, e, q, l⟩ := rep_tup (RepD.mono ex _ h0)
    cases e
    obtain ⟨ws, q2, l2⟩ := s.seq (.inl k)
    have e1 := l.length
    have e2 := l2.length
    exact ⟨us, ws, ⟨q, q2⟩, by show (zipD ds es).length ≤ _; rw [zipD_len]; omega, by show (zipD ds es).length ≤ _; rw [zipD_len]; omega, .inl (by show (zipD ds es).length = _; rw [zipD_len]; omega)⟩
theorem rep_zipT {K : PySem.W.Frag} {H0 : Hp} {a b : Addr} {ds es : List D} (h0 : RepD K H0 (.tup ds) (.ref a)) (h1 : RepD K H0 (.tup es) (.ref b)) (hl : ds.length = es.length) : ItRep K H0 (RZ.ItzT K a b) ⟨zipD ds es, fun _ => True⟩ where
  go := fun i H M ex s k hi => by
    obtain ⟨a', us, e, q, l⟩ := rep_tup (RepD.mono ex _ h0)
    cases e
    obtain ⟨b', ws, e, q2, l2⟩ := rep_tup (RepD.mono ex _ h1)
    cases e
    have hi := (show i < (zipD ds es).length from hi)
    rw [zipD_len] at hi
    have h1 : i < us.length := by rw [l.length]; omega
    have h2 : i < ws.length := by rw [l2.length]; omega
    exact ⟨us, ws, us[i], ws[i], q, q2, List.getElem?_eq_getElem h1, List.getElem?_eq_getElem h2⟩
  yld := fun i H M x H' ex s k _ y => by
    obtain ⟨a', us, e, q, l⟩ := rep_tup (RepD.mono ex _ h0)
    cases e
    obtain ⟨b', ws, e, q2, l2⟩ := rep_tup (RepD.mono ex _ h1)
    cases e
    obtain ⟨T, u, w, rfl, hT, rfl, y1, y2⟩ := y
    obtain ⟨d, g1, g2⟩ := l.get' (y1 us q)
    obtain ⟨d2, g3, g4⟩ := l2.get' (y2 ws q2)
    refine ⟨_, zipD_get g1 g3, ?_, Ext.new hT, s.laid hT⟩
    unfold RepD
    exact ⟨T, _, rfl, .inl (.inl upd_same), .cons (RepD.mono (Ext.new hT) _ g2) (.cons (RepD.mono (Ext.new hT) _ g4) .nil)⟩
  stop := fun H M ex s k => by
    obtain ⟨a', us, e, q, l⟩ := rep_tup (RepD.mono ex _ h0)
    cases e
    obtain ⟨b', ws, e, q2, l2⟩ := rep_tup (RepD.mono ex _ h1)
    cases e
    have e1 := l.length
    have e2 := l2.length
    exact ⟨us, ws, q, q2, .inl (by show _ ≤ (zipD ds es).length; rw [zipD_len]; omega)⟩
def zipK (R : DIt → Mem → Prop) : List D → Mem → Prop := fun xs M => match xs with
  | [.tup ds, .v (.ref b)] => ∃ es, M b = some (.lst es) ∧ ds.length = es.length ∧ R ⟨zipD ds es, fun M => M b = some (.lst es)⟩ M
  | [.tup ds, .tup es] => ds.length = es.length ∧ R ⟨zipD ds es, fun _ => True⟩ M
  | _ => False
def dZip (ta : DA) : DI := fun env M R E => ta env M (zipK R) E
theorem s_zip {ta : DA} {env M R E} : dZip ta env M R E = ta env M (zipK R) E := id rfl
theorem s_zipKL {R ds b M} : zipK R [.tup ds, .v (.ref b)] M = ∃ es, M b = some (.lst es) ∧ ds.length = es.length ∧ R ⟨zipD ds es, fun M => M b = some (.lst es)⟩ M := id rfl
theorem s_zipKT {R ds es M} : zipK R [.tup ds, .tup es] M = (ds.length = es.length ∧ R ⟨zipD ds es, fun _ => True⟩ M) := id rfl
section
variable {X : Cx} {W : WX} {e e2 : Expr} {ta : DA} {pos p tpos : Pos} {elts : List Expr} {kk : Nat}
theorem zipK_mono {R R' : DIt → Mem → Prop} (h : ∀ J M, R J M → R' J M) {xs : List D} {M : Mem} (q : zipK R xs M) : zipK R' xs M := by
  unfold zipK at q ⊢
  split at q
  · obtain ⟨es, h1, h2, h3⟩ := q
    exact ⟨es, h1, h2, h _ _ h3⟩
  · exact ⟨q.1, h _ _ q.2⟩
  · exact q.elim
theorem xi_zip (hg : Gl X "zip") (hm : X.mg "zip" = none) (ha : XA X W [e, e2] ta)
    (hs : starEach [e, e2] X.env = (false, eval e X.env) :: starEach [e2] X.env := by rfl) (hpl : (backTo pos (starEach [e2] X.env)).any (·.1) = false := by rfl) : XI X W (.Tuple elts kk tpos) (.Call (.Name "zip" p) [e, e2] [] pos) (dZip ta) := by
  refine ⟨fun env M Q Q' E E' hQ hE h => ha.mono env M _ _ _ _ (fun ds M1 q => zipK_mono hQ q) hE h, PIw (mz_pi hg hm ha.pa hs hpl) ?_⟩
  rintro σ H R ⟨env, M, re, s, h⟩
  refine stepA ha.mono re s h (fun ds M1 us H1 e1 s1 re1 r1 q => ?_) fun _ _ _ z => z
  unfold zipK at q
  split at q
  · obtain ⟨es, h1, h2, h3⟩ := q
    obtain ⟨u1, u2, rfl, q1, q2⟩ := rl2 r1
    rw [rep_v q2]
    obtain ⟨a, ws, rfl, ra, la⟩ := rep_tup q1
    obtain ⟨zs, g1, g2⟩ := s1.seq (.inl h1)
    exact ⟨a, _, ws, rfl, ra, .inl ⟨zs, g1, h3 _ H1 e1 s1 (rep_zipL q1 h2)⟩⟩
  · obtain ⟨u1, u2, rfl, q1, q2⟩ := rl2 r1
    obtain ⟨a, ws, rfl, ra, la⟩ := rep_tup q1
    obtain ⟨b, zs, rfl, rb, lb⟩ := rep_tup q2
    exact ⟨a, b, ws, rfl, ra, .inr ⟨zs, rb, q.2 _ H1 e1 s1 (rep_zipT q1 q2 q.1)⟩⟩
  · exact q.elim
end
end PL

set_option maxHeartbeats 4000000
namespace PL
open PySem PySem.Spec PyProof.Rows L2
/-! sorted(xs), xs a list of plain data of one shape -/
def leW : D → D → Bool := PySem.W.dataLe false D.py
def bSortW : DCallG := fun ds M Q => ∃ a es, ds = [.ob a] ∧ M a = some (.lst es) ∧ pureL es = true ∧ PySem.W.AllAlike (es.map D.py) ∧ PySem.W.Sortable (es.map D.py) ∧ es.length ≤ sizeLine ∧ (∀ d ∈ es, d.dp ≤ 100) ∧ ∀ p, M p = none → Q (.ob p) (mupd M p (.lst (es.mergeSort leW)))
theorem bSortW_mono : MonoC bSortW := by
  rintro ds M Q Q' hQ ⟨a, es, h1, h2, h3, h4, h5, h6, h7, h⟩
  exact ⟨a, es, h1, h2, h3, h4, h5, h6, h7, fun p z => hQ _ _ (h p z)⟩
abbrev SwR (K : PySem.W.Frag) (H : Hp) : Value → D × V → Prop := fun v b => RelV b.2 v ∧ RepD K H b.1 b.2 ∧ b.1.pure = true
theorem sw_of {K : PySem.W.Frag} {H : Hp} : ∀ {es : List D} {us : List V} {vs : List Value}, RepL K H es us → Vals us vs → pureL es = true → PySem.W.EachIs (SwR K H) vs (es.zip us)
  | [], us, vs, l, r, _ => by
    unfold RepL at l
    subst l
    cases r
    exact .nil
  | d :: es, us, vs, l, r, p => by
    unfold RepL at l
    obtain ⟨u, t, rfl, q, l⟩ := l
    simp only [pureL, Bool.and_eq_true] at p
    cases r with
    | cons r1 r2 => exact .cons ⟨r1, q, p.1⟩ (sw_of l r2 p.2)
theorem sw_to {K : PySem.W.Frag} {H : Hp} {vs : List Value} {bs : List (D × V)} (h : PySem.W.EachIs (SwR K H) vs bs) : Vals (bs.map (·.2)) vs ∧ RepL K H (bs.map (·.1)) (bs.map (·.2)) := by
  induction h with
  | nil => exact ⟨.nil, .nil⟩
  | cons h _ ih => exact ⟨.cons h.1 ih.1, .cons h.2.1 ih.2⟩
theorem c_sortW {X : Cx} (hu : X.A.units + 200 < cLine) : CallR X (.builtin "sorted") (upCallG X.K bSortW) := by
  rintro pins s σ H xs us Q I r ⟨ds, M, rl, sm, a, es, rfl, hm, hp, hal, hso, hz, hdp, h⟩
  obtain ⟨u, rfl, q⟩ := rl1 rl
  rw [rep_v q] at r
  obtain ⟨ws, e1, l1⟩ := sm.seq (.inl hm)
  obtain ⟨its, rv, hl, _⟩ := I.list e1
  rw [Vals.ref1 r]
  have ln := l1.length
  have e := sw_of l1 rv hp
  have ef : (es.zip ws).map (fun b => b.1.py) = es.map D.py := by
    rw [show (fun b : D × V => b.1.py) = D.py ∘ Prod.fst from rfl, ← List.map_map, List.map_fst_zip (by omega)]
  have lz : (es.zip ws).length = es.length := by rw [List.length_zip]; omega
  refine PySem.W.sorted_data (enc := fun b : D × V => b.1.py) hl.isList e (e.mono fun v b ⟨r1, r2, r3⟩ => rd_of I (RepD.dp b.1 r3 r2) r1) (by rw [ef]; exact hal) (by rw [ef]; exact hso) (by rw [lz]; exact hz) (fun b hb => ?_) fun out ho eo => ?_
  · have := hdp b.1 (List.of_mem_zip (show (b.1, b.2) ∈ es.zip ws from hb)).1
    rw [depth_py]
    omega
  · obtain ⟨k1, k2⟩ := sw_to eo
    obtain ⟨ep, he'⟩ := PyProof.Rows.sortedAll_at s.heap its out.toArray
    have em : ((es.zip ws).mergeSort (PySem.W.dataLe false fun b : D × V => b.1.py)).map (·.1) = es.mergeSort leW := by
      have := List.map_mergeSort (r := PySem.W.dataLe false fun b : D × V => b.1.py) (s := leW) (f := fun b : D × V => b.1) (l := es.zip ws) fun a _ b _ => rfl
      rw [this, show (es.zip ws).map (fun b : D × V => b.1) = es from List.map_fst_zip (by omega)]
    rw [em] at k2
    have hlen : (((es.zip ws).mergeSort (PySem.W.dataLe false fun b : D × V => b.1.py)).map (·.2)).length ≤ sizeLine := by
      rw [List.length_map, List.length_mergeSort, lz]; exact hz
    exact ⟨.ref _, upd H (s.heap.objs.size + 1) (.lst (((es.zip ws).mergeSort (PySem.W.dataLe false fun b : D × V => b.1.py)).map (·.2))), I.laid (t' := s.toks) (fun _ _ => PyProof.Rows.sortedAll_old) (Nat.le_succ _) ⟨hlen, out, ep, k1, he'⟩, rfl, fin_lst h sm (I.hok.fresh (Nat.le_succ _)) k2⟩
end PL
namespace PL
open PySem PySem.Spec PyProof.Rows L2
/-! min(xs), xs a list of ints -/
def bMinL : DCallG := fun ds M Q => ∃ a n ns, ds = [.ob a] ∧ M a = some (.lst ((n :: ns).map D.int)) ∧ Q (.int (ns.foldl min n)) M
theorem bMinL_mono : MonoC bMinL := by
  rintro ds M Q Q' hQ ⟨a, n, ns, h1, h2, h⟩
  exact ⟨a, n, ns, h1, h2, hQ _ _ h⟩
theorem all_reads {h : Heap} : ∀ {ns : List Int} {vs : List Value}, Vals (ns.map V.int) vs → ReadsAll h vs (ns.map PyData.int) []
  | [], _, .nil => .nil
  | n :: ns, _, .cons r1 r2 => by
    obtain ⟨t, rfl⟩ := r1
    exact .cons (.int n t) (all_reads r2)
theorem all_ints {K : PySem.W.Frag} {H : Hp} : ∀ {ns : List Int} {us : List V}, RepL K H (ns.map D.int) us → us = ns.map V.int
  | [], _, h => by simpa [RepL] using h
  | n :: ns, _, h => by
    rw [List.map_cons] at h
    unfold RepL at h
    obtain ⟨u, r, rfl, q, t⟩ := h
    rw [all_ints t, rep_v q]; rfl
theorem depth_ints : ∀ ns : List Int, PyData.depthAll (ns.map PyData.int) = 0
  | [] => rfl
  | n :: ns => by rw [List.map_cons, PyData.depthAll, depth_ints ns]; rfl
theorem c_minL {X : Cx} (hc : X.calm = true) (hu : X.A.units + 200 < cLine) : CallR X (.builtin "min") (upCallG X.K bMinL) := by
  rintro pins s σ H xs us Q I r ⟨ds, M, rl, sm, a, n, ns, rfl, hm, h⟩
  obtain ⟨u, rfl, q⟩ := rl1 rl
  rw [rep_v q] at r
  obtain ⟨ws, e1, l1⟩ := sm.seq (.inl hm)
  rw [all_ints l1] at e1
  obtain ⟨its, rv, hl, _⟩ := I.list e1
  rw [Vals.ref1 r]
  have hd := depth_ints (n :: ns)
  refine PySem.W.min_list_data (x := .int n) (xs := ns.map .int) (I.ok.hd hc) hl.isList (all_reads rv) ⟨fun x hx y hy => ?_, fun x hx => ?_⟩ (by rw [show PyData.int n :: ns.map PyData.int = (n :: ns).map PyData.int from rfl, hd]; omega) fun i v h' tk bs hv hr kp => ?_
  · obtain ⟨i, _, rfl⟩ := List.mem_map.mp (show x ∈ (n :: ns).map PyData.int from hx)
    obtain ⟨j, _, rfl⟩ := List.mem_map.mp (show y ∈ (n :: ns).map PyData.int from hy)
    rfl
  · obtain ⟨i, _, rfl⟩ := List.mem_map.mp (show x ∈ (n :: ns).map PyData.int from hx)
    exact fun e => by cases e
  · rw [PySem.W.minD_ints] at hr
    cases hr
    exact ⟨.int _, H, I.kept (t' := tk) kp, ⟨_, rfl⟩, fin_val h sm⟩
end PL

set_option maxHeartbeats 4000000
/-! own errors over any base with facts (Exception): made, and their first field set -/
namespace PL
open PySem PySem.Spec PyProof.Rows L2 NdefX PySem.HandSPX
/-- what the written part says of the class -/
structure OexG (K : PySem.W.Frag) (C : Addr) (B newId initId : String) (bmB : List Value) : Prop where
  FB : ExcBaseFacts B newId initId bmB
  cls : ∃ nm q N bs sn sub ab col dd k0 k1 k2 k3 k5, K.lookup C = some (excClassObj nm q C N bs bmB true sn sub ab col dd k0 k1 k2 k3 k5 newId)
  pass : ∀ self, refuseLoop self "__setattr__" bmB = pure ()
  obj : bmB.contains (.type "object") = true
  sa : PySem.W.findIn K (.ref C) "__setattr__" = some (some (.builtin "object.__setattr__"))
  exC : PySem.W.subIn K (.ref C) (.type "BaseException") = some true
  tyC : PySem.W.typeIn K (.ref C) = some (.type "type")
  kC : PySem.W.keepIn K (.ref C) = true
section
open Builtin Builtin.ObjectAttr PySem.W PySem.Calls
variable {prog : Program} {w : World} {A : Around} {R : Result → Shared → Prop} {h0 : Heap} {gs : Array GenState} {dr : Drawn} {tk : Nat} {os : OsState}
theorem osaG {K : W.Frag} {fld : Str} {ft : Tok} {v : Value} {e C : Addr} {vs : Array Value} {cd : ClassData} (X : K.In h0) (he : h0.get? e = some { cls := .ref C, data := .fields vs }) (hc : W.clsIn K C = some cd)
    (hp : ∀ self, refuseLoop self "__setattr__" cd.mro = pure ()) (ho : cd.mro.contains (.type "object") = true) (hn : cd.mro.isEmpty = false) (hd : cd.hasDict = true) (hf : W.findIn K (.ref C) fld = some none)
    (q : ∀ h1 tk1 dx, (∀ b o, b ≠ e → h0.get? b = some o → h1.get? b = some o) → h0.objs.size ≤ dx → dx ≠ e → h1.get? e = some { cls := .ref C, dict := some dx, data := .fields vs } → h1.Ns1 dx (fun y => if y = fld then some v else none) → R (.ok (.ret .none)) ⟨h1, gs, dr, tk1, os⟩) :
    codeAny (model prog w) A (.call (.builtin "object.__setattr__") ⟨[.ref e, .str fld ft, v], []⟩) R ⟨h0, gs, dr, tk, os⟩ := by
  have hty : W.InstAt h0 e { cls := .ref C, data := .fields vs } C none := ⟨he, rfl, rfl, trivial⟩
  have ST := F.store_object
  have hes : e ≠ h0.objs.size := Nat.ne_of_lt (Heap.lt_size he)
  have hsub : W.Looks (model prog w) h0 (isInstance (.ref e) (.type "object")) true :=
    hty.type.andThen (W.looks_mroIn X (by unfold W.mroIn; rw [hc, Option.bind_some, hn, if_neg Bool.false_ne_true, ho]))
  refine codeAny_call_builtin ST.slot.plain ST.entry
    (@W.check_slot (model prog w) _ _ ⟨h0, gs, dr, tk, os⟩ "object.__setattr__" "object" "__setattr__" (.ref e) [.str fld ft, v] [] _ ST.kind ST.split hsub (ST.args (.ref e) (.str fld ft) v) ?_)
  have lm : W.Looks (model prog w) h0 (mroOf (.ref C)) cd.mro := (W.looks_clsIn X hc).andThen .now
  have lt : W.Looks (model prog w) h0 (storeTaker? none) none := .now
  have lc : W.Looks (model prog w) h0 (classData C) cd := W.looks_clsIn X hc
  rw [W.osa_eq, refuse_eq]
  refine wpAny_bind (wpAny_bind (hty.type.at (wpAny_bind (lm.at ?_))))
  rw [hp]
  refine wpAny_pure (wpAny_bind (hty.type.at (wpAny_bind ((W.looks_findIn X hf).at (wpAny_bind (lt.at ?_))))))
  show wpAny _ _ (storeInOwnDict (.ref e) (.ref C) (.str fld ft) fld v false) _ _ _
  obtain ⟨c1, c2, c3, c4, c5, c6, c7, c8, c9, c10, c11⟩ := cd
  dsimp only at hd
  subst hd
  unfold storeInOwnDict ownDictForStores
  repeat (first | with_reducible refine HandSPX.store_in_new ?_ ?_ | with_reducible refine wpAny_loadPart_at he ?_ | with_reducible refine lc.at ?_ | wp_step)
  · exact ⟨_, #[], _, (Heap.get?_update_ne _ _ _ _ hes.symm).trans (Heap.get?_push_at rfl rfl), rfl, fun z hz => absurd hz (by simp), fun _ => rfl⟩
  · intro h1 tk1 hns hsame
    have hpu : (h0.push { cls := .type "dict", data := .dict #[] }).get? e = some { cls := .ref C, data := .fields vs } := Heap.get?_push_of_some _ he
    refine q h1 tk1 h0.objs.size (fun b o hb hbo => ?_) (Nat.le_refl _) hes.symm ?_ hns
    · exact (hsame.2 b (Nat.ne_of_lt (Heap.lt_size hbo))).trans ((Heap.get?_update_ne _ _ _ _ hb).trans (Heap.get?_push_of_some _ hbo))
    · exact (hsame.2 e hes).trans (Heap.get?_update_self _ hpu rfl)
end
section
variable {X : Cx} {pins : List (Addr × Obj)} {σ : L2.St} {H : Hp} {sh : Shared} {a C : Addr} {fld : Str} {y : V} {u : Value} {A : Around} {B newId initId : String} {bmB : List Value}
theorem ostG {Q : Unit → Shared → Prop} {E : Value → Shared → Prop} (T : OexG X.K C B newId initId bmB) (I : L2.Inv X pins σ H sh) (ea : H a = some (exo a C none)) (hf : PySem.W.findIn X.K (.ref C) fld = some none) (ry : RelV y u)
    (q : ∀ dx s', H dx = none → dx ≠ a → L2.Inv X pins σ (upd (upd H dx (exd dx [(fld, y)])) a (exo a C (some dx))) s' → Q () s') : wpAny (model X.prog X.w) A (setAttr (.ref a) fld u) Q E sh := by
  obtain ⟨c1, c2, c3, c4, c5, c6, c7, c8, c9, c10, c11, c12, c13, c14, hC⟩ := T.cls
  have hcl : PySem.W.clsIn X.K C = some { name := c1, bases := c4, mro := .ref C :: bmB, ns := c3, qualname := c2, hasDict := true, slotNames := c5, subclasses := c6, abstract := c7, collection := c8, hasDel := false } := by
    unfold PySem.W.clsIn
    rw [hC] <;> rfl
  obtain ⟨t1, hget⟩ := exo_at I.hok ea
  obtain ⟨h0, gs, dr, tk, os⟩ := sh
  have obj : (Value.ref C :: bmB).contains (.type "object") = true := by rw [List.contains_cons, T.obj, Bool.or_true]
  refine PySem.W.set_plain I.kIn (od := none) ⟨hget, rfl, rfl, trivial⟩ T.sa ?_
  refine osaG I.kIn hget hcl (fun self => by rw [refuseLoop_ref]; exact T.pass self) obj rfl rfl hf fun h1 tk1 dx kp low ne hx hn => ?_
  have nodx : H dx = none := I.hok.fresh low
  have old : ∀ {b : Addr} {o : Obj}, h0.get? b = some o → b ≠ dx := fun e => Nat.ne_of_lt (Nat.lt_of_lt_of_le (Heap.lt_size e) low)
  have nota : ∀ {b : Addr}, H b = none → b ≠ a := fun n z => by
    rw [z, ea] at n
    cases n
  have un : Un X.fs [] H (upd (upd H dx (exd dx [(fld, y)])) a (exo a C (some dx))) h0 h1 := by
    refine { keep := fun b o e n _ _ => kp b o (nota n) e, slot := fun b o e n _ _ => ⟨o.slots, kp b o (nota n) e⟩, free := fun b o e n _ => ?_, there := fun b o e _ => ?_, tups := fun b xs e => ?_, frzs := fun b o v e => ?_, tbls := fun b ps e => ⟨#[], ?_⟩ }
    · rw [upd_ne (nota n), upd_ne (old e)]
      exact n
    · by_cases z : b = a
      · exact ⟨_, by rw [z]; exact hx⟩
      · exact ⟨o, kp b o z e⟩
    · rw [upd_ne (at_ne ea e exo_tup), upd_ne (ne_of_none e nodx)]
      exact e
    · rw [upd_ne (at_ne ea e exo_frz), upd_ne (ne_of_none e nodx)]
      exact e
    · rw [upd_ne (at_ne ea e exo_tbl), upd_ne (ne_of_none e nodx), e]
      simp
  refine q dx _ nodx ne (I.un (t' := tk1) un fun b o e => ?_)
  by_cases z : b = a
  · rw [z, upd_same] at e
    rw [z, ← Option.some.inj e]
    exact exo_ok hx
  rw [upd_ne z] at e
  by_cases z2 : b = dx
  · rw [z2, upd_same] at e
    rw [z2, ← Option.some.inj e]
    exact exd_ok hn (relO_put (fs := []) ry fun _ => True.intro)
  rw [upd_ne z2] at e
  refine (I.hok b o e).stay (fun c v hc g => kp c v ?_ g) (fun c hc => ?_) fun c xs hc => ?_
  · rcases hc with hc | hc
    · rw [hc]; exact z
    · exact at_ne ea hc exo_own
  · rw [upd_ne (at_ne ea hc exo_own), upd_ne (ne_of_none hc nodx)]
    exact hc
  · rw [upd_ne (at_ne ea hc exo_tup), upd_ne (ne_of_none hc nodx)]
    exact hc
/-- self.f = e, the first field -/
def tSetG (K : PySem.W.Frag) (B newId initId : String) (bmB : List Value) (fld : Str) (to te : TE) : TS := fun D σ H => te σ H fun y H1 => to σ H1 fun x H2 => ∃ a C : Addr, x = .ref a ∧ OexG K C B newId initId bmB ∧ PySem.W.findIn K (.ref C) fld = some none ∧
  H2 a = some (exo a C none) ∧ ∀ dx, H2 dx = none → dx ≠ a → D.nx σ (upd (upd H2 dx (exd dx [(fld, y)])) a (exo a C (some dx)))
theorem ps_setG {o e : Expr} {to te : TE} {p' pos : Pos} (ho : PE X o to) (he : PE X e te) (hs : swapsWith e (some (.Attribute o fld p')) pos.line X.env = pure false := by rfl) : PS X (.Assign [.Attribute o fld p'] e pos) (tSetG X.K B newId initId bmB fld to te) := by
  refine ⟨fun pins s σ H D I h => plainObj_wpAny_Assign_Attribute (thn (he.run pins s σ H _ I h) fun v s1 ⟨y, H1, I1, r1, q1⟩ => thn (ho.run pins s1 σ H1 _ I1 q1) fun w s2 z => ?_) hs⟩
  obtain ⟨x, H2, I2, r2, a, C, rfl, T, hf, ea, q⟩ := z
  cases r2
  exact ostG T I2 ea hf r1 fun dx s' n ne J => ⟨σ, _, J, q dx n ne⟩
end
/-- __init__(self, x): super().__init__(x); self.f = x -/
def spG (K : PySem.W.Frag) (D : Addr) (B i newId : String) (bmB : List Value) (f : Str) : Sp := fun vs H Q _ => ∃ (a C : Addr) (x : Str), vs = [.ref a, .str x] ∧ x.length ≤ 1000 ∧ OexG K C B newId i bmB ∧ SupB K D C B i newId bmB ∧ PySem.W.findIn K (.ref C) f = some none ∧ H a = some (exo a C none) ∧
  ∀ dx, H dx = none → dx ≠ a → Q .non (upd (upd H dx (exd dx [(f, .str x)])) a (exo a C (some dx)))
section
variable {CX : CXT} {P : Program} {w : World} {K : PySem.W.Frag} {mg : Str → Option Value} {base : Heap} {qual : Str} {st : Stmt} {ar : Arg} {fd : FuncData} {cc cda f D : Addr} {B i newId : String} {bmB : List Value}
theorem exg_fn {k : Nat} {x fld : Str} {p0 p1 p2 p3 p4 q2 q6 q7 q8 q9 : Pos} (SF : SupF P K D f qual st ar fd cc cda) (S : NScope ["self", x, "__class__"] ["self", x] ["__class__"] (defScope st)) (har : ar.arg = "self")
    (hst : defBody st = [.Expr (.Call (.Attribute (.Call (.Name "super" p0) [] [] p1) "__init__" p2) [.Name x q2] [] p3) p4, .Assign [.Attribute (.Name "self" q6) fld q7] (.Name x q8) q9])
    (hks : (defScope st).names.lookup ("super" : Str) = some .globalImplicit) (hmg : mg "super" = none) (hd : (x == ("__debug__" : Str)) = false) (hcd : (x == ("__classdict__" : Str)) = false)
    (hpl : ∀ L : Addr, ∃ pl : Sem Bool, swapsWith (.Call (.Attribute (.Call (.Name "super" p0) [] [] p1) "__init__" p2) [.Name x q2] [] p3) none p4.line (envF (SNF qual st cc cda) f L) = pure false ∧
      eval (.Call (.Attribute (.Call (.Name "super" p0) [] [] p1) "__init__" p2) [.Name x q2] [] p3) (envF (SNF qual st cc cda) f L) = (do
        let ov ← attributeBase (.Call (.Name "super" p0) [] [] p1) "__init__" (envF (SNF qual st cc cda) f L) (eval (.Call (.Name "super" p0) [] [] p1) (envF (SNF qual st cc cda) f L))
        standAt p2.atName
        let (f', first) ← holding [ov] (getMethod ov "__init__" pl)
        callWith p3 f' first (backTo p3 (starEach [.Name x q2] (envF (SNF qual st cc cda) f L))) []) ∧
      starEach [.Name x q2] (envF (SNF qual st cc cda) f L) = (false, eval (.Name x q2) (envF (SNF qual st cc cda) f L)) :: starEach [] (envF (SNF qual st cc cda) f L)) :
    FnOk P w K mg base CX (k + 1) f fd ["self", x] (spG K D B i newId bmB fld) := by
  have hself : (defScope st).names.lookup ("self" : Str) = some .local := S.par _ (by simp)
  have hx : (defScope st).names.lookup x = some .local := S.par _ (by simp)
  refine super_fn SF S hst hks (S.frk _ (by simp)) (by rw [har]; exact hself) hmg (j := 0) (by rw [har]; rfl) (fun vs H Q E h => by obtain ⟨a, C, x, rfl, _⟩ := h; rfl) hpl fun A outer s H vs Q E hr h => ?_
  obtain ⟨a, C, y, rfl, hy, T, SB, hno, ha, hq⟩ := h
  have hv1 : Vis (defScope st) x := .inl hx
  have hv0 : Vis (defScope st) "self" := .inl hself
  refine ⟨a, C, B, i, newId, bmB, _, _, SB, rfl, ha, pa_cons (pe_var (i := 1) rfl hv1 hd hcd) pa_nil, fun Q' hQ => ⟨.str y, rfl, hQ _⟩, pss_one (ps_setG (B := B) (newId := newId) (initId := i) (bmB := bmB) (pe_var (i := 0) rfl hv0) (pe_var (i := 1) rfl hv1 hd hcd)), ?_⟩
  exact ⟨.str y, rfl, .ref a, rfl, a, C, rfl, T, hno, ha, fun dx h1 h2 => hq dx h1 h2⟩
end
section
variable {X : Cx} {e : Expr} {es : List Expr} {ta : TA} {p pos : Pos} {B newId initId : String} {bmB : List Value}
theorem pmkG {CX : CXT} {x : Str} {C fI : Addr} {k : Nat} {fd : FuncData} {ps : List Str} {sp : Sp} {ds : List Value} {dvs : List V} (T : OexG X.K C B newId initId bmB) (hi : PySem.W.findIn X.K (.ref C) "__init__" = some (some (.ref fI))) (ht : PySem.W.typeIn X.K (.ref fI) = some (.type "function"))
    (Fn : FnOk X.prog X.w X.K X.mg X.base CX k fI fd ps sp) (hr : Room (k + 1) X.A) (hb : Binds X.K fd ps ds) (hd : Vals dvs ds) (hx : Passes CX X (fun _ _ _ => False)) (hg : Gl X x) (hm : X.mg x = some (.ref C)) (ha : PA X (e :: es) ta)
    (hdb : (x == ("__debug__" : Str)) = false := by decide) (he : starEach (e :: es) X.env = (false, eval e X.env) :: starEach es X.env := by rfl) (hpl : (backTo pos (starEach es X.env)).any (·.1) = false := by rfl) :
    PMk X (.Call (.Name x p) (e :: es) [] pos) (tMkO C sp dvs ta) := by
  intro pins s σ H Q I h
  obtain ⟨c1, c2, c3, c4, c5, c6, c7, c8, c9, c10, c11, c12, c13, c14, hC⟩ := T.cls
  refine wpAny_Call_Name_kw (ld_glob I hg hm (PySem.W.callWith_K (h₀ := X.base) I.ok.mod.kin T.kC (thn (ha.run pos pins s σ H _ I h) fun us s1 z => ?_) he hpl) hdb)
  obtain ⟨vs, H1, J, rv, hz, q⟩ := z
  refine ⟨J.kIn, ?_⟩
  obtain ⟨h0, gs, dr, tk, os⟩ := s1
  have low : h0.objs.size ≤ h0.objs.size + 1 := Nat.le_succ _
  have run := q (h0.objs.size + 1) (J.hok.fresh low)
  have up : ∀ b o, h0.get? b = some o → ((h0.push (PySem.W.kdv_tup us)).push (excO C h0.objs.size)).get? b = some o := fun b o z => Heap.get?_push_of_some _ (Heap.get?_push_of_some _ z)
  have made : ((h0.push (PySem.W.kdv_tup us)).push (excO C h0.objs.size)).get? (h0.objs.size + 1) = some (excO C h0.objs.size) := by heap_get
  have J2 : L2.Inv X pins σ (upd H1 (h0.objs.size + 1) (exo (h0.objs.size + 1) C none)) ⟨(h0.push (PySem.W.kdv_tup us)).push (excO C h0.objs.size), gs, dr, tk, os⟩ := J.laid (t' := tk) up low (exo_ok made)
  have rall : Vals (V.ref (h0.objs.size + 1) :: (vs ++ dvs)) (Value.ref (h0.objs.size + 1) :: (us ++ ds)) := .cons rfl (rv.append hd)
  have len : (Value.ref (h0.objs.size + 1) :: us ++ ds).length = ps.length := by
    have z := rall.length
    rw [Fn.len _ _ _ _ run] at z
    exact z.symm
  have few : us.length ≤ sizeLine := by
    rw [← Paired.length rv, sizeLine_eq]
    omega
  have con : ∀ Y : String, bmB.contains (.type Y) = bmB.contains (.type Y) := fun _ => rfl
  refine wpAny_call (call_own T.FB con (J.kIn _ _ hC) (PySem.W.looks_findIn J.kIn hi) (fun self => PySem.W.bind_fn J.kIn self ht) few ?_)
  refine codeAny_mono (Fn.run _ X.stack _ _ ⟨Value.ref (h0.objs.size + 1) :: us, []⟩ (Value.ref (h0.objs.size + 1) :: (us ++ ds)) _ _ (fun _ _ _ => False) (hr.make C us []) (J2.env0.make C us []) (hb _ (Value.ref (h0.objs.size + 1) :: us) J2.kIn len) rall run) fun r s2 z => ?_
  rcases r with er | fl
  · exact hx pins σ _ _ er s2 J2 z
  cases fl with
  | ret u =>
    obtain ⟨v, H2, g1, g2, g3, g4, g5, rfl, dx, fs, ea, ed, hd1, q2⟩ := z
    obtain ⟨h2, gs2, dr2, tk2, os2⟩ := s2
    exact ⟨g5, mk_end (raises_own T.exC T.tyC) J low up g3 g4 g1 g2 ea ed hd1 q2⟩
  | next => exact z.elim
  | brk => exact z.elim
  | cont => exact z.elim
end
structure FClsG (P : Program) (w : World) (K : PySem.W.Frag) (mg : Str → Option Value) (base : Heap) (k : Nat) (x : Str) (C : Addr) (f : Str) : Prop where
  g : mg x = some (.ref C)
  no : PySem.W.findIn K (.ref C) f = some none
  made : ∃ (fI D : Addr) (fd : FuncData) (ps : List Str) (B i newId : String) (bmB : List Value), OexG K C B newId i bmB ∧ FnOk P w K mg base (L2.CX P w) k fI fd ps (spG K D B i newId bmB f) ∧ SupB K D C B i newId bmB ∧ PySem.W.findIn K (.ref C) "__init__" = some (some (.ref fI)) ∧
    PySem.W.typeIn K (.ref fI) = some (.type "function") ∧ Binds K fd ps []
section
variable {X : Cx} {W : WX} {k : Nat} {x f : Str} {C : Addr} {e : Expr} {te : DE} {p pos pos2 : Pos}
theorem xs_raiseG (F : FClsG X.prog X.w X.K X.mg X.base k x C f) (hc : X.calm = true) (hr : Room (k + 1) X.A) (tk : Takes X W) (hg : Gl X x) (he : XE X W e te) (hdb : (x == ("__debug__" : Str)) = false := by decide)
    (hse : starEach [e] X.env = (false, eval e X.env) :: starEach [] X.env := by rfl) : XS X W (.Raise (some (.Call (.Name x p) [e] [] pos2)) none pos) (dRaiseF C f te) := by
  obtain ⟨fI, D, fd, ps, B, i, newId, bmB, T, Fn, SB, iC, tI, hb⟩ := F.made
  have ha : PA X [e] (tCons (liftE X.K W te) tNil) := pa_cons he.pe pa_nil hse
  have hmk := pmkG (p := p) (pos := pos2) T iC tI Fn hr hb .nil passNo hg F.g ha hdb hse rfl
  refine ⟨fun Z Z' env M l h => he.mono _ _ _ _ _ _ (fun y M1 ⟨s, h1, h2, h3⟩ => ⟨s, h1, h2, l.ex _ _ _ _ h3⟩) (fun c fs M1 q => l.ex _ _ _ _ q) h, PSw (ps_raise hc tk hmk) ?_⟩
  rintro Z σ H ⟨env, M, re, s, h⟩
  refine stepE he.mono re s h (fun y M1 u H1 e1 s1 re1 r1 q => ?_) (ends_ex re)
  obtain ⟨x', rfl, hx, q⟩ := q
  have hu : u = V.str x' := rep_v r1
  subst hu
  refine ⟨by simp, fun a ha1 => ⟨a, C, x', rfl, hx, T, SB, F.no, upd_same, fun dx hdx hne => ?_⟩⟩
  rw [upd_ne hne] at hdx
  refine ⟨rfl, dx, [(f, .str x')], upd_same, by rw [upd_ne hne, upd_same], hdx, ?_⟩
  have eH : upd (del (upd (upd (upd H1 a (exo a C none)) dx (exd dx [(f, .str x')])) a (exo a C (some dx))) a) dx (.xd [(f, .str x')]) = upd H1 dx (.xd [(f, .str x')]) := by
    funext b
    by_cases hb1 : b = dx
    · rw [hb1, upd_same, upd_same]
    · rw [upd_ne hb1, upd_ne hb1]
      by_cases hb2 : b = a
      · rw [hb2, del_same, ha1]
      · rw [del_ne hb2, upd_ne hb2, upd_ne hb1, upd_ne hb2]
  show W (.ref C) (some dx) σ _
  rw [eH]
  have ex : Ext X.K H1 (upd H1 dx (.xd [(f, .str x')])) := Ext.new hdx
  exact q (some dx) σ _ (e1.trans ex) (s1.laid hdx) (re1.mono ex) ⟨by simp, _, upd_same, _, _, rfl, rep_of, rfl⟩
end
end PL

set_option maxHeartbeats 4000000
namespace K10
open PySem PySem.Spec PyProof.Rows L2 PL NdefX
def topS (i : Nat) : Stmt := PySem.Challenge.pw_cellchains_k10_runs.main.body.getD i (.Pass ⟨0, 0, 0, 0⟩)
abbrev s_proc_named : Stmt := topS 2
theorem sc_proc_named : FnScope ["source", "name", "proc"] ["source", "name"] (defScope s_proc_named) := ⟨rfl, rfl, rfl, by decide +kernel, rfl, by decide +kernel, by decide +kernel⟩
abbrev s_run : Stmt := topS 9
theorem sc_run : FnScope ["source", "name", "addresses", "heap", "fuel", "proc", "machine", "places", "e", "stack", "one"] ["source", "name", "addresses", "heap", "fuel"] (defScope s_run) := ⟨rfl, rfl, rfl, by decide +kernel, rfl, by decide +kernel, by decide +kernel⟩
abbrev s__law_start : Stmt := topS 11
theorem sc__law_start : FnScope ["script"] ["script"] (defScope s__law_start) := ⟨rfl, rfl, rfl, by decide +kernel, rfl, by decide +kernel, by decide +kernel⟩
abbrev s__law_draw : Stmt := topS 12
theorem sc__law_draw : FnScope ["state", "most", "found", "cell", "mixed"] ["state", "most"] (defScope s__law_draw) := ⟨rfl, rfl, rfl, by decide +kernel, rfl, by decide +kernel, by decide +kernel⟩
abbrev s__law_one_of : Stmt := topS 13
theorem sc__law_one_of : FnScope ["state", "items"] ["state", "items"] (defScope s__law_one_of) := ⟨rfl, rfl, rfl, by decide +kernel, rfl, by decide +kernel, by decide +kernel⟩
abbrev s__law_shuffled : Stmt := topS 14
theorem sc__law_shuffled : FnScope ["state", "items", "found", "item"] ["state", "items"] (defScope s__law_shuffled) := ⟨rfl, rfl, rfl, by decide +kernel, rfl, by decide +kernel, by decide +kernel⟩
abbrev s__law_is_int : Stmt := topS 15
theorem sc__law_is_int : FnScope ["x"] ["x"] (defScope s__law_is_int) := ⟨rfl, rfl, rfl, by decide +kernel, rfl, by decide +kernel, by decide +kernel⟩
abbrev s__law_same : Stmt := topS 16
theorem sc__law_same : FnScope ["x", "y", "k"] ["x", "y"] (defScope s__law_same) := ⟨rfl, rfl, rfl, by decide +kernel, rfl, by decide +kernel, by decide +kernel⟩
abbrev s__law_place : Stmt := topS 17
theorem sc__law_place : FnScope ["state", "names"] ["state", "names"] (defScope s__law_place) := ⟨rfl, rfl, rfl, by decide +kernel, rfl, by decide +kernel, by decide +kernel⟩
abbrev s__law_pairs : Stmt := topS 18
theorem sc__law_pairs : FnScope ["state", "names", "many", "k"] ["state", "names", "many"] (defScope s__law_pairs) := ⟨rfl, rfl, rfl, by decide +kernel, rfl, by decide +kernel, by decide +kernel⟩
abbrev s__law_picture : Stmt := topS 19
theorem sc__law_picture : FnScope ["state", "names", "most", "same", "unlike", "edges", "cells"] ["state", "names", "most"] (defScope s__law_picture) := ⟨rfl, rfl, rfl, by decide +kernel, rfl, by decide +kernel, by decide +kernel⟩
abbrev s__law_statement : Stmt := topS 20
theorem sc__law_statement : FnScope ["state", "names", "deep", "callees", "x", "y", "pick", "name", "many", "test", "first"] ["state", "names", "deep", "callees"] (defScope s__law_statement) := ⟨rfl, rfl, rfl, by decide +kernel, rfl, by decide +kernel, by decide +kernel⟩
abbrev s__law_block : Stmt := topS 21
theorem sc__law_block : FnScope ["state", "names", "deep", "callees", "k"] ["state", "names", "deep", "callees"] (defScope s__law_block) := ⟨rfl, rfl, rfl, by decide +kernel, rfl, by decide +kernel, by decide +kernel⟩
abbrev s__law_source : Stmt := topS 22
theorem sc__law_source : FnScope ["state", "most", "procs", "callees", "name", "parameters", "places", "need", "ensures", "body", "k"] ["state", "most"] (defScope s__law_source) := ⟨rfl, rfl, rfl, by decide +kernel, rfl, by decide +kernel, by decide +kernel⟩
abbrev s__law_stop : Stmt := topS 23
theorem sc__law_stop : FnScope ["world", "word"] ["world", "word"] (defScope s__law_stop) := ⟨rfl, rfl, rfl, by decide +kernel, rfl, by decide +kernel, by decide +kernel⟩
abbrev s__law_spent : Stmt := topS 24
theorem sc__law_spent : FnScope ["world"] ["world"] (defScope s__law_spent) := ⟨rfl, rfl, rfl, by decide +kernel, rfl, by decide +kernel, by decide +kernel⟩
abbrev s__law_step : Stmt := topS 25
theorem sc__law_step : FnScope ["world", "s", "places", "heap", "at", "address", "callee", "inner", "k", "proc", "x"] ["world", "s", "places"] (defScope s__law_step) := ⟨rfl, rfl, rfl, by decide +kernel, rfl, by decide +kernel, by decide +kernel⟩
abbrev s__law_is_met : Stmt := topS 26
theorem sc__law_is_met : FnScope ["test", "places"] ["test", "places"] (defScope s__law_is_met) := ⟨rfl, rfl, rfl, by decide +kernel, rfl, by decide +kernel, by decide +kernel⟩
abbrev s__law_body : Stmt := topS 27
theorem sc__law_body : FnScope ["world", "body", "places", "s", "turn"] ["world", "body", "places"] (defScope s__law_body) := ⟨rfl, rfl, rfl, by decide +kernel, rfl, by decide +kernel, by decide +kernel⟩
abbrev s__law_proc : Stmt := topS 28
theorem sc__law_proc : FnScope ["world", "proc", "addresses", "places", "k", "x"] ["world", "proc", "addresses"] (defScope s__law_proc) := ⟨rfl, rfl, rfl, by decide +kernel, rfl, by decide +kernel, by decide +kernel⟩
abbrev s__law_run : Stmt := topS 29
theorem sc__law_run : FnScope ["source", "name", "addresses", "heap", "fuel", "world", "proc", "places", "stack", "one", "x", "k"] ["source", "name", "addresses", "heap", "fuel"] (defScope s__law_run) := ⟨rfl, rfl, rfl, by decide +kernel, rfl, by decide +kernel, by decide +kernel⟩
abbrev s_law : Stmt := topS 30
theorem sc_law : FnScope ["script", "state", "turn", "source", "name", "parameters", "places", "need", "ensures", "body", "again", "addresses", "heap", "k", "cells", "fuel", "x"] ["script"] (defScope s_law) := ⟨rfl, rfl, rfl, by decide +kernel, rfl, by decide +kernel, by decide +kernel⟩
abbrev s_Run___init__ : Stmt := inClass (topS 8) 0
theorem sc_Run___init__ : FnScope ["self", "source", "heap", "fuel"] ["self", "source", "heap", "fuel"] (defScope s_Run___init__) := ⟨rfl, rfl, rfl, by decide +kernel, rfl, by decide +kernel, by decide +kernel⟩
abbrev s_Run_spend : Stmt := inClass (topS 8) 1
theorem sc_Run_spend : FnScope ["self"] ["self"] (defScope s_Run_spend) := ⟨rfl, rfl, rfl, by decide +kernel, rfl, by decide +kernel, by decide +kernel⟩
abbrev s_Run_cell : Stmt := inClass (topS 8) 2
theorem sc_Run_cell : FnScope ["self", "address"] ["self", "address"] (defScope s_Run_cell) := ⟨rfl, rfl, rfl, by decide +kernel, rfl, by decide +kernel, by decide +kernel⟩
abbrev s_Run_simple : Stmt := inClass (topS 8) 3
theorem sc_Run_simple : FnScope ["self", "statement", "places", "kind"] ["self", "statement", "places"] (defScope s_Run_simple) := ⟨rfl, rfl, rfl, by decide +kernel, rfl, by decide +kernel, by decide +kernel⟩
abbrev s_Run_new : Stmt := inClass (topS 8) 4
theorem sc_Run_new : FnScope ["self", "address"] ["self"] (defScope s_Run_new) := ⟨rfl, rfl, rfl, by decide +kernel, rfl, by decide +kernel, by decide +kernel⟩
abbrev s_Run_call : Stmt := inClass (topS 8) 5
theorem sc_Run_call : FnScope ["self", "proc", "args", "places", "inner", "name", "parameter"] ["self", "proc", "args", "places"] (defScope s_Run_call) := ⟨rfl, rfl, rfl, by decide +kernel, rfl, by decide +kernel, by decide +kernel⟩
abbrev s_Run_is_true : Stmt := inClass (topS 8) 6
theorem sc_Run_is_true : FnScope ["self", "test", "places"] ["self", "test", "places"] (defScope s_Run_is_true) := ⟨rfl, rfl, rfl, by decide +kernel, rfl, by decide +kernel, by decide +kernel⟩
abbrev s_Run_body : Stmt := inClass (topS 8) 7
theorem sc_Run_body : FnScope ["self", "body", "places", "statement"] ["self", "body", "places"] (defScope s_Run_body) := ⟨rfl, rfl, rfl, by decide +kernel, rfl, by decide +kernel, by decide +kernel⟩
abbrev s_Run_run : Stmt := inClass (topS 8) 8
theorem sc_Run_run : FnScope ["self", "proc", "addresses", "places", "name", "address"] ["self", "proc", "addresses"] (defScope s_Run_run) := ⟨rfl, rfl, rfl, by decide +kernel, rfl, by decide +kernel, by decide +kernel⟩
abbrev s_Stop___init__ : Stmt := inClass (topS 7) 0
theorem exi_Stop {P : Program} {w : World} {K : PySem.W.Frag} {mg : Str → Option Value} {base : Heap} {D fI cc cda : Addr} {fd : FuncData} {bmB : List Value} {ar : Arg} (SF : SupF P K D fI "Stop.__init__" s_Stop___init__ ar fd cc cda) (har : ar.arg = "self") (hmg : mg "super" = none) : FnOk P w K mg base (L2.CX P w) 1 fI fd ["self", "word"] (spG K D "Exception" "Exception.__init__" "Exception.__new__" bmB "word") := exg_fn SF (nscope_by (by decide +kernel)) har rfl rfl hmg (by decide) (by decide) fun L => ⟨_, rfl, rfl, rfl⟩
structure GF (K : PySem.W.Frag) (mg : Str → Option Value) (C_Stop C_Run : Addr) : Prop where
  tuple : mg "tuple" = none
  isinstance : mg "isinstance" = none
  str : mg "str" = none
  range : mg "range" = none
  dict : mg "dict" = none
  zip : mg "zip" = none
  sorted : mg "sorted" = none
  list : mg "list" = none
  len : mg "len" = none
  abs : mg "abs" = none
  int : mg "int" = none
  all : mg "all" = none
  bool : mg "bool" = none
  min : mg "min" = none
  NIL : ∃ u, mg "NIL" = some u ∧ RelV (.str "nil") u
  DONE : ∃ u, mg "DONE" = some u ∧ RelV (.str "done") u
  FAULT : ∃ u, mg "FAULT" = some u ∧ RelV (.str "fault") u
  CUT : ∃ u, mg "CUT" = some u ∧ RelV (.str "cut") u
  N_Stop : mg "Stop" = some (.ref C_Stop)
  M_Stop : PySem.W.exmOne K (.ref C_Stop) (.ref C_Stop) = some true
  OKX : ∀ C, (C = C_Stop) → XfC K C ∧ ExcC K C ∧ PySem.W.findIn K (.ref C) "word" = some none
  T_Run : ICls K C_Run ["source", "heap", "fuel"]
end K10

set_option maxHeartbeats 4000000
namespace K10
open PySem PySem.Spec PyProof.Rows L2 PL
variable {P : Program} {w : World} {K : PySem.W.Frag} {mg : Str → Option Value} {base : Heap} {C_Stop C_Run : Addr}
local macro_rules | `(tactic| simp! [$ls,*]) => `(tactic| simp only [s_fld, s_fldK, s_insAt, s_optD, s_obAt, s_fput, s_fputK1, s_fputK2, s_faug, s_faugK1, s_faugK2, s_faugK3, s_meth, s_methK1, s_methK2, s_make, s_makeK, s_makeK2, s_dead, s_tryN, noX_nx, noX_rt, noX_bk, noX_ct, mSplit, opMulS, s_enum, s_enumK, s_sortBy, s_sortByK, look_nil, look_cons, putFD_nil, putFD_cons, List.append_nil, to_nx, to_rt, to_bk, to_ct, to_ex, lp_nx, lp_rt, lp_bk, lp_ct, lp_ex, ret_nx, ret_rt, ret_ex, s_exK, s_bif1, s_bif0, s_optB, s_optE, s_nxD, s_ifK, s_asgN, s_asgT, s_asgL, b_nil, b_nm, b_tp, s_next, s_seq, s_drop, s_ret, s_retN, s_ifS, s_asg, s_brk, s_cont, s_put, s_put1, s_put2, s_put3, s_aug, s_augV, s_augK, s_augK2, s_bin, s_bin1, s_bin2, s_var, s_varK, s_C, s_cb, s_cbK, s_call, s_callK, s_m, s_m1, s_m2, s_nil, s_cons, s_cons1, s_cons2, s_tup, s_tupK, s_lst, s_lstK, s_truth, s_trK, s_tK, s_eK, s_cK, s_and, s_andK, s_or, s_orK, s_not, s_notK, s_ife, s_ifeK, s_andV, s_orV, s_andvK, s_orvK, s_andvK2, s_orvK2, s_notV, s_notvK, s_blK, s_neg, s_negK, s_sl, s_sl1, s_sl2, s_sl3, s_noPart, s_part, s_partK, s_rev, s_revK, s_for, s_forK, s_lc, s_lcK, s_yes, s_walk, s_walkT, s_walkS, s_walkA, s_walkL, s_walkR, s_rng1, s_rng2, s_rng1K, s_rng2K, s_callL, s_callLK, s_callLO, s_clK, s_raise, r_val, r_new, r_put, s_whK, s_lcY, s_lcT, s_lcE, s_cg, s_cgK, s_rng3, s_rng3K, s_lcB, s_lcS, wipeD, Pat.bind, seqOf, rg, s_dict0, s_sortSet, s_sortSetK, q_is_tuple, q_is_str, q_is_int, q_is_bool, q_is_list, q_isR, ofS_inj, String.reduceEq, q_eqI, q_neI, q_eqS, q_neS, decide_true, decide_false, Int.reduceEq, reduceCtorEq, i_NoneType_tuple, i_NoneType_str, i_NoneType_int, i_NoneType_bool, i_NoneType_list, i_bool_tuple, i_bool_str, i_bool_int, i_bool_bool, i_bool_list, i_int_tuple, i_int_str, i_int_int, i_int_bool, i_int_list, i_str_tuple, i_str_str, i_str_int, i_str_bool, i_str_list, i_tuple_tuple, i_tuple_str, i_tuple_int, i_tuple_bool, i_tuple_list, i_list_tuple, i_list_str, i_list_int, i_list_bool, i_list_list, i_dict_tuple, i_dict_str, i_dict_int, i_dict_bool, i_dict_list, tyN, startD, mupd_same, mupd_ne, ne_eq, not_false_eq_true, List.map_cons, List.map_nil, List.length_cons, List.length_nil, List.replicate_succ, List.replicate_zero, Nat.zero_add, Nat.reduceAdd, Nat.reduceSub, Int.cast_ofNat_Int, List.cons_append, List.nil_append, List.getElem?_cons_zero, List.getElem?_cons_succ, List.set_cons_zero, List.set_cons_succ, opIx, atI_cons, ixN, opPut, opAdd, opSub, opMul, opFdiv, opMod, opPow, opLt, opLe, opGt, opGe, opIs, opIsNot, D.isNon, truth, bLen, bAbs, bInt, bTuple, bList, isTy, mAppend, mExtend, mPop, Int.reduceLE, Int.reduceLT, Int.reduceToNat, Int.reduceNeg, Int.reduceNe, Option.bind_some, if_true, if_false, ite_true, ite_false, true_and, and_true, Bool.not_true, Bool.not_false, opIadd, Nat.reduceLT, Nat.reduceLeDiff, Int.ofNat_lt, s_lc2, s_lc2J, s_lc2B, s_lc2T, s_lc2E, s_raiseF, s_raiseFK, s_tryF, s_xf, s_xfK, s_xfAt, s_lenSet, s_lenSetK, opMulT, mInsert, s_zip, s_zipKL, s_zipKT, zipD, s_dpNil, s_dpCons, s_dpK1, s_dpK2, s_dpK3, s_disp, s_dispK, s_optKV, kvOf, s_dc, s_dcK, s_keys, s_lockK, s_sortIt, mGet, mDPop, dgetR, bDictC, bTupC, opEqD, opNeD, eqDR, D.key, merge_one, optKV, id, opEqL, opNeL, eqLR, $ls,*])
theorem fn_start (S : Src K mg "_law_start" s__law_start ["script"]) (G : GF K mg C_Stop C_Run) : Fn P w K mg base 1 "_law_start" (sp_start K) [] := by
  refine S.fn mono_start fun f fd F => fn_ok F sc__law_start (fun ds M Q E h => by obtain ⟨a, m, rfl, _⟩ := h; rfl) ⟨_, fun cdv A outer s H E hr => have hu := hr.u200
    (xss_one (xs_ret (xe_lst (n := 4) (xa_cons (xe_callTyG bListS_mono c_listS (by rfl) G.list (by decide +kernel) (xa_cons (xe_var 0) xa_nil)) (xa_cons xe_int (xa_cons xe_int (xa_cons xe_int xa_nil))))))), fun ds M Q E h => ?_⟩
  obtain ⟨a, ns, rfl, hs, h⟩ := h
  simp! []
  refine ⟨a, ns, rfl, hs, fun p hp => ?_⟩
  simp! []
  intro q hq
  have hqp : q ≠ p := (mupd_none ▸ hq : _ ∧ _).1
  have hq' : M q = none := (mupd_none ▸ hq : _ ∧ _).2
  exact h _ _ _ hq' hp ⟨0, 0, 0, ns, by simp only [mupd_same], by rw [mupd_ne (Ne.symm hqp), mupd_same], by decide, by decide, Ne.symm hqp⟩ ((Keep.new hp).trans (Keep.new hq))
theorem fn_draw (S : Src K mg "_law_draw" s__law_draw ["state", "most"]) (G : GF K mg C_Stop C_Run) : Fn P w K mg base 1 "_law_draw" sp_draw [] := by
  refine S.fn mono_draw fun f fd F => fn_ok F sc__law_draw (fun ds M Q E h => by obtain ⟨a, b, m, rfl, _⟩ := h; rfl) ⟨_, fun cdv A outer s H E hr => have hu := hr.u200
    (xss_cons (xs_put hu (xe_bin x_add (xe_ix hu (xe_var 0) xe_int) xe_int) (xe_var 0) xe_int)
 (xss_cons (xs_if (xt_cmp x_gt (xe_ix hu (xe_var 0) xe_int) xe_int (nomark _) bl_gt)
 (xss_cons (xs_set 2 sc__law_draw.nd (xe_bin x_mod (xe_callTy c_int (by rfl) G.int (by decide +kernel) (xa_cons (xe_ix hu (xe_var 0) xe_int) xa_nil)) (xe_var 1)))
 (xss_cons (xs_put hu (xe_bin x_fdiv (xe_ix hu (xe_var 0) xe_int) (xe_var 1)) (xe_var 0) xe_int)
 (xss_one (xs_ret (xe_var 2)))))
 xss_nil)
 (xss_cons (xs_set 3 sc__law_draw.nd xe_int)
 (xss_cons (xs_if (xt_cmp x_gt (xe_callB c_len (by rfl) G.len (by decide +kernel) (xa_cons (xe_ix hu (xe_var 0) xe_int) xa_nil)) xe_int (nomark _) bl_gt)
 (xss_one (xs_set 3 sc__law_draw.nd (xe_callB c_abs (by rfl) G.abs (by decide +kernel) (xa_cons (xe_ix hu (xe_ix hu (xe_var 0) xe_int) (xe_bin x_mod (xe_callTy c_int (by rfl) G.int (by decide +kernel) (xa_cons (xe_ix hu (xe_var 0) xe_int) xa_nil)) (xe_callB c_len (by rfl) G.len (by decide +kernel) (xa_cons (xe_ix hu (xe_var 0) xe_int) xa_nil)))) xa_nil))))
 xss_nil)
 (xss_cons (xs_put hu (xe_bin x_add (xe_ix hu (xe_var 0) xe_int) xe_int) (xe_var 0) xe_int)
 (xss_cons (xs_if (xt_cmp x_ge (xe_var 3) (xe_bin x_pow xe_int xe_int) (nomark _) bl_ge)
 (xss_cons (xs_put hu (xe_bin x_fdiv (xe_var 3) (xe_var 1)) (xe_var 0) xe_int)
 (xss_one (xs_ret (xe_bin x_mod (xe_callTy c_int (by rfl) G.int (by decide +kernel) (xa_cons (xe_var 3) xa_nil)) (xe_var 1)))))
 xss_nil)
 (xss_cons (xs_set 4 sc__law_draw.nd (xe_bin x_mod (xe_callTy c_int (by rfl) G.int (by decide +kernel) (xa_cons (xe_bin x_add (xe_bin x_mul (xe_bin x_add (xe_var 3) xe_int) xe_int) (xe_bin x_mul (xe_ix hu (xe_var 0) xe_int) xe_int)) xa_nil)) xe_int))
 (xss_cons (xs_set 4 sc__law_draw.nd (xe_bin x_mod (xe_callTy c_int (by rfl) G.int (by decide +kernel) (xa_cons (xe_bin x_add (xe_bin x_add (xe_bin x_mul (xe_var 4) xe_int) (xe_bin x_fdiv (xe_var 3) xe_int)) (xe_ix hu (xe_var 0) xe_int)) xa_nil)) xe_int))
 (xss_one (xs_ret (xe_bin x_mod (xe_bin x_fdiv (xe_var 4) xe_int) (xe_var 1)))))))))))), fun ds M Q E h => ?_⟩
  obtain ⟨a, b, m, rfl, ⟨p, q, c, ns, ha, hb, hp, hq, hne⟩, h0, h1, h⟩ := h
  have fin : ∀ (r : Int) (M' : Mem) (p q : Int), 0 ≤ r → r < m → 0 ≤ p → 0 ≤ q → M' a = some (.lst [.ob b, .int p, .int q, .int (c + 1)]) → (∀ b, b ≠ a → M' b = M b) → Q (.int r) M' := fun r M' p q r0 r1 p0 q0 e k =>
    h r M' r0 r1 ⟨p, q, c + 1, ns, e, by rw [k b hne]; exact hb, p0, q0, hne⟩ fun b' o e' n => by rw [k b' (by simpa using n)]; exact e'
  simp! [ha]
  refine bif_dec (fun hq0 => ?_) fun hq0 => ?_
  · simp! [ha, h0, h1]
    exact fin _ _ p (q / m) (Int.emod_nonneg _ (by omega)) (Int.emod_lt_of_pos _ h0) hp (Int.ediv_nonneg hq (by omega)) (by simp only [mupd_same]) fun b' hb' => by simp only [mupd_ne hb']
  · simp! [ha, hb, mupd_ne hne]
    refine bif_midD (fun e M' => ∃ cell : Int, e = [some (D.ob a), some (D.int m), none, some (D.int cell), none] ∧ M' = mupd M a (.lst [.ob b, .int p, .int q, .int (c + 1)]) ∧ 0 ≤ cell) (fun hl N hN => ?_) (fun hl N hN => ?_) ?_
    · rw [List.length_map] at hl
      simp! [ha, hb, mupd_ne hne, List.length_map]
      refine ⟨hl, ?_⟩
      have h2 := Int.emod_nonneg p (b := (ns.length : Int)) (by omega)
      have h3 := Int.emod_lt_of_pos p (b := (ns.length : Int)) hl
      have hx : atI (ns.map D.int) (p % (ns.length : Int)) = some (D.int (ns[(p % (ns.length : Int)).toNat]'(by omega))) := by rw [atI_map', atI_get h2 h3]; rfl
      simp! [hx]
      exact hN _ _ ⟨_, rfl, rfl, by split <;> omega⟩
    · simp! []
      exact hN _ _ ⟨_, rfl, rfl, by omega⟩
    · rintro e M' ⟨cell, rfl, rfl, hc⟩
      simp! [ha, hb, mupd_ne hne]
      refine ⟨by decide, bif_dec (fun hl => ?_) fun hl => ?_⟩
      · simp! [ha, h0, h1]
        exact fin _ _ (p + 1) (cell / m) (Int.emod_nonneg _ (by omega)) (Int.emod_lt_of_pos _ h0) (by omega) (Int.ediv_nonneg hc (by omega)) (by simp only [mupd_same]) fun b' hb' => by simp only [mupd_ne hb']
      · simp! [ha, h0]
        exact ⟨IntMulOk.of_right (intBits_le_64 (by decide) (by decide)), IntMulOk.of_right (intBits_le_64 (by decide) (by decide)), IntMulOk.of_right (intBits_le_64 (by decide) (by decide)),
          fin _ _ (p + 1) q (Int.emod_nonneg _ (by omega)) (Int.emod_lt_of_pos _ h0) (by omega) hq (by simp only [mupd_same]) fun b' hb' => by simp only [mupd_ne hb']⟩
theorem fn_one_of (S : Src K mg "_law_one_of" s__law_one_of ["state", "items"]) (G : GF K mg C_Stop C_Run) (F__law_draw : Fn P w K mg base 1 "_law_draw" sp_draw []) : Fn P w K mg base 2 "_law_one_of" sp_one_of [] := by
  refine S.fn mono_one_of fun f fd F => fn_ok F sc__law_one_of (fun ds M Q E h => by obtain ⟨a, b, m, es, rfl, _⟩ := h; rfl) ⟨_, fun cdv A outer s H E hr => have hu := hr.u200
    (xss_one (xs_ret (xe_ix hu (xe_var 1) (xe_call F__law_draw (hr.mono (by first | decide | omega)) bx_takes (by rfl) (xa_cons (xe_var 0) (xa_cons (xe_callB c_len (by rfl) G.len (by decide +kernel) (xa_cons (xe_var 1) xa_nil)) xa_nil)))))), fun ds M Q E h => ?_⟩
  obtain ⟨a, b, d, es, rfl, hs, hd, hn, h0, h1, h⟩ := h
  have hz : es.length ≤ sizeLine := by rw [sizeLine_eq]; omega
  have hp := List.length_pos_iff.mpr h0
  simp! []
  refine len_seqI hd hz ?_
  simp! []
  refine ⟨a, b, _, rfl, hs, by omega, by omega, fun r M' r0 r1 hs' k => ?_⟩
  simp! []
  obtain ⟨x, hx, hm⟩ := atI_some (xs := es) r0 r1
  exact ix_seqI (seqI_keep hd k hn) hz hx (h x M' hm hs' k)
theorem fn_is_int (S : Src K mg "_law_is_int" s__law_is_int ["x"]) (G : GF K mg C_Stop C_Run) : Fn P w K mg base 1 "_law_is_int" sp_is_int [] := by
  refine S.fn mono_is_int fun f fd F => fn_ok F sc__law_is_int (fun ds M Q E h => by obtain ⟨a, rfl, _⟩ := h; rfl) ⟨_, fun cdv A outer s H E hr => have hu := hr.u200
    (xss_one (xs_ret (xe_and (xe_callB c_isi (by rfl) G.isinstance (by decide +kernel) (xa_cons (xe_var 0) (xa_cons (xe_bltn (v := .ty "int") (by rfl) G.int (by decide +kernel) rfl) xa_nil))) (xe_one (xe_not (xe_callB c_isi (by rfl) G.isinstance (by decide +kernel) (xa_cons (xe_var 0) (xa_cons (xe_bltn (v := .ty "bool") (by rfl) G.bool (by decide +kernel) rfl) xa_nil)))))))), fun ds M Q E h => ?_⟩
  obtain ⟨i, rfl, h⟩ := h
  simp! []
  exact h
end K10

set_option maxHeartbeats 4000000
namespace K10
open PySem PySem.Spec PyProof.Rows L2 PL SX
variable {P : Program} {w : World} {K : PySem.W.Frag} {mg : Str → Option Value} {base : Heap} {C_Stop C_Run : Addr}
/-! runs as plain data -/
abbrev nil_ : Str := Str.ofString "nil"
abbrev Al (κ : Type) := List (κ × Int)
def setL {κ : Type} [DecidableEq κ] (P : Al κ) (k : κ) (v : Int) : Al κ := if (P.any fun kv => decide (kv.1 = k)) = true then P.map (fun kv => if kv.1 = k then (kv.1, v) else kv) else P ++ [(k, v)]
def drpL {κ : Type} [DecidableEq κ] (P : Al κ) (k : κ) : Al κ := P.filter fun kv => decide (kv.1 ≠ k)
abbrev pD (p : Str × Int) : Key × D := (Sum.inr p.1, D.int p.2)
theorem look_mapJ {κ : Type} [DecidableEq κ] {j : κ → Key} (hj : ∀ a b, j a = j b → a = b) (P : Al κ) (k : κ) : look (P.map fun p => (j p.1, D.int p.2)) (j k) = (look P k).map D.int := by
  induction P with
  | nil => rfl
  | cons p r ih =>
    simp only [List.map_cons, look]
    by_cases e : p.1 = k
    · rw [if_pos e, if_pos (by rw [e])]; rfl
    · rw [if_neg e, if_neg (fun z => e (hj _ _ z)), ih]
theorem put_mapJ {κ : Type} [DecidableEq κ] {j : κ → Key} (hj : ∀ a b, j a = j b → a = b) (P : Al κ) (k : κ) (v : Int) : putD (P.map fun p => (j p.1, D.int p.2)) (j k) (D.int v) = (setL P k v).map fun p => (j p.1, D.int p.2) := by
  unfold putD setL
  have e : ((P.map fun p => (j p.1, D.int p.2)).any fun kv => decide (kv.1 = j k)) = P.any fun kv => decide (kv.1 = k) := by
    rw [List.any_map]
    congr 1
    funext p
    exact decide_eq_decide.mpr ⟨fun z => hj _ _ z, fun z => by show j p.1 = j k; rw [z]⟩
  rw [e]
  split
  · rw [List.map_map, List.map_map]
    refine List.map_congr_left fun p _ => ?_
    simp only [Function.comp]
    by_cases z : p.1 = k
    · rw [if_pos z, if_pos (by rw [z])]
    · rw [if_neg z, if_neg fun q => z (hj _ _ q)]
  · rw [List.map_append]; rfl
theorem drop_mapJ {κ : Type} [DecidableEq κ] {j : κ → Key} (hj : ∀ a b, j a = j b → a = b) (P : Al κ) (k : κ) : dropD (P.map fun p => (j p.1, D.int p.2)) (j k) = (drpL P k).map fun p => (j p.1, D.int p.2) := by
  unfold dropD drpL
  rw [List.filter_map]
  congr 1
  refine List.filter_congr fun p _ => ?_
  simp only [Function.comp]
  exact decide_eq_decide.mpr ⟨fun z q => z (by rw [q]), fun z q => z (hj _ _ q)⟩
theorem inr_inj (a b : Str) (h : (Sum.inr a : Key) = Sum.inr b) : a = b := by injection h
theorem inl_inj (a b : Int) (h : (Sum.inl a : Key) = Sum.inl b) : a = b := by injection h
theorem look_p (P : Al Str) (x : Str) : look (P.map pD) (Sum.inr x : Key) = (look P x).map D.int := look_mapJ (j := Sum.inr) inr_inj P x
theorem put_p (P : Al Str) (x : Str) (v : Int) : putD (P.map pD) (Sum.inr x : Key) (D.int v) = (setL P x v).map pD := put_mapJ (j := Sum.inr) inr_inj P x v
theorem look_h (H : Al Int) (a : Int) : look (H.map entD) (Sum.inl a : Key) = (look H a).map D.int := look_mapJ (j := Sum.inl) inl_inj H a
theorem put_h (H : Al Int) (a v : Int) : putD (H.map entD) (Sum.inl a : Key) (D.int v) = (setL H a v).map entD := put_mapJ (j := Sum.inl) inl_inj H a v
theorem drop_h (H : Al Int) (a : Int) : dropD (H.map entD) (Sum.inl a : Key) = (drpL H a).map entD := drop_mapJ (j := Sum.inl) inl_inj H a
section
variable {κ : Type} [DecidableEq κ]
theorem look_mem {P : Al κ} {k : κ} : (look P k).isSome = true ↔ k ∈ P.map (·.1) := by
  induction P with
  | nil => simp [look]
  | cons p r ih =>
    simp only [look, List.map_cons, List.mem_cons]
    by_cases e : p.1 = k
    · rw [if_pos e]; simp [e]
    · rw [if_neg e, ih]
      exact ⟨.inr, fun z => z.elim (fun q => absurd q.symm e) id⟩
theorem look_none {P : Al κ} {k : κ} : look P k = none ↔ k ∉ P.map (·.1) := by
  rw [← look_mem]
  cases look P k <;> simp
theorem set_keys {P : Al κ} {k : κ} {v : Int} : (setL P k v).map (·.1) = if k ∈ P.map (·.1) then P.map (·.1) else P.map (·.1) ++ [k] := by
  unfold setL
  have e : (P.any fun kv => decide (kv.1 = k)) = true ↔ k ∈ P.map (·.1) := by
    rw [List.any_eq_true]
    simp only [decide_eq_true_eq, List.mem_map]
  by_cases h : k ∈ P.map (·.1)
  · rw [if_pos (e.mpr h), if_pos h, List.map_map]
    refine List.map_congr_left fun p _ => ?_
    simp only [Function.comp]
    split <;> rfl
  · rw [if_neg (fun z => h (e.mp z)), if_neg h, List.map_append]; rfl
theorem set_keys_in {P : Al κ} {k : κ} {v : Int} (h : k ∈ P.map (·.1)) : (setL P k v).map (·.1) = P.map (·.1) := by rw [set_keys, if_pos h]
theorem look_set {P : Al κ} {k l : κ} {v : Int} : look (setL P k v) l = if l = k then some v else look P l := by
  unfold setL
  split
  · rename_i h
    induction P with
    | nil => simp at h
    | cons p r ih =>
      simp only [List.map_cons]
      by_cases e : p.1 = k
      · rw [if_pos e]
        simp only [look]
        by_cases z : l = k
        · rw [if_pos z, if_pos (by rw [e, z])]
        · rw [if_neg z, if_neg (fun q => z (by rw [← q, e]))]
          have e2 : p.1 ≠ l := fun q => z (by rw [← q, e])
          rw [if_neg e2]
          clear ih h
          induction r with
          | nil => rfl
          | cons q r ih =>
            simp only [List.map_cons]
            by_cases w : q.1 = k
            · rw [if_pos w]
              simp only [look]
              have w2 : q.1 ≠ l := fun x => z (by rw [← x, w])
              rw [if_neg w2, if_neg w2, ih]
            · rw [if_neg w]
              simp only [look]
              split
              · rfl
              · exact ih
      · rw [if_neg e]
        have h2 : (r.any fun kv => decide (kv.1 = k)) = true := by simpa [e] using h
        simp only [look]
        by_cases z : l = k
        · rw [if_pos z, if_neg (by rw [z]; exact e), ih h2, if_pos z]
        · rw [if_neg z]
          split
          · rfl
          · rw [ih h2, if_neg z]
  · rename_i h
    have hk : k ∉ P.map (·.1) := by
      intro z
      obtain ⟨p, hp, e⟩ := List.mem_map.mp z
      exact h (List.any_eq_true.mpr ⟨p, hp, by simpa using e⟩)
    induction P with
    | nil =>
      simp only [List.nil_append, look]
      by_cases z : l = k
      · rw [if_pos z, if_pos z.symm]
      · rw [if_neg z, if_neg (Ne.symm z)]
    | cons p r ih =>
      simp only [List.map_cons, List.mem_cons, not_or] at hk
      simp only [List.cons_append, look]
      by_cases z : p.1 = l
      · rw [if_pos z, if_pos z, if_neg (fun q => hk.1 (by rw [← q, z]))]
      · rw [if_neg z, if_neg z, ih (by simp at h ⊢; exact h.2) hk.2]
end
end K10

set_option maxHeartbeats 4000000
namespace K10
open PySem PySem.Spec PyProof.Rows L2 PL SX
variable {P : Program} {w : World} {K : PySem.W.Frag} {mg : Str → Option Value} {base : Heap} {C_Stop C_Run : Addr}
/-! the meaning of a source -/
abbrev Pl := Al Str
abbrev Hq := Al Int
inductive St where
  | copy (x y : Str)
  | read (x y : Str)
  | link (x y : Str)
  | new (x : Str)
  | free (x : Str)
  | call (n : Str) (as : List Str)
  | wh (t : Bool) (x y : Str) (c : List St)
  | ite (t : Bool) (x y : Str) (c d : List St)
abbrev kSame : Str := Str.ofString "same"
abbrev kUnl : Str := Str.ofString "unlike"
abbrev wRead : Str := Str.ofString "read"
abbrev wCopy : Str := Str.ofString "copy"
abbrev wLink : Str := Str.ofString "link"
abbrev wNew : Str := Str.ofString "new"
abbrev wFree : Str := Str.ofString "free"
abbrev wCall : Str := Str.ofString "call"
abbrev wIf : Str := Str.ofString "if"
abbrev wWhile : Str := Str.ofString "while"
def kind (t : Bool) : Str := if t then kSame else kUnl
def tstD (t : Bool) (x y : Str) : D := .tup [.str (kind t), .str x, .str y]
mutual
def St.enc : St → D
  | .copy x y => .tup [.str wCopy, .str x, .str y]
  | .read x y => .tup [.str wRead, .str x, .str y]
  | .link x y => .tup [.str wLink, .str x, .str y]
  | .new x => .tup [.str wNew, .str x]
  | .free x => .tup [.str wFree, .str x]
  | .call n as => .tup [.str wCall, .str n, .tup (as.map D.str)]
  | .wh t x y c => .tup [.str wWhile, tstD t x y, .tup (encL c)]
  | .ite t x y c d => .tup [.str wIf, tstD t x y, .tup (encL c), .tup (encL d)]
def encL : List St → List D
  | [] => []
  | s :: r => s.enc :: encL r
end
theorem encL_map : ∀ b, encL b = b.map St.enc
  | [] => rfl
  | s :: r => by rw [encL, encL_map r]; rfl
/-- the first number from a on that is no key -/
def freshN (ks : List Int) : Nat → Int → Int
  | 0, a => a
  | n + 1, a => if a ∈ ks then freshN ks n (a + 1) else a
def above (ks : List Int) (a : Int) : Nat := (ks.filter fun k => decide (a ≤ k)).length
def fresh (H : Hq) : Int := freshN (H.map (·.1)) (H.length + 1) 1
def IsFresh (ks : List Int) (a : Int) : Prop := 1 ≤ a ∧ a ∉ ks ∧ ∀ b, 1 ≤ b → b < a → b ∈ ks
theorem above_lt {ks : List Int} {a : Int} (h : a ∈ ks) : above ks (a + 1) < above ks a := by
  unfold above
  induction ks with
  | nil => cases h
  | cons k r ih =>
    have mono : (r.filter fun k => decide (a + 1 ≤ k)).length ≤ (r.filter fun k => decide (a ≤ k)).length := by
      clear ih h
      induction r with
      | nil => simp
      | cons q r ih =>
        simp only [List.filter_cons]
        by_cases h1 : a + 1 ≤ q
        · rw [if_pos (by simpa using h1), if_pos (by simp; omega), List.length_cons, List.length_cons]; omega
        · rw [if_neg (by simpa using h1)]
          split
          · rw [List.length_cons]; omega
          · exact ih
    simp only [List.filter_cons]
    rcases List.mem_cons.mp h with e | h
    · rw [if_neg (by simp; omega), if_pos (by simp; omega), List.length_cons]; omega
    · have := ih h
      by_cases h1 : a + 1 ≤ k
      · rw [if_pos (by simpa using h1), if_pos (by simp; omega), List.length_cons, List.length_cons]; omega
      · rw [if_neg (by simpa using h1)]
        split
        · rw [List.length_cons]; omega
        · exact this
theorem freshN_is {ks : List Int} : ∀ (n : Nat) (a : Int), above ks a < n → 1 ≤ a → (∀ b, 1 ≤ b → b < a → b ∈ ks) → IsFresh ks (freshN ks n a)
  | 0, a, h, _, _ => by omega
  | n + 1, a, h, h1, h2 => by
    unfold freshN
    split
    · rename_i hm
      refine freshN_is n (a + 1) (by have := above_lt hm; omega) (by omega) fun b hb1 hb2 => ?_
      by_cases e : b = a
      · rw [e]; exact hm
      · exact h2 b hb1 (by omega)
    · rename_i hm
      exact ⟨h1, hm, h2⟩
theorem fresh_is (H : Hq) : IsFresh (H.map (·.1)) (fresh H) := freshN_is _ _ (by
  have : above (H.map (·.1)) 1 ≤ (H.map (·.1)).length := List.length_filter_le _ _
  rw [List.length_map] at this
  omega) (by decide) fun b h1 h2 => by omega
theorem fresh_one {ks : List Int} {a b : Int} (h : IsFresh ks a) (g : IsFresh ks b) : a = b := by
  rcases Int.lt_trichotomy a b with z | z | z
  · exact absurd (g.2.2 a h.1 z) h.2.1
  · exact z
  · exact absurd (h.2.2 b g.1 z) g.2.1
/-! what runs give -/
inductive Out where
  | ok (P : Pl) (H : Hq) (f : Nat)
  | stop (fault : Bool)
inductive OutC where
  | ok (vs : List Int) (H : Hq) (f : Nat)
  | stop (fault : Bool)
abbrev CallF := Str → List Int → Hq → Nat → OutC
def val (P : Pl) (x : Str) : Int := (look P x).getD 0
def setAll (P : Pl) : List (Str × Int) → Pl
  | [] => P
  | p :: r => setAll (setL P p.1 p.2) r
def tst (t : Bool) (x y : Str) (P : Pl) : Bool := decide (val P x = val P y) == t
def whileF (bd : Pl → Hq → Nat → Out) (t : Bool) (x y : Str) : Nat → Pl → Hq → Nat → Out
  | 0, _, _, _ => .stop false
  | n + 1, P, H, f => if tst t x y P = true then match bd P H f with
    | .ok P' H' f' => if f' = 0 then .stop false else whileF bd t x y n P' H' (f' - 1)
    | .stop w => .stop w
    else .ok P H f
mutual
def St.ex (cf : CallF) : St → Pl → Hq → Nat → Out
  | .copy x y, P, H, f => .ok (setL P x (val P y)) H f
  | .read x y, P, H, f => match look H (val P y) with
    | some v => .ok (setL P x v) H f
    | none => .stop true
  | .link x y, P, H, f => if (look H (val P x)).isSome = true then .ok P (setL H (val P x) (val P y)) f else .stop true
  | .new x, P, H, f => .ok (setL P x (fresh H)) (setL H (fresh H) 0) f
  | .free x, P, H, f => if (look H (val P x)).isSome = true then .ok P (drpL H (val P x)) f else .stop true
  | .call n as, P, H, f => match cf n (as.map (val P)) H f with
    | .ok vs H' f' => .ok (setAll P (as.zip vs)) H' f'
    | .stop w => .stop w
  | .wh t x y c, P, H, f => whileF (fun P H f => exL cf c P H f) t x y (f + 1) P H f
  | .ite t x y c d, P, H, f => if tst t x y P = true then exL cf c P H f else exL cf d P H f
def exL (cf : CallF) : List St → Pl → Hq → Nat → Out
  | [], P, H, f => .ok P H f
  | s :: r, P, H, f => if f = 0 then .stop false else match s.ex cf P H (f - 1) with
    | .ok P' H' f' => exL cf r P' H' f'
    | .stop w => .stop w
end
structure Pr where
  nm : Str
  ps : List Str
  ls : List Str
  need : D
  ens : D
  body : List St
def Pr.enc (p : Pr) : D := .tup [.str p.nm, .tup (p.ps.map D.str), .tup (p.ls.map D.str), p.need, p.ens, .tup (encL p.body)]
def start (p : Pr) (vs : List Int) : Pl := setAll [(nil_, 0)] (p.ps.zip vs ++ p.ls.map fun x => (x, 0))
def runP (cf : CallF) (p : Pr) (vs : List Int) (H : Hq) (f : Nat) : Out := exL cf p.body (start p vs) H f
def outC (p : Pr) : Out → OutC
  | .ok I H f => .ok (p.ps.map (val I)) H f
  | .stop w => .stop w
/-- the procedures, the last one first -/
def callOf : List Pr → CallF
  | [], _, _, _, _ => .stop true
  | p :: e, n, vs, H, f => if p.nm = n then outC p (runP (callOf e) p vs H f) else callOf e n vs H f
end K10

set_option maxHeartbeats 4000000
namespace K10
open PySem PySem.Spec PyProof.Rows L2 PL SX
variable {P : Program} {w : World} {K : PySem.W.Frag} {mg : Str → Option Value} {base : Heap} {C_Stop C_Run : Addr}
/-! what can stand, and what stays -/
abbrev Sig := Str → Option Nat
mutual
def St.vl (sg : Sig) (ks : List Str) : St → Prop
  | .copy x y => x ∈ ks ∧ y ∈ ks
  | .read x y => x ∈ ks ∧ y ∈ ks
  | .link x y => x ∈ ks ∧ y ∈ ks
  | .new x => x ∈ ks
  | .free x => x ∈ ks
  | .call n as => sg n = some as.length ∧ ∀ a ∈ as, a ∈ ks
  | .wh _ x y c => x ∈ ks ∧ y ∈ ks ∧ vlL sg ks c
  | .ite _ x y c d => x ∈ ks ∧ y ∈ ks ∧ vlL sg ks c ∧ vlL sg ks d
def vlL (sg : Sig) (ks : List Str) : List St → Prop
  | [] => True
  | s :: r => s.vl sg ks ∧ vlL sg ks r
end
abbrev keys {κ : Type} (P : Al κ) : List κ := P.map (·.1)
/-- the numbers n and m bound what the heap takes, and the fuel -/
def Bd (ks : List Str) (n m : Nat) : Out → Prop
  | .ok P H f => keys P = ks ∧ (keys H).Nodup ∧ H.length + f ≤ n ∧ f ≤ m
  | .stop _ => True
def BdC (l n m : Nat) : OutC → Prop
  | .ok vs H f => vs.length = l ∧ (keys H).Nodup ∧ H.length + f ≤ n ∧ f ≤ m
  | .stop _ => True
def CfOk (cf : CallF) (sg : Sig) : Prop := ∀ n vs H f, sg n = some vs.length → (keys H).Nodup → BdC vs.length (H.length + f) f (cf n vs H f)
theorem Bd.mono {ks : List Str} {n m n' m' : Nat} {o : Out} (h : Bd ks n m o) (h1 : n ≤ n') (h2 : m ≤ m') : Bd ks n' m' o := by
  cases o with
  | ok P H f => exact ⟨h.1, h.2.1, Nat.le_trans h.2.2.1 h1, Nat.le_trans h.2.2.2 h2⟩
  | stop _ => trivial
theorem keys_set {κ : Type} [DecidableEq κ] {P : Al κ} {k : κ} {v : Int} (h : k ∈ keys P) : keys (setL P k v) = keys P := set_keys_in h
theorem set_nodup {H : Hq} {a v : Int} (h : (keys H).Nodup) : (keys (setL H a v)).Nodup := by
  unfold keys
  rw [set_keys]
  split
  · exact h
  · rename_i z
    rw [List.nodup_append]
    exact ⟨h, by simp, fun x hx y hy => by rw [List.mem_singleton.mp hy]; exact fun e => z (e ▸ hx)⟩
theorem set_len {κ : Type} [DecidableEq κ] {P : Al κ} {k : κ} {v : Int} : (setL P k v).length ≤ P.length + 1 := by
  have := congrArg List.length (set_keys (P := P) (k := k) (v := v))
  rw [List.length_map] at this
  split at this
  · rw [List.length_map] at this; omega
  · rw [List.length_append, List.length_map] at this; simp only [List.length_cons, List.length_nil] at this; omega
theorem set_len_in {κ : Type} [DecidableEq κ] {P : Al κ} {k : κ} {v : Int} (h : k ∈ keys P) : (setL P k v).length = P.length := by
  have := congrArg List.length (set_keys_in (v := v) h)
  rw [List.length_map, List.length_map] at this
  exact this
theorem drp_nodup {H : Hq} {a : Int} (h : (keys H).Nodup) : (keys (drpL H a)).Nodup := h.sublist (List.Sublist.map _ List.filter_sublist)
theorem drp_len {H : Hq} {a : Int} : (drpL H a).length ≤ H.length := List.length_filter_le _ _
theorem setAll_keys : ∀ (l : List (Str × Int)) (P : Pl), (∀ p ∈ l, p.1 ∈ keys P) → keys (setAll P l) = keys P
  | [], _, _ => rfl
  | p :: r, P, h => by
    have e : keys (setL P p.1 p.2) = keys P := set_keys_in (h p List.mem_cons_self)
    unfold setAll
    rw [setAll_keys r _ fun q hq => by rw [e]; exact h q (List.mem_cons_of_mem _ hq), e]
theorem some_mem {κ : Type} [DecidableEq κ] {P : Al κ} {k : κ} (h : (look P k).isSome = true) : k ∈ keys P := look_mem.mp h
theorem while_bd {ks : List Str} {bd : Pl → Hq → Nat → Out} (hb : ∀ P H f, keys P = ks → (keys H).Nodup → Bd ks (H.length + f) f (bd P H f)) (t : Bool) (x y : Str) : ∀ (n : Nat) (P : Pl) (H : Hq) (f : Nat), keys P = ks → (keys H).Nodup → Bd ks (H.length + f) f (whileF bd t x y n P H f)
  | 0, _, _, _, _, _ => trivial
  | n + 1, P, H, f, h1, h2 => by
    unfold whileF
    split
    · have := hb P H f h1 h2
      split
      · rename_i P' H' f' e
        rw [e] at this
        obtain ⟨k1, k2, k3, k4⟩ := this
        split
        · trivial
        · exact (while_bd hb t x y n P' H' (f' - 1) k1 k2).mono (by omega) (by omega)
      · trivial
    · exact ⟨h1, h2, Nat.le_refl _, Nat.le_refl _⟩
mutual
theorem St.bd {cf : CallF} {sg : Sig} {ks : List Str} (hc : CfOk cf sg) : ∀ (s : St), s.vl sg ks → ∀ (P : Pl) (H : Hq) (f : Nat), keys P = ks → (keys H).Nodup → Bd ks (H.length + f + 1) f (s.ex cf P H f)
  | .copy x y, hv, P, H, f, h1, h2 => by
    unfold St.vl at hv
    unfold St.ex
    exact ⟨by rw [keys_set (by rw [h1]; exact hv.1), h1], h2, by omega, Nat.le_refl _⟩
  | .read x y, hv, P, H, f, h1, h2 => by
    unfold St.vl at hv
    unfold St.ex
    split
    · exact ⟨by rw [keys_set (by rw [h1]; exact hv.1), h1], h2, by omega, Nat.le_refl _⟩
    · trivial
  | .link x y, hv, P, H, f, h1, h2 => by
    unfold St.ex
    split
    · rename_i z
      exact ⟨h1, set_nodup h2, by rw [set_len_in (some_mem z)]; omega, Nat.le_refl _⟩
    · trivial
  | .new x, hv, P, H, f, h1, h2 => by
    unfold St.vl at hv
    unfold St.ex
    exact ⟨by rw [keys_set (by rw [h1]; exact hv), h1], set_nodup h2, by have := set_len (P := H) (k := fresh H) (v := 0); omega, Nat.le_refl _⟩
  | .free x, hv, P, H, f, h1, h2 => by
    unfold St.ex
    split
    · exact ⟨h1, drp_nodup h2, by have := drp_len (H := H) (a := val P x); omega, Nat.le_refl _⟩
    · trivial
  | .call n as, hv, P, H, f, h1, h2 => by
    unfold St.vl at hv
    unfold St.ex
    have := hc n (as.map (val P)) H f (by rw [List.length_map]; exact hv.1) h2
    split
    · rename_i vs H' f' e
      rw [e] at this
      obtain ⟨k1, k2, k3, k4⟩ := this
      refine ⟨?_, k2, by omega, k4⟩
      rw [setAll_keys _ _ fun p hp => by rw [h1]; exact hv.2 _ (List.of_mem_zip (show (p.1, p.2) ∈ as.zip vs from hp)).1, h1]
    · trivial
  | .wh t x y c, hv, P, H, f, h1, h2 => by
    unfold St.vl at hv
    unfold St.ex
    exact (while_bd (fun P H f q1 q2 => bdL hc c hv.2.2 P H f q1 q2) t x y (f + 1) P H f h1 h2).mono (by omega) (Nat.le_refl _)
  | .ite t x y c d, hv, P, H, f, h1, h2 => by
    unfold St.vl at hv
    unfold St.ex
    split
    · exact (bdL hc c hv.2.2.1 P H f h1 h2).mono (by omega) (Nat.le_refl _)
    · exact (bdL hc d hv.2.2.2 P H f h1 h2).mono (by omega) (Nat.le_refl _)
theorem bdL {cf : CallF} {sg : Sig} {ks : List Str} (hc : CfOk cf sg) : ∀ (b : List St), vlL sg ks b → ∀ (P : Pl) (H : Hq) (f : Nat), keys P = ks → (keys H).Nodup → Bd ks (H.length + f) f (exL cf b P H f)
  | [], hv, P, H, f, h1, h2 => by
    unfold exL
    exact ⟨h1, h2, Nat.le_refl _, Nat.le_refl _⟩
  | s :: r, hv, P, H, f, h1, h2 => by
    unfold vlL at hv
    unfold exL
    split
    · trivial
    · rename_i hf
      have := St.bd hc s hv.1 P H (f - 1) h1 h2
      split
      · rename_i P' H' f' e
        rw [e] at this
        obtain ⟨k1, k2, k3, k4⟩ := this
        exact (bdL hc r hv.2 P' H' f' k1 k2).mono (by omega) (by omega)
      · trivial
end
/-- a source, the last procedure first -/
def sgOf : List Pr → Sig
  | [], _ => none
  | p :: e, n => if p.nm = n then some p.ps.length else sgOf e n
def SrcOk : List Pr → Prop
  | [] => True
  | p :: e => vlL (sgOf e) (nil_ :: (p.ps ++ p.ls)) p.body ∧ (nil_ :: (p.ps ++ p.ls)).Nodup ∧ SrcOk e
theorem start_keys_aux : ∀ (l : List (Str × Int)) (P : Pl), (keys P ++ l.map (·.1)).Nodup → keys (setAll P l) = keys P ++ l.map (·.1)
  | [], P, _ => by simp [setAll]
  | p :: r, P, h => by
    have hp : p.1 ∉ keys P := fun z => (List.nodup_append.mp h).2.2 _ z _ (by simp) rfl
    have e : keys (setL P p.1 p.2) = keys P ++ [p.1] := by unfold keys; rw [set_keys, if_neg hp]
    unfold setAll
    rw [start_keys_aux r _ (by rw [e]; simpa using h), e]
    simp
theorem start_keys {p : Pr} {vs : List Int} (hl : vs.length = p.ps.length) (nd : (nil_ :: (p.ps ++ p.ls)).Nodup) : keys (start p vs) = nil_ :: (p.ps ++ p.ls) := by
  have e : ((p.ps.zip vs ++ p.ls.map fun x => (x, (0 : Int))).map (·.1)) = p.ps ++ p.ls := by
    rw [List.map_append, List.map_map, List.map_fst_zip (by omega)]
    congr 1
    exact List.map_id'' (fun _ => rfl) _
  unfold start
  rw [start_keys_aux _ _ (by rw [e]; simpa [keys] using nd), e]
  rfl
theorem cf_ok : ∀ {e : List Pr}, SrcOk e → CfOk (callOf e) (sgOf e)
  | [], _, n, vs, H, f, h, _ => by cases h
  | p :: e, hs, n, vs, H, f, h, hn => by
    obtain ⟨h1, h2, h3⟩ := hs
    unfold sgOf at h
    unfold callOf
    by_cases z : p.nm = n
    · rw [if_pos z] at h ⊢
      have hl := Option.some.inj h
      have := bdL (cf_ok h3) p.body h1 (start p vs) H f (start_keys hl.symm h2) hn
      unfold runP
      cases e2 : exL (callOf e) p.body (start p vs) H f with
      | ok I H' f' =>
        rw [e2] at this
        exact ⟨by rw [List.length_map, hl], this.2.1, this.2.2.1, this.2.2.2⟩
      | stop w => trivial
    · rw [if_neg z] at h ⊢
      exact cf_ok h3 n vs H f h hn
end K10

set_option maxHeartbeats 4000000
namespace K10
open PySem PySem.Spec PyProof.Rows L2 PL SX
variable {P : Program} {w : World} {K : PySem.W.Frag} {mg : Str → Option Value} {base : Heap} {C_Stop C_Run : Addr}
local macro_rules | `(tactic| simp! [$ls,*]) => `(tactic| simp only [s_fld, s_fldK, s_insAt, s_optD, s_obAt, s_fput, s_fputK1, s_fputK2, s_faug, s_faugK1, s_faugK2, s_faugK3, s_meth, s_methK1, s_methK2, s_make, s_makeK, s_makeK2, s_dead, s_tryN, noX_nx, noX_rt, noX_bk, noX_ct, mSplit, opMulS, s_enum, s_enumK, s_sortBy, s_sortByK, look_nil, look_cons, putFD_nil, putFD_cons, List.append_nil, to_nx, to_rt, to_bk, to_ct, to_ex, lp_nx, lp_rt, lp_bk, lp_ct, lp_ex, ret_nx, ret_rt, ret_ex, s_exK, s_bif1, s_bif0, s_optB, s_optE, s_nxD, s_ifK, s_asgN, s_asgT, s_asgL, b_nil, b_nm, b_tp, s_next, s_seq, s_drop, s_ret, s_retN, s_ifS, s_asg, s_brk, s_cont, s_put, s_put1, s_put2, s_put3, s_aug, s_augV, s_augK, s_augK2, s_bin, s_bin1, s_bin2, s_var, s_varK, s_C, s_cb, s_cbK, s_call, s_callK, s_m, s_m1, s_m2, s_nil, s_cons, s_cons1, s_cons2, s_tup, s_tupK, s_lst, s_lstK, s_truth, s_trK, s_tK, s_eK, s_cK, s_and, s_andK, s_or, s_orK, s_not, s_notK, s_ife, s_ifeK, s_andV, s_orV, s_andvK, s_orvK, s_andvK2, s_orvK2, s_notV, s_notvK, s_blK, s_neg, s_negK, s_sl, s_sl1, s_sl2, s_sl3, s_noPart, s_part, s_partK, s_rev, s_revK, s_for, s_forK, s_lc, s_lcK, s_yes, s_walk, s_walkT, s_walkS, s_walkA, s_walkL, s_walkR, s_rng1, s_rng2, s_rng1K, s_rng2K, s_callL, s_callLK, s_callLO, s_clK, s_raise, r_val, r_new, r_put, s_whK, s_lcY, s_lcT, s_lcE, s_cg, s_cgK, s_rng3, s_rng3K, s_lcB, s_lcS, wipeD, Pat.bind, seqOf, rg, s_dict0, s_sortSet, s_sortSetK, q_is_tuple, q_is_str, q_is_int, q_is_bool, q_is_list, q_isR, ofS_inj, String.reduceEq, q_eqI, q_neI, q_eqS, q_neS, decide_true, decide_false, Int.reduceEq, reduceCtorEq, i_NoneType_tuple, i_NoneType_str, i_NoneType_int, i_NoneType_bool, i_NoneType_list, i_bool_tuple, i_bool_str, i_bool_int, i_bool_bool, i_bool_list, i_int_tuple, i_int_str, i_int_int, i_int_bool, i_int_list, i_str_tuple, i_str_str, i_str_int, i_str_bool, i_str_list, i_tuple_tuple, i_tuple_str, i_tuple_int, i_tuple_bool, i_tuple_list, i_list_tuple, i_list_str, i_list_int, i_list_bool, i_list_list, i_dict_tuple, i_dict_str, i_dict_int, i_dict_bool, i_dict_list, tyN, startD, mupd_same, mupd_ne, ne_eq, not_false_eq_true, List.map_cons, List.map_nil, List.length_cons, List.length_nil, List.replicate_succ, List.replicate_zero, Nat.zero_add, Nat.reduceAdd, Nat.reduceSub, Int.cast_ofNat_Int, List.cons_append, List.nil_append, List.getElem?_cons_zero, List.getElem?_cons_succ, List.set_cons_zero, List.set_cons_succ, opIx, atI_cons, ixN, opPut, opAdd, opSub, opMul, opFdiv, opMod, opPow, opLt, opLe, opGt, opGe, opIs, opIsNot, D.isNon, truth, bLen, bAbs, bInt, bTuple, bList, isTy, mAppend, mExtend, mPop, Int.reduceLE, Int.reduceLT, Int.reduceToNat, Int.reduceNeg, Int.reduceNe, Option.bind_some, if_true, if_false, ite_true, ite_false, true_and, and_true, Bool.not_true, Bool.not_false, opIadd, Nat.reduceLT, Nat.reduceLeDiff, Int.ofNat_lt, s_lc2, s_lc2J, s_lc2B, s_lc2T, s_lc2E, s_raiseF, s_raiseFK, s_tryF, s_xf, s_xfK, s_xfAt, s_lenSet, s_lenSetK, opMulT, mInsert, s_zip, s_zipKL, s_zipKT, zipD, s_dpNil, s_dpCons, s_dpK1, s_dpK2, s_dpK3, s_disp, s_dispK, s_optKV, kvOf, s_dc, s_dcK, s_keys, s_lockK, s_sortIt, mGet, mDPop, dgetR, bDictC, bTupC, opEqD, opNeD, eqDR, D.key, merge_one, optKV, id, opEqL, opNeL, eqLR, $ls,*])
/-! the machine's small methods -/
abbrev RunAt (C : Addr) (M : Mem) (c : Addr) (src : List D) (hp : Addr) (f : Nat) : Prop := M c = some (.ins C [("source", .tup src), ("heap", .ob hp), ("fuel", .int (f : Int))])
abbrev HeapAt (M : Mem) (hp : Addr) (H : Hq) : Prop := M hp = some (.dk (H.map entD))
abbrev PlAt (M : Mem) (pl : Addr) (P : Pl) : Prop := M pl = some (.dk (P.map pD))
abbrev wFault : Str := Str.ofString "fault"
abbrev wCut : Str := Str.ofString "cut"
def word (w : Bool) : Str := if w then wFault else wCut
def sp_spend (C CS : Addr) : DSp := fun ds M Q E => ∃ (c hp : Addr) (src : List D) (f : Nat), ds = [.ob c] ∧ RunAt C M c src hp f ∧ f < 1000 ∧ (f = 0 → ∀ M', Keep [] M M' → E (.ref CS) [("word", .str wCut)] M') ∧ (f ≠ 0 → ∀ M', RunAt C M' c src hp (f - 1) → Keep [c] M M' → Q .non M')
theorem mono_spend {C CS : Addr} : MonoSp (sp_spend C CS) := by
  rintro ds M Q Q' E E' hQ hE ⟨c, hp, src, f, h1, h2, h3, h4, h5⟩
  exact ⟨c, hp, src, f, h1, h2, h3, fun z M' k => hE _ _ _ (h4 z M' k), fun z M' r k => hQ _ _ (h5 z M' r k)⟩
theorem fn_spend (S0 : MSrc K C_Run "spend" "Run.spend" s_Run_spend ["self"] []) (G : GF K mg C_Stop C_Run) (R_Stop : FClsG P w K mg base 1 "Stop" C_Stop "word") : MFn P w K mg base 3 C_Run "spend" (sp_spend C_Run C_Stop) [] := by
  refine S0.fn mono_spend fun g fd F => def_ok F sc_Run_spend (fun ds M Q E h => by obtain ⟨c, hp, src, f, rfl, _⟩ := h; rfl) ⟨_, fun cdv A outer s H E hr => have hu := hr.u200
    (xss_cons (xs_if (xt_cmp (x_eq hu) (xe_fld G.T_Run (xe_var 0)) xe_int (nomark _) bl_eq)
 (xss_one (xs_raiseG R_Stop rfl (hr.mono (by first | decide | omega)) bx_takes (by rfl) (xe_globE (by rfl) G.CUT)))
 xss_nil)
 (xss_one (xs_faug G.T_Run (xe_var 0) xe_int x_isub))), fun ds M Q E h => ?_⟩
  obtain ⟨c, hp, src, f, rfl, hc, few, h0, h1⟩ := h
  have sz : (16777216 : Nat) = sizeLine := sizeLine_eq.symm
  simp! [hc]
  refine bif_dec (fun z => ?_) fun z => ?_
  · simp! []
    exact ⟨_, rfl, by decide, h0 (by omega) M Keep.refl⟩
  · simp! [hc]
    have e : (f : Int) - 1 = ((f - 1 : Nat) : Int) := by omega
    rw [e]
    exact h1 (by omega) _ mupd_same (Keep.put (by simp))
def sp_cell (C CS : Addr) : DSp := fun ds M Q E => ∃ (c hp : Addr) (src : List D) (f : Nat) (H : Hq) (a : Int), ds = [.ob c, .int a] ∧ RunAt C M c src hp f ∧ HeapAt M hp H ∧ ((look H a).isSome = false → ∀ M', Keep [] M M' → E (.ref CS) [("word", .str wFault)] M') ∧ ((look H a).isSome = true → ∀ M', Keep [] M M' → Q .non M')
theorem mono_cell {C CS : Addr} : MonoSp (sp_cell C CS) := by
  rintro ds M Q Q' E E' hQ hE ⟨c, hp, src, f, H, a, h1, h2, h3, h4, h5⟩
  exact ⟨c, hp, src, f, H, a, h1, h2, h3, fun z M' k => hE _ _ _ (h4 z M' k), fun z M' k => hQ _ _ (h5 z M' k)⟩
theorem notin_heap {M : Mem} {hp : Addr} {H : Hq} {a : Int} {Q : DK} (h : HeapAt M hp H) : (opNotIn (.int a) (.ob hp) M).run M Q = Q (.bl (!(look H a).isSome)) M := by
  have e : look (H.map entD) (Sum.inl a : Key) = (look H a).map D.int := look_h H a
  simp [opNotIn, isIn, h, D.key, Res.run, mostDeep, e]
theorem in_heap {M : Mem} {hp : Addr} {H : Hq} {a : Int} {Q : DK} (h : HeapAt M hp H) : (opIn (.int a) (.ob hp) M).run M Q = Q (.bl (look H a).isSome) M := by
  have e : look (H.map entD) (Sum.inl a : Key) = (look H a).map D.int := look_h H a
  simp [opIn, isIn, h, D.key, Res.run, mostDeep, e]
theorem fn_cell (S0 : MSrc K C_Run "cell" "Run.cell" s_Run_cell ["self", "address"] []) (G : GF K mg C_Stop C_Run) (R_Stop : FClsG P w K mg base 1 "Stop" C_Stop "word") : MFn P w K mg base 3 C_Run "cell" (sp_cell C_Run C_Stop) [] := by
  refine S0.fn mono_cell fun g fd F => def_ok F sc_Run_cell (fun ds M Q E h => by obtain ⟨c, hp, src, f, H', a, rfl, _⟩ := h; rfl) ⟨_, fun cdv A outer s H E hr => have hu := hr.u200
    (xss_one (xs_if (xt_cmp (x_notin hu) (xe_var 1) (xe_fld G.T_Run (xe_var 0)) rfl bl_notin)
 (xss_one (xs_raiseG R_Stop rfl (hr.mono (by first | decide | omega)) bx_takes (by rfl) (xe_globE (by rfl) G.FAULT)))
 xss_nil)), fun ds M Q E h => ?_⟩
  obtain ⟨c, hp, src, f, H, a, rfl, hc, hh, h0, h1⟩ := h
  simp! [hc, notin_heap hh]
  refine bif_of (fun z => ?_) fun z => ?_
  · simp! []
    exact ⟨_, rfl, by decide, h0 (by simpa using z) M Keep.refl⟩
  · simp! []
    exact h1 (by simpa using z) M Keep.refl
def sp_new (C : Addr) : DSp := fun ds M Q E => ∃ (c hp : Addr) (src : List D) (f : Nat) (H : Hq), ds = [.ob c] ∧ RunAt C M c src hp f ∧ HeapAt M hp H ∧ c ≠ hp ∧ H.length < 1000 ∧ ∀ M', HeapAt M' hp (setL H (fresh H) 0) → Keep [hp] M M' → Q (.int (fresh H)) M'
theorem mono_new {C : Addr} : MonoSp (sp_new C) := by
  rintro ds M Q Q' E E' hQ hE ⟨c, hp, src, f, H, h1, h2, h3, h4, h5, h⟩
  exact ⟨c, hp, src, f, H, h1, h2, h3, h4, h5, fun M' z1 z2 => hQ _ _ (h M' z1 z2)⟩
theorem fn_new (S0 : MSrc K C_Run "new" "Run.new" s_Run_new ["self"] []) (G : GF K mg C_Stop C_Run) : MFn P w K mg base 1 C_Run "new" (sp_new C_Run) [] := by
  refine S0.fn mono_new fun g fd F => def_ok F sc_Run_new (fun ds M Q E h => by obtain ⟨c, hp, src, f, H', rfl, _⟩ := h; rfl) ⟨_, fun cdv A outer s H E hr => have hu := hr.u200
    (xss_cons (xs_set 1 sc_Run_new.nd xe_int)
 (xss_cons (xs_while bx_passes (xt_cmp (x_in hu) (xe_var 1) (xe_fld G.T_Run (xe_var 0)) rfl bl_in)
 (xss_one (xs_aug 1 sc_Run_new.nd x_iaddN xe_int)))
 (xss_cons (xs_put hu xe_int (xe_fld G.T_Run (xe_var 0)) (xe_var 1))
 (xss_one (xs_ret (xe_var 1)))))), fun ds M Q E h => ?_⟩
  obtain ⟨c, hp, src, f, H, rfl, hc, hh, ne, few, h⟩ := h
  have sz : (16777216 : Nat) = sizeLine := sizeLine_eq.symm
  have hh' : M hp = some (.dk (H.map entD)) := hh
  simp! []
  refine while_inv (fun n e M' => ∃ a : Int, n = above (keys H) a ∧ e = [some (.ob c), some (.int a)] ∧ M' = M ∧ 1 ≤ a ∧ ∀ b, 1 ≤ b → b < a → b ∈ keys H) ?_ ⟨1, rfl, rfl, rfl, by decide, fun b h1 h2 => by omega⟩
  rintro n e M' N ⟨a, rfl, rfl, rfl, h1, h3⟩ hN
  simp! [hc, in_heap hh]
  refine bif_of (fun z => ?_) fun z => ?_
  · simp! []
    have hm := look_mem.mp z
    exact hN _ _ _ (above_lt hm) ⟨a + 1, rfl, rfl, rfl, by omega, fun b hb1 hb2 => by
      by_cases e : b = a
      · rw [e]; exact hm
      · exact h3 b hb1 (by omega)⟩
  · have e : a = fresh H := fresh_one ⟨h1, (fun q => by rw [look_mem.mpr q] at z; cases z), h3⟩ (fresh_is H)
    simp! [hc, hh', D.key]
    refine ⟨by rw [List.length_map]; omega, ?_⟩
    rw [show putD (H.map entD) (Sum.inl a) (D.int 0) = (setL H a 0).map entD from put_h H a 0, e]
    exact h _ mupd_same (Keep.put (by simp))
def sp_is_true : DSp := fun ds M Q E => ∃ (c pl : Addr) (t : Bool) (x y : Str) (P : Pl), ds = [.ob c, tstD t x y, .ob pl] ∧ PlAt M pl P ∧ x ∈ keys P ∧ y ∈ keys P ∧ ∀ M', Keep [] M M' → Q (.bl (tst t x y P)) M'
theorem mono_is_true : MonoSp sp_is_true := by
  rintro ds M Q Q' E E' hQ hE ⟨c, pl, t, x, y, P, h1, h2, h3, h4, h⟩
  exact ⟨c, pl, t, x, y, P, h1, h2, h3, h4, fun M' z => hQ _ _ (h M' z)⟩
theorem look_val {P : Pl} {x : Str} (h : x ∈ keys P) : look (P.map pD) (Sum.inr x : Key) = some (.int (val P x)) := by
  rw [look_p]
  have := look_mem.mpr h
  unfold val
  cases e : look P x with
  | none => rw [e] at this; cases this
  | some v => rfl
theorem q_eqB {a b : Bool} {M : Mem} {Q : DK} : (opEq (.bl a) (.bl b) M).run M Q = Q (.bl (a == b)) M := by
  simp [opEq, pyM, D.pure, D.py, Res.run, PyData.depth, PyData.eqv, mostDeep]
theorem kind_same {t : Bool} : decide (kind t = kSame) = t := by cases t <;> decide +kernel
theorem fn_is_true (S0 : MSrc K C_Run "is_true" "Run.is_true" s_Run_is_true ["self", "test", "places"] []) (G : GF K mg C_Stop C_Run) : MFn P w K mg base 1 C_Run "is_true" sp_is_true [] := by
  refine S0.fn mono_is_true fun g fd F => def_ok F sc_Run_is_true (fun ds M Q E h => by obtain ⟨c, pl, t, x, y, P, rfl, _⟩ := h; rfl) ⟨_, fun cdv A outer s H E hr => have hu := hr.u200
    (xss_one (xs_ret (xe_cmp (x_eq hu) (xe_cmp (x_eq hu) (xe_ix hu (xe_var 2) (xe_ix hu (xe_var 1) xe_int)) (xe_ix hu (xe_var 2) (xe_ix hu (xe_var 1) xe_int)) (nomark _)) (xe_cmp (x_eq hu) (xe_ix hu (xe_var 1) xe_int) xe_str (nomark _)) (nomark _)))), fun ds M Q E h => ?_⟩
  obtain ⟨c, pl, t, x, y, P, rfl, hp, hx, hy, h⟩ := h
  have hp' : M pl = some (.dk (P.map pD)) := hp
  simp! [tstD, hp', D.key, look_val hx, look_val hy]
  rw [q_eqB, kind_same]
  exact h M Keep.refl
end K10

set_option maxHeartbeats 4000000
namespace K10
open PySem PySem.Spec PyProof.Rows L2 PL SX
variable {P : Program} {w : World} {K : PySem.W.Frag} {mg : Str → Option Value} {base : Heap} {C_Stop C_Run : Addr}
local macro_rules | `(tactic| simp! [$ls,*]) => `(tactic| simp only [s_fld, s_fldK, s_insAt, s_optD, s_obAt, s_fput, s_fputK1, s_fputK2, s_faug, s_faugK1, s_faugK2, s_faugK3, s_meth, s_methK1, s_methK2, s_make, s_makeK, s_makeK2, s_dead, s_tryN, noX_nx, noX_rt, noX_bk, noX_ct, mSplit, opMulS, s_enum, s_enumK, s_sortBy, s_sortByK, look_nil, look_cons, putFD_nil, putFD_cons, List.append_nil, to_nx, to_rt, to_bk, to_ct, to_ex, lp_nx, lp_rt, lp_bk, lp_ct, lp_ex, ret_nx, ret_rt, ret_ex, s_exK, s_bif1, s_bif0, s_optB, s_optE, s_nxD, s_ifK, s_asgN, s_asgT, s_asgL, b_nil, b_nm, b_tp, s_next, s_seq, s_drop, s_ret, s_retN, s_ifS, s_asg, s_brk, s_cont, s_put, s_put1, s_put2, s_put3, s_aug, s_augV, s_augK, s_augK2, s_bin, s_bin1, s_bin2, s_var, s_varK, s_C, s_cb, s_cbK, s_call, s_callK, s_m, s_m1, s_m2, s_nil, s_cons, s_cons1, s_cons2, s_tup, s_tupK, s_lst, s_lstK, s_truth, s_trK, s_tK, s_eK, s_cK, s_and, s_andK, s_or, s_orK, s_not, s_notK, s_ife, s_ifeK, s_andV, s_orV, s_andvK, s_orvK, s_andvK2, s_orvK2, s_notV, s_notvK, s_blK, s_neg, s_negK, s_sl, s_sl1, s_sl2, s_sl3, s_noPart, s_part, s_partK, s_rev, s_revK, s_for, s_forK, s_lc, s_lcK, s_yes, s_walk, s_walkT, s_walkS, s_walkA, s_walkL, s_walkR, s_rng1, s_rng2, s_rng1K, s_rng2K, s_callL, s_callLK, s_callLO, s_clK, s_raise, r_val, r_new, r_put, s_whK, s_lcY, s_lcT, s_lcE, s_cg, s_cgK, s_rng3, s_rng3K, s_lcB, s_lcS, wipeD, Pat.bind, seqOf, rg, s_dict0, s_sortSet, s_sortSetK, q_is_tuple, q_is_str, q_is_int, q_is_bool, q_is_list, q_isR, ofS_inj, String.reduceEq, q_eqI, q_neI, q_eqS, q_neS, decide_true, decide_false, Int.reduceEq, reduceCtorEq, i_NoneType_tuple, i_NoneType_str, i_NoneType_int, i_NoneType_bool, i_NoneType_list, i_bool_tuple, i_bool_str, i_bool_int, i_bool_bool, i_bool_list, i_int_tuple, i_int_str, i_int_int, i_int_bool, i_int_list, i_str_tuple, i_str_str, i_str_int, i_str_bool, i_str_list, i_tuple_tuple, i_tuple_str, i_tuple_int, i_tuple_bool, i_tuple_list, i_list_tuple, i_list_str, i_list_int, i_list_bool, i_list_list, i_dict_tuple, i_dict_str, i_dict_int, i_dict_bool, i_dict_list, tyN, startD, mupd_same, mupd_ne, ne_eq, not_false_eq_true, List.map_cons, List.map_nil, List.length_cons, List.length_nil, List.replicate_succ, List.replicate_zero, Nat.zero_add, Nat.reduceAdd, Nat.reduceSub, Int.cast_ofNat_Int, List.cons_append, List.nil_append, List.getElem?_cons_zero, List.getElem?_cons_succ, List.set_cons_zero, List.set_cons_succ, opIx, atI_cons, ixN, opPut, opAdd, opSub, opMul, opFdiv, opMod, opPow, opLt, opLe, opGt, opGe, opIs, opIsNot, D.isNon, truth, bLen, bAbs, bInt, bTuple, bList, isTy, mAppend, mExtend, mPop, Int.reduceLE, Int.reduceLT, Int.reduceToNat, Int.reduceNeg, Int.reduceNe, Option.bind_some, if_true, if_false, ite_true, ite_false, true_and, and_true, Bool.not_true, Bool.not_false, opIadd, Nat.reduceLT, Nat.reduceLeDiff, Int.ofNat_lt, s_lc2, s_lc2J, s_lc2B, s_lc2T, s_lc2E, s_raiseF, s_raiseFK, s_tryF, s_xf, s_xfK, s_xfAt, s_lenSet, s_lenSetK, opMulT, mInsert, s_zip, s_zipKL, s_zipKT, zipD, s_dpNil, s_dpCons, s_dpK1, s_dpK2, s_dpK3, s_disp, s_dispK, s_optKV, kvOf, s_dc, s_dcK, s_keys, s_lockK, s_sortIt, mGet, mDPop, dgetR, bDictC, bTupC, opEqD, opNeD, eqDR, D.key, merge_one, optKV, id, opEqL, opNeL, eqLR, $ls,*])
theorem pairs_ent : ∀ ms : Hq, pairsKV (ms.map pairI) = some (ms.map entD)
  | [] => rfl
  | p :: r => by
    rw [List.map_cons, pairsKV, pairs_ent r]
    rfl
theorem merge_nodup : ∀ (ms acc : Hq), (keys (acc ++ ms)).Nodup → mergeD (acc.map entD) (ms.map entD) = (acc ++ ms).map entD
  | [], acc, _ => by simp [mergeD]
  | p :: r, acc, h => by
    have hp : p.1 ∉ keys acc := fun z => by
      unfold keys at h
      rw [List.map_append] at h
      exact (List.nodup_append.mp h).2.2 _ z _ (by simp) rfl
    have e : putD (acc.map entD) (Sum.inl p.1 : Key) (D.int p.2) = (acc ++ [p]).map entD := by
      have := put_h acc p.1 p.2
      rw [this]
      unfold setL
      rw [if_neg]
      intro z
      obtain ⟨q, hq, e⟩ := List.any_eq_true.mp z
      exact hp (by rw [← of_decide_eq_true e]; exact List.mem_map_of_mem hq)
    have := merge_nodup r (acc ++ [p]) (by simpa using h)
    unfold mergeD at this ⊢
    rw [List.map_cons, List.foldl_cons]
    show List.foldl _ (putD (acc.map entD) (Sum.inl p.1) (D.int p.2)) _ = _
    rw [e, this]
    simp
def sp_rinit (C : Addr) : DSp := fun ds M Q E => ∃ (c ct : Addr) (src : List D) (ms : Hq) (f : Nat), ds = [.ob c, .tup src, .ob ct, .int (f : Int)] ∧ M c = some (.ins C []) ∧ M ct = some (.ctp (ms.map pairI)) ∧ (keys ms).Nodup ∧ c ≠ ct ∧ ∀ M' hp, M hp = none → RunAt C M' c src hp f → HeapAt M' hp ms → hp ≠ c → Keep [c] M M' → Q .non M'
theorem mono_rinit {C : Addr} : MonoSp (sp_rinit C) := by
  rintro ds M Q Q' E E' hQ hE ⟨c, ct, src, ms, f, h1, h2, h3, h4, h5, h⟩
  exact ⟨c, ct, src, ms, f, h1, h2, h3, h4, h5, fun M' hp z1 z2 z3 z4 z5 => hQ _ _ (h M' hp z1 z2 z3 z4 z5)⟩
theorem fn_rinit (S0 : KSrc K mg "Run" C_Run "Run.__init__" s_Run___init__ ["self", "source", "heap", "fuel"]) (G : GF K mg C_Stop C_Run) : KFn P w K mg base 1 "Run" C_Run (sp_rinit C_Run) := by
  refine S0.fn mono_rinit fun g fd F => def_ok F sc_Run___init__ (fun ds M Q E h => by obtain ⟨c, ct, src, ms, f, rfl, _⟩ := h; rfl) ⟨_, fun cdv A outer s H E hr => have hu := hr.u200
    (xss_cons (xs_fput G.T_Run (xe_var 1) (xe_var 0))
 (xss_cons (xs_fput G.T_Run (xe_callTy (c_dictC rfl) (by rfl) G.dict (by decide +kernel) (xa_cons (xe_var 2) xa_nil)) (xe_var 0))
 (xss_one (xs_fput G.T_Run (xe_var 3) (xe_var 0))))), fun ds M Q E h => ?_⟩
  obtain ⟨c, ct, src, ms, f, rfl, hc, ht, nd, ne, h⟩ := h
  have e2 := merge_nodup ms [] (by simpa using nd)
  rw [List.map_nil, List.nil_append] at e2
  simp! [hc, mupd_ne ne.symm, ht, pairs_ent, e2]
  intro hp hhp
  have ch : c ≠ hp := fun e => by rw [e, mupd_same] at hhp; cases hhp
  have hn : M hp = none := by rwa [mupd_ne ch.symm] at hhp
  simp! [mupd_ne ch]
  refine h _ hp hn mupd_same ?_ ch.symm ?_
  · rw [HeapAt, mupd_ne ch.symm, mupd_ne ch.symm, mupd_same]
  · intro b o hb hne
    have hb1 : b ≠ c := by simpa using hne
    have hb2 : b ≠ hp := ne_new hb hn
    rw [mupd_ne hb1, mupd_ne hb1, mupd_ne hb2, mupd_ne hb1]
    exact hb
def sp_named : DSp := fun ds M Q E => ∃ (ps : List Pr) (n : Str) (p : Pr), ds = [.tup (ps.map Pr.enc), .str n] ∧ ps.length < 1000 ∧ (ps.filter fun p => decide (p.nm = n)).head? = some p ∧ ∀ M', Keep [] M M' → Q p.enc M'
theorem mono_named : MonoSp sp_named := by
  rintro ds M Q Q' E E' hQ hE ⟨ps, n, p, h1, h2, h3, h⟩
  exact ⟨ps, n, p, h1, h2, h3, fun M' z => hQ _ _ (h M' z)⟩
theorem fn_named (S0 : Src K mg "proc_named" s_proc_named ["source", "name"]) (G : GF K mg C_Stop C_Run) : Fn P w K mg base 1 "proc_named" sp_named [] := by
  refine S0.fn mono_named fun g fd F => fn_ok F sc_proc_named (fun ds M Q E h => by obtain ⟨ps, n, p, rfl, _⟩ := h; rfl) ⟨_, fun cdv A outer s H E hr => have hu := hr.u200
    (xss_one (xs_ret (xe_ix hu (xe_lc (own := [("proc", 2)]) (p := .nm 2) rfl sc_proc_named.nd (xi_walk (xe_var 0)) (blkOk_by (by first | (show blkC ["source", "name", "proc"] (defScope s_proc_named) _ _ = true; decide +kernel) | kernel_rfl | rfl)) (fun _ _ _ _ _ => (xg_name 2 sc_proc_named.nd)) (fun _ _ _ _ _ => (xts_one (xt_cmp (x_eq hu) (xe_ix hu (xe_var 2) xe_int) (xe_var 1) (nomark _) bl_eq))) (fun _ _ _ _ _ => (xe_var 2))) xe_int))), fun ds M Q E h => ?_⟩
  obtain ⟨ps, n, p, rfl, few, hp, h⟩ := h
  have sz : (16777216 : Nat) = sizeLine := sizeLine_eq.symm
  simp! []
  intro l hl
  refine lc_pure Pr.enc Pr.enc (fun p => decide (p.nm = n)) ps hl (fun _ _ => trivial) (by omega) (fun p hp M2 N sk k2 hy hn => ?_) fun M2 k2 e2 => ?_
  · simp! [Pr.enc]
    refine bif_dec (fun z => ?_) fun z => ?_
    · simp! []
      exact hy (decide_eq_true z) _ Keep.refl
    · exact hn (decide_eq_false z) _ Keep.refl
  · cases e : ps.filter fun p => decide (p.nm = n) with
    | nil => rw [e] at hp; cases hp
    | cons q r =>
      rw [e] at hp e2
      cases hp
      have ix : atI ((p :: r).map Pr.enc) 0 = some p.enc := atI_zero
      generalize (p :: r).map Pr.enc = L at e2 ix
      simp! [e2, ix]
      exact h M2 k2
end K10

set_option maxHeartbeats 4000000
namespace K10
open PySem PySem.Spec PyProof.Rows L2 PL SX
variable {P : Program} {w : World} {K : PySem.W.Frag} {mg : Str → Option Value} {base : Heap} {C_Stop C_Run : Addr}
def thenO : Out → (Pl → Hq → Nat → Out) → Out
  | .ok P H f, k => k P H f
  | .stop w, _ => .stop w
theorem exL_nil {cf : CallF} {P : Pl} {H : Hq} {f : Nat} : exL cf [] P H f = .ok P H f := by rw [exL]
theorem exL_cons {cf : CallF} {s : St} {r : List St} {P : Pl} {H : Hq} {f : Nat} (h : f ≠ 0) : exL cf (s :: r) P H f = thenO (s.ex cf P H (f - 1)) (exL cf r) := by
  rw [exL, if_neg h]
  cases s.ex cf P H (f - 1) <;> rfl
theorem exL_cut {cf : CallF} {s : St} {r : List St} {P : Pl} {H : Hq} {f : Nat} (h : f = 0) : exL cf (s :: r) P H f = .stop false := by
  rw [exL, if_pos h]
theorem while_no {bd : Pl → Hq → Nat → Out} {t : Bool} {x y : Str} {n : Nat} {P : Pl} {H : Hq} {f : Nat} (h : tst t x y P = false) : whileF bd t x y (n + 1) P H f = .ok P H f := by
  rw [whileF, if_neg (by rw [h]; exact Bool.false_ne_true)]
theorem while_yes {bd : Pl → Hq → Nat → Out} {t : Bool} {x y : Str} {n : Nat} {P : Pl} {H : Hq} {f : Nat} (h : tst t x y P = true) : whileF bd t x y (n + 1) P H f = thenO (bd P H f) fun P' H' f' => if f' = 0 then .stop false else whileF bd t x y n P' H' (f' - 1) := by
  rw [whileF, if_pos h]
  cases bd P H f <;> rfl
/-! ranks: how deep calls and blocks go -/
mutual
def St.rk (cr : Str → Nat) : St → Nat
  | .copy _ _ => 0
  | .read _ _ => 0
  | .link _ _ => 0
  | .new _ => 0
  | .free _ => 0
  | .call n _ => cr n + 1
  | .wh _ _ _ c => rkL cr c + 1
  | .ite _ _ _ c d => max (rkL cr c) (rkL cr d) + 1
def rkL (cr : Str → Nat) : List St → Nat
  | [] => 0
  | s :: r => max (s.rk cr) (rkL cr r)
end
def rkOf : List Pr → Str → Nat
  | [], _ => 0
  | p :: e, n => if p.nm = n then rkL (rkOf e) p.body + 1 else rkOf e n
/-- what can be called: e is what stands ahead in the source, the last one first -/
structure Env (src e : List Pr) : Prop where
  sub : ∃ later, src.reverse = later ++ e
  nd : (src.map Pr.nm).Nodup
  ok : SrcOk e
  few : src.length < 1000
  ps : ∀ p ∈ src, p.ps.length < 100 ∧ p.ls.length < 100
theorem Env.tail {src e : List Pr} {p : Pr} (h : Env src (p :: e)) : Env src e := by
  obtain ⟨⟨l, hl⟩, h2, h3, h4, h5⟩ := h
  exact ⟨⟨l ++ [p], by rw [hl]; simp⟩, h2, h3.2.2, h4, h5⟩
theorem Env.mem {src e : List Pr} (h : Env src e) {p : Pr} (hp : p ∈ e) : p ∈ src := by
  obtain ⟨l, hl⟩ := h.sub
  have : p ∈ src.reverse := by rw [hl]; exact List.mem_append_right _ hp
  exact List.mem_reverse.mp this
theorem filter_one : ∀ {src : List Pr} {p : Pr}, (src.map Pr.nm).Nodup → p ∈ src → (src.filter fun q => decide (q.nm = p.nm)).head? = some p
  | [], _, _, h => by cases h
  | q :: r, p, nd, h => by
    obtain ⟨n1, n2⟩ := List.nodup_cons.mp nd
    by_cases e : q.nm = p.nm
    · rw [List.filter_cons_of_pos (by simpa using e)]
      rcases List.mem_cons.mp h with z | z
      · rw [z]; rfl
      · exact absurd (by rw [e]; exact List.mem_map_of_mem z) n1
    · rw [List.filter_cons_of_neg (by simpa using e)]
      rcases List.mem_cons.mp h with z | z
      · exact absurd (by rw [z]) e
      · exact filter_one n2 z
theorem find_e : ∀ {src e : List Pr} {n : Str} {k : Nat}, Env src e → sgOf e n = some k → ∃ p e', Env src (p :: e') ∧ p.nm = n ∧ p.ps.length = k ∧ (∀ vs H f, callOf e n vs H f = outC p (runP (callOf e') p vs H f)) ∧ rkOf e n = rkL (rkOf e') p.body + 1
  | _, [], _, _, _, h => by cases h
  | src, p :: e, n, k, hE, h => by
    unfold sgOf at h
    by_cases z : p.nm = n
    · rw [if_pos z] at h
      refine ⟨p, e, hE, z, Option.some.inj h, fun vs H f => ?_, ?_⟩
      · rw [callOf, if_pos z]
      · rw [rkOf, if_pos z]
    · rw [if_neg z] at h
      obtain ⟨q, e', h1, h2, h3, h4, h5⟩ := find_e hE.tail h
      refine ⟨q, e', h1, h2, h3, fun vs H f => ?_, ?_⟩
      · rw [callOf, if_neg z, h4]
      · rw [rkOf, if_neg z, h5]
/-! where the machine stands -/
structure Cur (C : Addr) (M : Mem) (c hp pl : Addr) (src : List D) (P : Pl) (H : Hq) (f : Nat) : Prop where
  run : RunAt C M c src hp f
  heap : HeapAt M hp H
  pla : PlAt M pl P
  ch : c ≠ hp
  cp : c ≠ pl
  hp : hp ≠ pl
  nd : (keys H).Nodup
  few : H.length + f < 900
  pf : P.length < 900
theorem Cur.keep {C : Addr} {M M' : Mem} {c hp pl : Addr} {src : List D} {P : Pl} {H : Hq} {f : Nat} (h : Cur C M c hp pl src P H f) (k : Keep [] M M') : Cur C M' c hp pl src P H f := ⟨k _ _ h.run (by simp), k _ _ h.heap (by simp), k _ _ h.pla (by simp), h.ch, h.cp, h.hp, h.nd, h.few, h.pf⟩
def After (C CS c hp pl : Addr) (src : List D) (M : Mem) (Q : Mem → Prop) (E : DX) : Out → Prop
  | .ok P' H' f' => ∀ M', RunAt C M' c src hp f' → HeapAt M' hp H' → PlAt M' pl P' → Keep [c, hp, pl] M M' → Q M'
  | .stop w => ∀ M', Keep [c, hp, pl] M M' → E (.ref CS) [("word", .str (word w))] M'
theorem After.mono {C CS c hp pl : Addr} {src : List D} {M : Mem} {Q Q' : Mem → Prop} {E E' : DX} (hQ : ∀ M, Q M → Q' M) (hE : ∀ c f M, E c f M → E' c f M) {o : Out} (h : After C CS c hp pl src M Q E o) : After C CS c hp pl src M Q' E' o := by
  cases o with
  | ok P' H' f' => exact fun M' z1 z2 z3 z4 => hQ _ (h M' z1 z2 z3 z4)
  | stop w => exact fun M' z => hE _ _ _ (h M' z)
end K10

set_option maxHeartbeats 4000000
namespace K10
open PySem PySem.Spec PyProof.Rows L2 PL SX
variable {P : Program} {w : World} {K : PySem.W.Frag} {mg : Str → Option Value} {base : Heap} {C_Stop C_Run : Addr}
local macro_rules | `(tactic| simp! [$ls,*]) => `(tactic| simp only [s_fld, s_fldK, s_insAt, s_optD, s_obAt, s_fput, s_fputK1, s_fputK2, s_faug, s_faugK1, s_faugK2, s_faugK3, s_meth, s_methK1, s_methK2, s_make, s_makeK, s_makeK2, s_dead, s_tryN, noX_nx, noX_rt, noX_bk, noX_ct, mSplit, opMulS, s_enum, s_enumK, s_sortBy, s_sortByK, look_nil, look_cons, putFD_nil, putFD_cons, List.append_nil, to_nx, to_rt, to_bk, to_ct, to_ex, lp_nx, lp_rt, lp_bk, lp_ct, lp_ex, ret_nx, ret_rt, ret_ex, s_exK, s_bif1, s_bif0, s_optB, s_optE, s_nxD, s_ifK, s_asgN, s_asgT, s_asgL, b_nil, b_nm, b_tp, s_next, s_seq, s_drop, s_ret, s_retN, s_ifS, s_asg, s_brk, s_cont, s_put, s_put1, s_put2, s_put3, s_aug, s_augV, s_augK, s_augK2, s_bin, s_bin1, s_bin2, s_var, s_varK, s_C, s_cb, s_cbK, s_call, s_callK, s_m, s_m1, s_m2, s_nil, s_cons, s_cons1, s_cons2, s_tup, s_tupK, s_lst, s_lstK, s_truth, s_trK, s_tK, s_eK, s_cK, s_and, s_andK, s_or, s_orK, s_not, s_notK, s_ife, s_ifeK, s_andV, s_orV, s_andvK, s_orvK, s_andvK2, s_orvK2, s_notV, s_notvK, s_blK, s_neg, s_negK, s_sl, s_sl1, s_sl2, s_sl3, s_noPart, s_part, s_partK, s_rev, s_revK, s_for, s_forK, s_lc, s_lcK, s_yes, s_walk, s_walkT, s_walkS, s_walkA, s_walkL, s_walkR, s_rng1, s_rng2, s_rng1K, s_rng2K, s_callL, s_callLK, s_callLO, s_clK, s_raise, r_val, r_new, r_put, s_whK, s_lcY, s_lcT, s_lcE, s_cg, s_cgK, s_rng3, s_rng3K, s_lcB, s_lcS, wipeD, Pat.bind, seqOf, rg, s_dict0, s_sortSet, s_sortSetK, q_is_tuple, q_is_str, q_is_int, q_is_bool, q_is_list, q_isR, ofS_inj, String.reduceEq, q_eqI, q_neI, q_eqS, q_neS, decide_true, decide_false, Int.reduceEq, reduceCtorEq, i_NoneType_tuple, i_NoneType_str, i_NoneType_int, i_NoneType_bool, i_NoneType_list, i_bool_tuple, i_bool_str, i_bool_int, i_bool_bool, i_bool_list, i_int_tuple, i_int_str, i_int_int, i_int_bool, i_int_list, i_str_tuple, i_str_str, i_str_int, i_str_bool, i_str_list, i_tuple_tuple, i_tuple_str, i_tuple_int, i_tuple_bool, i_tuple_list, i_list_tuple, i_list_str, i_list_int, i_list_bool, i_list_list, i_dict_tuple, i_dict_str, i_dict_int, i_dict_bool, i_dict_list, tyN, startD, mupd_same, mupd_ne, ne_eq, not_false_eq_true, List.map_cons, List.map_nil, List.length_cons, List.length_nil, List.replicate_succ, List.replicate_zero, Nat.zero_add, Nat.reduceAdd, Nat.reduceSub, Int.cast_ofNat_Int, List.cons_append, List.nil_append, List.getElem?_cons_zero, List.getElem?_cons_succ, List.set_cons_zero, List.set_cons_succ, opIx, atI_cons, ixN, opPut, opAdd, opSub, opMul, opFdiv, opMod, opPow, opLt, opLe, opGt, opGe, opIs, opIsNot, D.isNon, truth, bLen, bAbs, bInt, bTuple, bList, isTy, mAppend, mExtend, mPop, Int.reduceLE, Int.reduceLT, Int.reduceToNat, Int.reduceNeg, Int.reduceNe, Option.bind_some, if_true, if_false, ite_true, ite_false, true_and, and_true, Bool.not_true, Bool.not_false, opIadd, Nat.reduceLT, Nat.reduceLeDiff, Int.ofNat_lt, s_lc2, s_lc2J, s_lc2B, s_lc2T, s_lc2E, s_raiseF, s_raiseFK, s_tryF, s_xf, s_xfK, s_xfAt, s_lenSet, s_lenSetK, opMulT, mInsert, s_zip, s_zipKL, s_zipKT, zipD, s_dpNil, s_dpCons, s_dpK1, s_dpK2, s_dpK3, s_disp, s_dispK, s_optKV, kvOf, s_dc, s_dcK, s_keys, s_lockK, s_sortIt, mGet, mDPop, dgetR, bDictC, bTupC, opEqD, opNeD, eqDR, D.key, merge_one, optKV, id, opEqL, opNeL, eqLR, $ls,*])
/-! the machine: run, call, simple -/
def sp_body (n : Nat) (C CS : Addr) : DSp := fun ds M Q E => ∃ (c hp pl : Addr) (src e : List Pr) (b : List St) (P : Pl) (H : Hq) (f : Nat), ds = [.ob c, .tup (encL b), .ob pl] ∧ Cur C M c hp pl (src.map Pr.enc) P H f ∧ Env src e ∧ vlL (sgOf e) (keys P) b ∧ rkL (rkOf e) b < n ∧ After C CS c hp pl (src.map Pr.enc) M (fun M' => Q .non M') E (exL (callOf e) b P H f)
theorem mono_body {n : Nat} {C CS : Addr} : MonoSp (sp_body n C CS) := by
  rintro ds M Q Q' E E' hQ hE ⟨c, hp, pl, src, e, b, P, H, f, h1, h2, h3, h4, h5, h⟩
  exact ⟨c, hp, pl, src, e, b, P, H, f, h1, h2, h3, h4, h5, h.mono (fun M' => hQ _ _) hE⟩
def St.plain : St → Prop
  | .wh _ _ _ _ => False
  | .ite _ _ _ _ _ => False
  | _ => True
def sp_simple (n : Nat) (C CS : Addr) : DSp := fun ds M Q E => ∃ (c hp pl : Addr) (src e : List Pr) (s : St) (P : Pl) (H : Hq) (f : Nat), ds = [.ob c, s.enc, .ob pl] ∧ Cur C M c hp pl (src.map Pr.enc) P H f ∧ Env src e ∧ s.vl (sgOf e) (keys P) ∧ s.rk (rkOf e) < n ∧ s.plain ∧ After C CS c hp pl (src.map Pr.enc) M (fun M' => Q .non M') E (s.ex (callOf e) P H f)
theorem mono_simple {n : Nat} {C CS : Addr} : MonoSp (sp_simple n C CS) := by
  rintro ds M Q Q' E E' hQ hE ⟨c, hp, pl, src, e, b, P, H, f, h1, h2, h3, h4, h5, h6, h⟩
  exact ⟨c, hp, pl, src, e, b, P, H, f, h1, h2, h3, h4, h5, h6, h.mono (fun M' => hQ _ _) hE⟩
def AfterR (C CS c hp : Addr) (src : List D) (M : Mem) (Q : Addr → Mem → Prop) (E : DX) : Out → Prop
  | .ok I H' f' => ∀ M' inner, M inner = none → RunAt C M' c src hp f' → HeapAt M' hp H' → PlAt M' inner I → Keep [c, hp] M M' → Q inner M'
  | .stop w => ∀ M', Keep [c, hp] M M' → E (.ref CS) [("word", .str (word w))] M'
theorem AfterR.mono {C CS c hp : Addr} {src : List D} {M : Mem} {Q Q' : Addr → Mem → Prop} {E E' : DX} (hQ : ∀ i M, Q i M → Q' i M) (hE : ∀ c f M, E c f M → E' c f M) {o : Out} (h : AfterR C CS c hp src M Q E o) : AfterR C CS c hp src M Q' E' o := by
  cases o with
  | ok P' H' f' => exact fun M' i z0 z1 z2 z3 z4 => hQ _ _ (h M' i z0 z1 z2 z3 z4)
  | stop w => exact fun M' z => hE _ _ _ (h M' z)
def sp_run (n : Nat) (C CS : Addr) : DSp := fun ds M Q E => ∃ (c hp va : Addr) (src e : List Pr) (p : Pr) (vs : List Int) (H : Hq) (f : Nat), ds = [.ob c, p.enc, .ob va] ∧ RunAt C M c (src.map Pr.enc) hp f ∧ HeapAt M hp H ∧ M va = some (.lst (vs.map D.int)) ∧ c ≠ hp ∧ vs.length = p.ps.length ∧ (keys H).Nodup ∧ H.length + f < 900 ∧ Env src (p :: e) ∧ rkL (rkOf e) p.body + 1 < n ∧
  AfterR C CS c hp (src.map Pr.enc) M (fun i M' => Q (.ob i) M') E (runP (callOf e) p vs H f)
theorem mono_run {n : Nat} {C CS : Addr} : MonoSp (sp_run n C CS) := by
  rintro ds M Q Q' E E' hQ hE ⟨c, hp, va, src, e, p, vs, H, f, h1, h2, h3, h4, h5, h6, h7, h8, h9, h10, h⟩
  exact ⟨c, hp, va, src, e, p, vs, H, f, h1, h2, h3, h4, h5, h6, h7, h8, h9, h10, h.mono (fun i M' => hQ _ _) hE⟩
theorem setAll_app : ∀ (l m : List (Str × Int)) (P : Pl), setAll P (l ++ m) = setAll (setAll P l) m
  | [], _, _ => rfl
  | p :: r, m, P => by rw [List.cons_append, setAll, setAll_app r m, setAll]
theorem set_le {P : Pl} {k : Str} {v : Int} {n : Nat} (h : P.length ≤ n) : (setL P k v).length ≤ n + 1 := by
  have := set_len (P := P) (k := k) (v := v)
  omega
abbrev zD (p : Str × Int) : D := .tup [.str p.1, .int p.2]
theorem zipD_map : ∀ (xs : List Str) (vs : List Int), zipD (xs.map D.str) (vs.map D.int) = (xs.zip vs).map zD
  | [], _ => by simp [zipD]
  | _ :: _, [] => by simp [zipD]
  | x :: xs, v :: vs => by simp [zipD, zipD_map xs vs]
theorem fn_run {n : Nat} (S0 : MSrc K C_Run "run" "Run.run" s_Run_run ["self", "proc", "addresses"] []) (G : GF K mg C_Stop C_Run) (M_Run_body : MFn P w K mg base (4 * n + 7) C_Run "body" (sp_body n C_Run C_Stop) []) : MFn P w K mg base (4 * n + 8) C_Run "run" (sp_run (n + 1) C_Run C_Stop) [] := by
  refine S0.fn mono_run fun g fd F => def_ok F sc_Run_run (fun ds M Q E h => by obtain ⟨c, hp, va, src, e, p, vs, H', f, rfl, _⟩ := h; rfl) ⟨_, fun cdv A outer s H E hr => have hu := hr.u200
    (xss_cons (xs_set 3 sc_Run_run.nd (xe_disp (xps_cons (xe_globE (by rfl) G.NIL) xe_int xps_nil)))
 (xss_cons (xs_for (p := .tp [.nm 4, .nm 5]) bx_passes rfl (xi_zip (by rfl) G.zip (xa_cons (xe_ix hu (xe_var 1) xe_int) (xa_cons (xe_var 2) xa_nil))) (xg_tup rfl (xgs_cons (xg_name 4 sc_Run_run.nd) (xgs_cons (xg_name 5 sc_Run_run.nd) xgs_nil)))
 (xss_one (xs_put hu (xe_var 5) (xe_var 3) (xe_var 4))))
 (xss_cons (xs_for (p := .nm 4) bx_passes rfl (xi_walk (xe_ix hu (xe_var 1) xe_int)) (xg_name 4 sc_Run_run.nd)
 (xss_one (xs_put hu xe_int (xe_var 3) (xe_var 4))))
 (xss_cons (xs_expr (xe_meth M_Run_body G.T_Run (hr.mono (by first | decide | omega)) bx_takes (xe_var 0) (xa_cons (xe_ix hu (xe_var 1) xe_int) (xa_cons (xe_var 3) xa_nil))))
 (xss_one (xs_ret (xe_var 3))))))), fun ds M Q E h => ?_⟩
  obtain ⟨c, hp, va, src, e, p, vs, H, f, rfl, hc, hh, hv, ch, vl, nd, few, hE, hr, h⟩ := h
  have sz : (16777216 : Nat) = sizeLine := sizeLine_eq.symm
  have hpm := hE.mem (p := p) List.mem_cons_self
  obtain ⟨pl1, pl2⟩ := hE.ps p hpm
  simp! [Pr.enc]
  intro pl hpl
  have vpl : va ≠ pl := ne_new hv hpl
  have cpl : c ≠ pl := ne_new hc hpl
  have hpp : hp ≠ pl := ne_new hh hpl
  have e0 : mupd (mupd M pl (.dk [])) pl (.dk [(Sum.inr (Str.ofString "nil"), D.int 0)]) = mupd M pl (.dk (List.map pD [(nil_, 0)])) := mupd_mupd
  rw [e0]
  have k0 : Keep [] M (mupd M pl (.dk (List.map pD [(nil_, 0)]))) := Keep.new hpl
  have p0 : (mupd M pl (.dk (List.map pD [(nil_, 0)]))) pl = some (.dk (List.map pD [(nil_, 0)])) := mupd_same
  generalize mupd M pl (.dk (List.map pD [(nil_, 0)])) = M0 at k0 p0 ⊢
  refine ⟨vs.map D.int, k0 _ _ hv (by simp), by rw [List.length_map, List.length_map]; exact vl.symm, ?_⟩
  rw [zipD_map]
  have pe : (⟨p.nm, p.ps, p.ls, p.need, p.ens, p.body⟩ : Pr) = p := rfl
  refine loop_inv zD (fun r env M' => ∃ done P d4 d5, p.ps.zip vs = done ++ r ∧ env = [some (.ob c), some p.enc, some (.ob va), some (.ob pl), d4, d5] ∧ M' pl = some (.dk (P.map pD)) ∧ P = setAll [(nil_, 0)] done ∧ P.length ≤ done.length + 1 ∧ Keep [] M M') (fun _ _ _ ⟨_, _, _, _, _, _, _, _, _, k⟩ => k _ _ hv (by simp)) ?_ ?_ (p.ps.zip vs) _ _ ⟨[], [(nil_, 0)], none, none, rfl, rfl, p0, rfl, by simp, k0⟩
  · rintro ⟨x, v⟩ r env M1 N ⟨done, P, d4, d5, e1, rfl, h1, e2, ll, k1⟩ hN
    have l1 := congrArg List.length e1
    rw [List.length_zip, List.length_append, List.length_cons] at l1
    simp! [h1, D.key]
    refine ⟨by rw [List.length_map]; omega, ?_⟩
    rw [put_p]
    refine hN _ _ ⟨done ++ [(x, v)], setL P x v, _, _, by rw [e1]; simp, rfl, mupd_same, by rw [setAll_app, ← e2]; rfl, ?_, ?_⟩
    · rw [List.length_append]; exact set_le ll
    · exact fun b o hb hne => by rw [mupd_ne (ne_new hb hpl)]; exact k1 _ _ hb hne
  rintro env M1 ⟨done, P, d4, d5, e1, rfl, h1, e2, ll, k1⟩
  rw [List.append_nil] at e1
  subst e1
  have lz : (p.ps.zip vs).length ≤ p.ps.length := by rw [List.length_zip]; omega
  simp! [Pr.enc]
  refine loop_inv D.str (fun r env M' => ∃ done P d4 d5, p.ls = done ++ r ∧ env = [some (.ob c), some p.enc, some (.ob va), some (.ob pl), d4, d5] ∧ M' pl = some (.dk (P.map pD)) ∧ P = setAll [(nil_, 0)] (p.ps.zip vs ++ done.map fun x => (x, 0)) ∧ P.length ≤ done.length + 1 + p.ps.length ∧ Keep [] M M') (fun _ _ _ _ => trivial) ?_ ?_ p.ls _ _ ⟨[], P, d4, d5, rfl, rfl, h1, by simpa using e2, by simp; omega, k1⟩
  · rintro x r env M2 N ⟨done, P, d4, d5, e3, rfl, h2, e4, ll2, k2⟩ hN
    have l1 := congrArg List.length e3
    rw [List.length_append, List.length_cons] at l1
    simp! [h2, D.key]
    refine ⟨by rw [List.length_map]; omega, ?_⟩
    rw [put_p]
    refine hN _ _ ⟨done ++ [x], setL P x 0, _, _, by rw [e3]; simp, rfl, mupd_same, ?_, ?_, ?_⟩
    · rw [List.map_append, ← List.append_assoc, setAll_app, ← e4]; rfl
    · rw [List.length_append]; have := set_le (k := x) (v := 0) ll2; simp only [List.length_cons, List.length_nil]; omega
    · exact fun b o hb hne => by rw [mupd_ne (ne_new hb hpl)]; exact k2 _ _ hb hne
  rintro env M2 ⟨done, P, d4, d5, e3, rfl, h2, e4, ll2, k2⟩
  rw [List.append_nil] at e3
  subst e3
  have eS : P = start p vs := e4
  have kS := start_keys vl hE.ok.2.1
  simp! [Pr.enc, k2 _ _ hc (by simp)]
  refine ⟨c, hp, pl, src, e, p.body, P, H, f, rfl, ⟨k2 _ _ hc (by simp), k2 _ _ hh (by simp), h2, ch, cpl, hpp, nd, few, by omega⟩, hE.tail, by rw [eS, kS]; exact hE.ok.1, by omega, ?_⟩
  rw [eS]
  have h' : AfterR C_Run C_Stop c hp (src.map Pr.enc) M (fun i M' => Q (.ob i) M') E (exL (callOf e) p.body (start p vs) H f) := h
  cases hx : exL (callOf e) p.body (start p vs) H f with
  | ok I H' f' =>
    rw [hx] at h'
    intro M3 r3 h3 p3 k3
    simp! []
    refine h' M3 pl hpl r3 h3 p3 fun b o hb hne => k3 _ _ (k2 _ _ hb (by simp)) ?_
    have := ne_new hb hpl
    simp at hne ⊢
    exact ⟨hne.1, hne.2, this⟩
  | stop w =>
    rw [hx] at h'
    intro M3 k3
    refine h' M3 fun b o hb hne => k3 _ _ (k2 _ _ hb (by simp)) ?_
    have := ne_new hb hpl
    simp at hne ⊢
    exact ⟨hne.1, hne.2, this⟩
end K10

set_option maxHeartbeats 4000000
namespace K10
open PySem PySem.Spec PyProof.Rows L2 PL SX
variable {P : Program} {w : World} {K : PySem.W.Frag} {mg : Str → Option Value} {base : Heap} {C_Stop C_Run : Addr}
local macro_rules | `(tactic| simp! [$ls,*]) => `(tactic| simp only [s_fld, s_fldK, s_insAt, s_optD, s_obAt, s_fput, s_fputK1, s_fputK2, s_faug, s_faugK1, s_faugK2, s_faugK3, s_meth, s_methK1, s_methK2, s_make, s_makeK, s_makeK2, s_dead, s_tryN, noX_nx, noX_rt, noX_bk, noX_ct, mSplit, opMulS, s_enum, s_enumK, s_sortBy, s_sortByK, look_nil, look_cons, putFD_nil, putFD_cons, List.append_nil, to_nx, to_rt, to_bk, to_ct, to_ex, lp_nx, lp_rt, lp_bk, lp_ct, lp_ex, ret_nx, ret_rt, ret_ex, s_exK, s_bif1, s_bif0, s_optB, s_optE, s_nxD, s_ifK, s_asgN, s_asgT, s_asgL, b_nil, b_nm, b_tp, s_next, s_seq, s_drop, s_ret, s_retN, s_ifS, s_asg, s_brk, s_cont, s_put, s_put1, s_put2, s_put3, s_aug, s_augV, s_augK, s_augK2, s_bin, s_bin1, s_bin2, s_var, s_varK, s_C, s_cb, s_cbK, s_call, s_callK, s_m, s_m1, s_m2, s_nil, s_cons, s_cons1, s_cons2, s_tup, s_tupK, s_lst, s_lstK, s_truth, s_trK, s_tK, s_eK, s_cK, s_and, s_andK, s_or, s_orK, s_not, s_notK, s_ife, s_ifeK, s_andV, s_orV, s_andvK, s_orvK, s_andvK2, s_orvK2, s_notV, s_notvK, s_blK, s_neg, s_negK, s_sl, s_sl1, s_sl2, s_sl3, s_noPart, s_part, s_partK, s_rev, s_revK, s_for, s_forK, s_lc, s_lcK, s_yes, s_walk, s_walkT, s_walkS, s_walkA, s_walkL, s_walkR, s_rng1, s_rng2, s_rng1K, s_rng2K, s_callL, s_callLK, s_callLO, s_clK, s_raise, r_val, r_new, r_put, s_whK, s_lcY, s_lcT, s_lcE, s_cg, s_cgK, s_rng3, s_rng3K, s_lcB, s_lcS, wipeD, Pat.bind, seqOf, rg, s_dict0, s_sortSet, s_sortSetK, q_is_tuple, q_is_str, q_is_int, q_is_bool, q_is_list, q_isR, ofS_inj, String.reduceEq, q_eqI, q_neI, q_eqS, q_neS, decide_true, decide_false, Int.reduceEq, reduceCtorEq, i_NoneType_tuple, i_NoneType_str, i_NoneType_int, i_NoneType_bool, i_NoneType_list, i_bool_tuple, i_bool_str, i_bool_int, i_bool_bool, i_bool_list, i_int_tuple, i_int_str, i_int_int, i_int_bool, i_int_list, i_str_tuple, i_str_str, i_str_int, i_str_bool, i_str_list, i_tuple_tuple, i_tuple_str, i_tuple_int, i_tuple_bool, i_tuple_list, i_list_tuple, i_list_str, i_list_int, i_list_bool, i_list_list, i_dict_tuple, i_dict_str, i_dict_int, i_dict_bool, i_dict_list, tyN, startD, mupd_same, mupd_ne, ne_eq, not_false_eq_true, List.map_cons, List.map_nil, List.length_cons, List.length_nil, List.replicate_succ, List.replicate_zero, Nat.zero_add, Nat.reduceAdd, Nat.reduceSub, Int.cast_ofNat_Int, List.cons_append, List.nil_append, List.getElem?_cons_zero, List.getElem?_cons_succ, List.set_cons_zero, List.set_cons_succ, opIx, atI_cons, ixN, opPut, opAdd, opSub, opMul, opFdiv, opMod, opPow, opLt, opLe, opGt, opGe, opIs, opIsNot, D.isNon, truth, bLen, bAbs, bInt, bTuple, bList, isTy, mAppend, mExtend, mPop, Int.reduceLE, Int.reduceLT, Int.reduceToNat, Int.reduceNeg, Int.reduceNe, Option.bind_some, if_true, if_false, ite_true, ite_false, true_and, and_true, Bool.not_true, Bool.not_false, opIadd, Nat.reduceLT, Nat.reduceLeDiff, Int.ofNat_lt, s_lc2, s_lc2J, s_lc2B, s_lc2T, s_lc2E, s_raiseF, s_raiseFK, s_tryF, s_xf, s_xfK, s_xfAt, s_lenSet, s_lenSetK, opMulT, mInsert, s_zip, s_zipKL, s_zipKT, zipD, s_dpNil, s_dpCons, s_dpK1, s_dpK2, s_dpK3, s_disp, s_dispK, s_optKV, kvOf, s_dc, s_dcK, s_keys, s_lockK, s_sortIt, mGet, mDPop, dgetR, bDictC, bTupC, opEqD, opNeD, eqDR, D.key, merge_one, optKV, id, opEqL, opNeL, eqLR, $ls,*])
def backO (P : Pl) (as : List Str) : OutC → Out
  | .ok vs H f => .ok (setAll P (as.zip vs)) H f
  | .stop w => .stop w
def sp_call (n : Nat) (C CS : Addr) : DSp := fun ds M Q E => ∃ (c hp pl : Addr) (src e : List Pr) (p : Pr) (as : List Str) (P : Pl) (H : Hq) (f : Nat), ds = [.ob c, p.enc, .tup (as.map D.str), .ob pl] ∧ Cur C M c hp pl (src.map Pr.enc) P H f ∧ Env src (p :: e) ∧ as.length = p.ps.length ∧ (∀ a ∈ as, a ∈ keys P) ∧ rkL (rkOf e) p.body + 1 < n ∧
  After C CS c hp pl (src.map Pr.enc) M (fun M' => Q .non M') E (backO P as (outC p (runP (callOf e) p (as.map (val P)) H f)))
theorem mono_call {n : Nat} {C CS : Addr} : MonoSp (sp_call n C CS) := by
  rintro ds M Q Q' E E' hQ hE ⟨c, hp, pl, src, e, p, as, P, H, f, h1, h2, h3, h4, h5, h6, h⟩
  exact ⟨c, hp, pl, src, e, p, as, P, H, f, h1, h2, h3, h4, h5, h6, h.mono (fun M' => hQ _ _) hE⟩
abbrev zS (p : Str × Str) : D := .tup [.str p.1, .str p.2]
theorem zipS_map : ∀ (xs ys : List Str), zipD (xs.map D.str) (ys.map D.str) = (xs.zip ys).map zS
  | [], _ => by simp [zipD]
  | _ :: _, [] => by simp [zipD]
  | x :: xs, v :: vs => by simp [zipD, zipS_map xs vs]
theorem fn_call {n : Nat} (S0 : MSrc K C_Run "call" "Run.call" s_Run_call ["self", "proc", "args", "places"] []) (G : GF K mg C_Stop C_Run) (M_Run_run : MFn P w K mg base (4 * n + 8) C_Run "run" (sp_run (n + 1) C_Run C_Stop) []) : MFn P w K mg base (4 * n + 9) C_Run "call" (sp_call (n + 1) C_Run C_Stop) [] := by
  refine S0.fn mono_call fun g fd F => def_ok F sc_Run_call (fun ds M Q E h => by obtain ⟨c, hp, pl, src, e, p, as, P, H', f, rfl, _⟩ := h; rfl) ⟨_, fun cdv A outer s H E hr => have hu := hr.u200
    (xss_cons (xs_set 4 sc_Run_call.nd (xe_meth M_Run_run G.T_Run (hr.mono (by first | decide | omega)) bx_takes (xe_var 0) (xa_cons (xe_var 1) (xa_cons (xe_lc (own := [("name", 5)]) (p := .nm 5) rfl sc_Run_call.nd (xi_walk (xe_var 2)) (blkOk_by (by first | (show blkC ["self", "proc", "args", "places", "inner", "name", "parameter"] (defScope s_Run_call) _ _ = true; decide +kernel) | kernel_rfl | rfl)) (fun _ _ _ _ _ => (xg_name 5 sc_Run_call.nd)) (fun _ _ _ _ _ => xts_nil) (fun _ _ _ _ _ => (xe_ix hu (xe_var 3) (xe_var 5)))) xa_nil))))
 (xss_one (xs_for (p := .tp [.nm 5, .nm 6]) bx_passes rfl (xi_zip (by rfl) G.zip (xa_cons (xe_var 2) (xa_cons (xe_ix hu (xe_var 1) xe_int) xa_nil))) (xg_tup rfl (xgs_cons (xg_name 5 sc_Run_call.nd) (xgs_cons (xg_name 6 sc_Run_call.nd) xgs_nil)))
 (xss_one (xs_put hu (xe_ix hu (xe_var 4) (xe_var 6)) (xe_var 3) (xe_var 5)))))), fun ds M Q E h => ?_⟩
  obtain ⟨c, hp, pl, src, e, p, as, P, H, f, rfl, cu, hE, al, ak, hr, h⟩ := h
  have sz : (16777216 : Nat) = sizeLine := sizeLine_eq.symm
  have hpm := hE.mem (p := p) List.mem_cons_self
  obtain ⟨pl1, pl2⟩ := hE.ps p hpm
  have hpl : M pl = some (.dk (P.map pD)) := cu.pla
  have hc := cu.run
  simp! [hc]
  intro l1 hl1
  refine lc_pure D.str (fun a => D.int (val P a)) (fun _ => true) as hl1 (fun _ _ => trivial) (by omega) (fun a ha M2 N sk k2 hy _ => ?_) fun M2 k2 e2 => ?_
  · simp! [k2 _ _ hpl (by simp), D.key, look_val (ak a ha)]
    exact hy rfl _ Keep.refl
  rw [filter_tt] at e2
  have e2 : M2 l1 = some (.lst ((as.map (val P)).map D.int)) := by rw [e2, List.map_map]; rfl
  have c2 := cu.keep k2
  have fin : ∀ (I : Pl) (H' : Hq) (f' : Nat), runP (callOf e) p (as.map (val P)) H f = .ok I H' f' → keys I = nil_ :: (p.ps ++ p.ls) := fun I H' f' hx => by
    have := bdL (cf_ok hE.ok.2.2) p.body hE.ok.1 (start p (as.map (val P))) H f (start_keys (by rw [List.length_map]; exact al) hE.ok.2.1) cu.nd
    unfold runP at hx
    rw [hx] at this
    exact this.1
  simp! [c2.run]
  refine ⟨c, hp, l1, src, e, p, as.map (val P), H, f, rfl, c2.run, c2.heap, e2, c2.ch, by rw [List.length_map]; exact al, c2.nd, c2.few, hE, hr, ?_⟩
  cases hx : runP (callOf e) p (as.map (val P)) H f with
  | stop w =>
    rw [hx] at h
    intro M3 k3
    exact h M3 ((k2.weaken (by simp)).trans (k3.weaken (by intro x; simp; rintro (h | h) <;> simp [h])))
  | ok I H' f' =>
    rw [hx] at h
    intro M3 inner fi r3 h3 p3 k3
    have ik := fin I H' f' hx
    have p3' : M3 inner = some (.dk (I.map pD)) := p3
    have pl3 : M3 pl = some (.dk (P.map pD)) := k3 _ _ (k2 _ _ hpl (by simp)) (by simp [cu.cp.symm, cu.hp.symm])
    have ipl : inner ≠ pl := fun e => by rw [e, k2 _ _ hpl (by simp)] at fi; cases fi
    have fi0 : M inner = none := k2.fresh fi
    simp! [Pr.enc, List.length_map]
    refine ⟨al, ?_⟩
    rw [zipS_map]
    refine loop_inv zS (fun r env M' => ∃ done P' d4 d5 d6, as.zip p.ps = done ++ r ∧ env = [some (.ob c), some p.enc, some (.tup (as.map D.str)), some (.ob pl), d4, d5, d6] ∧ M' pl = some (.dk (P'.map pD)) ∧ P' = setAll P (done.map fun q => (q.1, val I q.2)) ∧ keys P' = keys P ∧ Keep [pl] M3 M' ∧ d4 = some (.ob inner)) (fun _ _ _ _ => trivial) ?_ ?_ (as.zip p.ps) _ _ ⟨[], P, _, none, none, rfl, rfl, pl3, rfl, rfl, Keep.refl, rfl⟩
    · rintro ⟨x, y⟩ r env M4 N ⟨done, P', d4, d5, d6, e1, rfl, h4, e4, kk, k4, rfl⟩ hN
      have i4 : M4 inner = some (.dk (I.map pD)) := k4 _ _ p3' (by simpa using ipl)
      have xy : (x, y) ∈ as.zip p.ps := by rw [e1]; simp
      have hy := (List.of_mem_zip xy).2
      have hx := ak x (List.of_mem_zip xy).1
      have lp : P'.length = P.length := by have := congrArg List.length kk; rw [List.length_map, List.length_map] at this; exact this
      simp! [i4, h4, D.key, look_val (P := I) (x := y) (by rw [ik]; simp [hy])]
      refine ⟨by rw [List.length_map]; have := cu.pf; omega, ?_⟩
      rw [put_p]
      exact hN _ _ ⟨done ++ [(x, y)], setL P' x (val I y), _, _, _, by rw [e1]; simp, rfl, mupd_same, by rw [List.map_append, setAll_app, ← e4]; rfl, by rw [keys_set (by rw [kk]; exact hx), kk], k4.trans (Keep.put (by simp)), rfl⟩
    · rintro env M4 ⟨done, P', d4, d5, d6, e1, rfl, h4, e4, kk, k4, rfl⟩
      rw [List.append_nil] at e1
      subst e1
      have ez : (as.zip p.ps).map (fun q => (q.1, val I q.2)) = as.zip (p.ps.map (val I)) := by
        rw [List.zip_map_right]; rfl
      rw [ez] at e4
      simp! []
      refine h M4 (k4 _ _ r3 (by simp [cu.cp])) (k4 _ _ h3 (by simp [cu.hp])) (by rw [e4] at h4; exact h4) ?_
      refine ((k2.weaken (by simp)).trans (k3.weaken ?_)).trans (k4.weaken ?_)
      · intro x; simp; rintro (h | h) <;> simp [h]
      · intro x; simp; rintro rfl; simp
end K10

set_option maxHeartbeats 4000000
namespace K10
open PySem PySem.Spec PyProof.Rows L2 PL SX
variable {P : Program} {w : World} {K : PySem.W.Frag} {mg : Str → Option Value} {base : Heap} {C_Stop C_Run : Addr}
local macro_rules | `(tactic| simp! [$ls,*]) => `(tactic| simp only [s_fld, s_fldK, s_insAt, s_optD, s_obAt, s_fput, s_fputK1, s_fputK2, s_faug, s_faugK1, s_faugK2, s_faugK3, s_meth, s_methK1, s_methK2, s_make, s_makeK, s_makeK2, s_dead, s_tryN, noX_nx, noX_rt, noX_bk, noX_ct, mSplit, opMulS, s_enum, s_enumK, s_sortBy, s_sortByK, look_nil, look_cons, putFD_nil, putFD_cons, List.append_nil, to_nx, to_rt, to_bk, to_ct, to_ex, lp_nx, lp_rt, lp_bk, lp_ct, lp_ex, ret_nx, ret_rt, ret_ex, s_exK, s_bif1, s_bif0, s_optB, s_optE, s_nxD, s_ifK, s_asgN, s_asgT, s_asgL, b_nil, b_nm, b_tp, s_next, s_seq, s_drop, s_ret, s_retN, s_ifS, s_asg, s_brk, s_cont, s_put, s_put1, s_put2, s_put3, s_aug, s_augV, s_augK, s_augK2, s_bin, s_bin1, s_bin2, s_var, s_varK, s_C, s_cb, s_cbK, s_call, s_callK, s_m, s_m1, s_m2, s_nil, s_cons, s_cons1, s_cons2, s_tup, s_tupK, s_lst, s_lstK, s_truth, s_trK, s_tK, s_eK, s_cK, s_and, s_andK, s_or, s_orK, s_not, s_notK, s_ife, s_ifeK, s_andV, s_orV, s_andvK, s_orvK, s_andvK2, s_orvK2, s_notV, s_notvK, s_blK, s_neg, s_negK, s_sl, s_sl1, s_sl2, s_sl3, s_noPart, s_part, s_partK, s_rev, s_revK, s_for, s_forK, s_lc, s_lcK, s_yes, s_walk, s_walkT, s_walkS, s_walkA, s_walkL, s_walkR, s_rng1, s_rng2, s_rng1K, s_rng2K, s_callL, s_callLK, s_callLO, s_clK, s_raise, r_val, r_new, r_put, s_whK, s_lcY, s_lcT, s_lcE, s_cg, s_cgK, s_rng3, s_rng3K, s_lcB, s_lcS, wipeD, Pat.bind, seqOf, rg, s_dict0, s_sortSet, s_sortSetK, q_is_tuple, q_is_str, q_is_int, q_is_bool, q_is_list, q_isR, ofS_inj, String.reduceEq, q_eqI, q_neI, q_eqS, q_neS, decide_true, decide_false, Int.reduceEq, reduceCtorEq, i_NoneType_tuple, i_NoneType_str, i_NoneType_int, i_NoneType_bool, i_NoneType_list, i_bool_tuple, i_bool_str, i_bool_int, i_bool_bool, i_bool_list, i_int_tuple, i_int_str, i_int_int, i_int_bool, i_int_list, i_str_tuple, i_str_str, i_str_int, i_str_bool, i_str_list, i_tuple_tuple, i_tuple_str, i_tuple_int, i_tuple_bool, i_tuple_list, i_list_tuple, i_list_str, i_list_int, i_list_bool, i_list_list, i_dict_tuple, i_dict_str, i_dict_int, i_dict_bool, i_dict_list, tyN, startD, mupd_same, mupd_ne, ne_eq, not_false_eq_true, List.map_cons, List.map_nil, List.length_cons, List.length_nil, List.replicate_succ, List.replicate_zero, Nat.zero_add, Nat.reduceAdd, Nat.reduceSub, Int.cast_ofNat_Int, List.cons_append, List.nil_append, List.getElem?_cons_zero, List.getElem?_cons_succ, List.set_cons_zero, List.set_cons_succ, opIx, atI_cons, ixN, opPut, opAdd, opSub, opMul, opFdiv, opMod, opPow, opLt, opLe, opGt, opGe, opIs, opIsNot, D.isNon, truth, bLen, bAbs, bInt, bTuple, bList, isTy, mAppend, mExtend, mPop, Int.reduceLE, Int.reduceLT, Int.reduceToNat, Int.reduceNeg, Int.reduceNe, Option.bind_some, if_true, if_false, ite_true, ite_false, true_and, and_true, Bool.not_true, Bool.not_false, opIadd, Nat.reduceLT, Nat.reduceLeDiff, Int.ofNat_lt, s_lc2, s_lc2J, s_lc2B, s_lc2T, s_lc2E, s_raiseF, s_raiseFK, s_tryF, s_xf, s_xfK, s_xfAt, s_lenSet, s_lenSetK, opMulT, mInsert, s_zip, s_zipKL, s_zipKT, zipD, s_dpNil, s_dpCons, s_dpK1, s_dpK2, s_dpK3, s_disp, s_dispK, s_optKV, kvOf, s_dc, s_dcK, s_keys, s_lockK, s_sortIt, mGet, mDPop, dgetR, bDictC, bTupC, opEqD, opNeD, eqDR, D.key, merge_one, optKV, id, opEqL, opNeL, eqLR, $ls,*])
theorem val_in {P : Pl} {x : Str} (h : x ∈ keys P) : look (P.map pD) (Sum.inr x : Key) = some (.int (val P x)) := look_val h
theorem set_mem {P : Pl} {x : Str} {v : Int} (h : x ∈ keys P) : (setL P x v).length = P.length := set_len_in h
theorem fn_simple {n : Nat} (S0 : MSrc K C_Run "simple" "Run.simple" s_Run_simple ["self", "statement", "places"] []) (G : GF K mg C_Stop C_Run) (M_Run_cell : MFn P w K mg base 3 C_Run "cell" (sp_cell C_Run C_Stop) []) (M_Run_new : MFn P w K mg base 1 C_Run "new" (sp_new C_Run) []) (F_proc_named : Fn P w K mg base 1 "proc_named" sp_named []) (M_Run_call : MFn P w K mg base (4 * n + 9) C_Run "call" (sp_call (n + 1) C_Run C_Stop) []) :
    MFn P w K mg base (4 * n + 10) C_Run "simple" (sp_simple (n + 1) C_Run C_Stop) [] := by
  refine S0.fn mono_simple fun g fd F => def_ok F sc_Run_simple (fun ds M Q E h => by obtain ⟨c, hp, pl, src, e, s, P, H', f, rfl, _⟩ := h; rfl) ⟨_, fun cdv A outer s H E hr => have hu := hr.u200
    (xss_cons (xs_set 3 sc_Run_simple.nd (xe_ix hu (xe_var 1) xe_int))
 (xss_one (xs_if (xt_cmp (x_eq hu) (xe_var 3) xe_str (nomark _) bl_eq)
 (xss_one (xs_put hu (xe_ix hu (xe_var 2) (xe_ix hu (xe_var 1) xe_int)) (xe_var 2) (xe_ix hu (xe_var 1) xe_int)))
 (xss_one (xs_if (xt_cmp (x_eq hu) (xe_var 3) xe_str (nomark _) bl_eq)
 (xss_cons (xs_expr (xe_meth M_Run_cell G.T_Run (hr.mono (by first | decide | omega)) bx_takes (xe_var 0) (xa_cons (xe_ix hu (xe_var 2) (xe_ix hu (xe_var 1) xe_int)) xa_nil)))
 (xss_one (xs_put hu (xe_ix hu (xe_fld G.T_Run (xe_var 0)) (xe_ix hu (xe_var 2) (xe_ix hu (xe_var 1) xe_int))) (xe_var 2) (xe_ix hu (xe_var 1) xe_int))))
 (xss_one (xs_if (xt_cmp (x_eq hu) (xe_var 3) xe_str (nomark _) bl_eq)
 (xss_cons (xs_expr (xe_meth M_Run_cell G.T_Run (hr.mono (by first | decide | omega)) bx_takes (xe_var 0) (xa_cons (xe_ix hu (xe_var 2) (xe_ix hu (xe_var 1) xe_int)) xa_nil)))
 (xss_one (xs_put hu (xe_ix hu (xe_var 2) (xe_ix hu (xe_var 1) xe_int)) (xe_fld G.T_Run (xe_var 0)) (xe_ix hu (xe_var 2) (xe_ix hu (xe_var 1) xe_int)))))
 (xss_one (xs_if (xt_cmp (x_eq hu) (xe_var 3) xe_str (nomark _) bl_eq)
 (xss_one (xs_put hu (xe_meth0 M_Run_new G.T_Run (hr.mono (by first | decide | omega)) bx_takes (xe_var 0)) (xe_var 2) (xe_ix hu (xe_var 1) xe_int)))
 (xss_one (xs_if (xt_cmp (x_eq hu) (xe_var 3) xe_str (nomark _) bl_eq)
 (xss_cons (xs_expr (xe_meth M_Run_cell G.T_Run (hr.mono (by first | decide | omega)) bx_takes (xe_var 0) (xa_cons (xe_ix hu (xe_var 2) (xe_ix hu (xe_var 1) xe_int)) xa_nil)))
 (xss_one (xs_expr (xe_bm PySem.F.plainAttrs_dict PySem.F.slot_dict_pop PySem.F.type_dict_pop m_dpop (xe_fld G.T_Run (xe_var 0)) (xa_cons (xe_ix hu (xe_var 2) (xe_ix hu (xe_var 1) xe_int)) xa_nil)))))
 (xss_one (xs_expr (xe_meth M_Run_call G.T_Run (hr.mono (by first | decide | omega)) bx_takes (xe_var 0) (xa_cons (xe_call F_proc_named (hr.mono (by first | decide | omega)) bx_takes (by rfl) (xa_cons (xe_fld G.T_Run (xe_var 0)) (xa_cons (xe_ix hu (xe_var 1) xe_int) xa_nil))) (xa_cons (xe_ix hu (xe_var 1) xe_int) (xa_cons (xe_var 2) xa_nil))))))))))))))))), fun ds M Q E h => ?_⟩
  obtain ⟨c, hp, pl, src, e, s, P, H, f, rfl, cu, hE, hv, hr, hs, h⟩ := h
  have sz : (16777216 : Nat) = sizeLine := sizeLine_eq.symm
  have hpl : M pl = some (.dk (P.map pD)) := cu.pla
  have hh : M hp = some (.dk (H.map entD)) := cu.heap
  have hc := cu.run
  have pf := cu.pf
  cases s with
  | copy x y =>
    unfold St.vl at hv
    simp! [St.enc, hpl, D.key, val_in hv.2]
    refine ⟨by rw [List.length_map]; omega, ?_⟩
    rw [put_p]
    have cp := cu.cp
    have hpp := cu.hp
    exact h _ (by rw [RunAt, mupd_ne cp]; exact hc) (by rw [HeapAt, mupd_ne hpp]; exact hh) mupd_same (Keep.put (by simp))
  | read x y =>
    unfold St.vl at hv
    unfold St.ex at h
    simp! [St.enc, hpl, D.key, val_in hv.2, hc]
    refine ⟨c, hp, _, f, H, _, rfl, hc, cu.heap, fun z M' k => ?_, fun z M' k => ?_⟩
    · cases e : look H (val P y) with
      | some v => rw [e] at z; cases z
      | none =>
        rw [e] at h
        exact h M' (k.weaken (by simp))
    · cases e : look H (val P y) with
      | none => rw [e] at z; cases z
      | some v =>
        rw [e] at h
        have cu' := cu.keep k
        have hpl' : M' pl = some (.dk (P.map pD)) := cu'.pla
        have hh' : M' hp = some (.dk (H.map entD)) := cu'.heap
        have el : look (H.map entD) (Sum.inl (val P y) : Key) = some (.int v) := by rw [look_h, e]; rfl
        simp! [hpl', D.key, val_in hv.2, cu'.run, hh', el]
        refine ⟨by rw [List.length_map]; omega, ?_⟩
        rw [put_p]
        exact h _ (by rw [RunAt, mupd_ne cu.cp]; exact cu'.run) (by rw [HeapAt, mupd_ne cu.hp]; exact hh') mupd_same ((k.weaken (by simp)).trans (Keep.put (by simp)))
  | link x y =>
    unfold St.vl at hv
    unfold St.ex at h
    simp! [St.enc, hpl, D.key, val_in hv.1, hc]
    refine ⟨c, hp, _, f, H, _, rfl, hc, cu.heap, fun z M' k => ?_, fun z M' k => ?_⟩
    · rw [if_neg (by rw [z]; exact Bool.false_ne_true)] at h
      exact h M' (k.weaken (by simp))
    · rw [if_pos z] at h
      have cu' := cu.keep k
      have hpl' : M' pl = some (.dk (P.map pD)) := cu'.pla
      have hh' : M' hp = some (.dk (H.map entD)) := cu'.heap
      simp! [hpl', D.key, val_in hv.1, val_in hv.2, cu'.run, hh']
      refine ⟨by rw [List.length_map]; have := cu.few; omega, ?_⟩
      rw [put_h]
      exact h _ (by rw [RunAt, mupd_ne cu.ch]; exact cu'.run) mupd_same (by rw [PlAt, mupd_ne cu.hp.symm]; exact hpl') ((k.weaken (by simp)).trans (Keep.put (by simp)))
  | new x =>
    unfold St.vl at hv
    unfold St.ex at h
    simp! [St.enc, hc]
    refine ⟨c, hp, _, f, H, rfl, hc, cu.heap, cu.ch, by have := cu.few; omega, fun M' h1 k => ?_⟩
    have hpl' : M' pl = some (.dk (P.map pD)) := k _ _ hpl (by simpa using cu.hp.symm)
    simp! [hpl', D.key]
    refine ⟨by rw [List.length_map]; omega, ?_⟩
    rw [put_p]
    exact h _ (by rw [RunAt, mupd_ne cu.cp]; exact k _ _ hc (by simpa using cu.ch)) (by rw [HeapAt, mupd_ne cu.hp]; exact h1) mupd_same ((k.weaken (by intro z; simp; rintro rfl; simp)).trans (Keep.put (by simp)))
  | free x =>
    unfold St.vl at hv
    unfold St.ex at h
    simp! [St.enc, hpl, D.key, val_in hv, hc]
    refine ⟨c, hp, _, f, H, _, rfl, hc, cu.heap, fun z M' k => ?_, fun z M' k => ?_⟩
    · rw [if_neg (by rw [z]; exact Bool.false_ne_true)] at h
      exact h M' (k.weaken (by simp))
    · rw [if_pos z] at h
      have cu' := cu.keep k
      have hpl' : M' pl = some (.dk (P.map pD)) := cu'.pla
      have hh' : M' hp = some (.dk (H.map entD)) := cu'.heap
      obtain ⟨v, e⟩ := Option.isSome_iff_exists.mp z
      have el : look (H.map entD) (Sum.inl (val P x) : Key) = some (.int v) := by rw [look_h, e]; rfl
      simp! [hpl', D.key, val_in hv, cu'.run, hh', mDPop, el]
      rw [drop_h]
      exact h _ (by rw [RunAt, mupd_ne cu.ch]; exact cu'.run) mupd_same (by rw [PlAt, mupd_ne cu.hp.symm]; exact hpl') ((k.weaken (by simp)).trans (Keep.put (by simp)))
  | call nm as =>
    unfold St.vl at hv
    unfold St.ex at h
    obtain ⟨p, e', hE', pn, pl', hcf, hrk⟩ := find_e hE hv.1
    rw [hcf] at h
    have hpm := hE'.mem (p := p) List.mem_cons_self
    simp! [St.enc, hc]
    refine ⟨src, nm, p, rfl, hE.few, by rw [← pn]; exact filter_one hE.nd hpm, fun M' k => ?_⟩
    have cu' := cu.keep k
    simp! [cu'.run]
    refine ⟨c, hp, pl, src, e', p, as, P, H, f, rfl, cu', hE', pl'.symm, hv.2, ?_, ?_⟩
    · unfold St.rk at hr
      omega
    · have h2 : After C_Run C_Stop c hp pl (src.map Pr.enc) M (fun M' => Q .non M') E (backO P as (outC p (runP (callOf e') p (as.map (val P)) H f))) := by
        cases hx : outC p (runP (callOf e') p (as.map (val P)) H f) with
        | ok vs H' f' => rw [hx] at h; exact h
        | stop w => rw [hx] at h; exact h
      cases hx : backO P as (outC p (runP (callOf e') p (as.map (val P)) H f)) with
      | ok P' H' f' => rw [hx] at h2; exact fun M3 z1 z2 z3 z4 => by simp! []; exact h2 M3 z1 z2 z3 ((k.weaken (by simp)).trans z4)
      | stop w => rw [hx] at h2; exact fun M3 z => h2 M3 ((k.weaken (by simp)).trans z)
  | wh t x y b => exact (show False from hs).elim
  | ite t x y b d => exact (show False from hs).elim
end K10

set_option maxHeartbeats 4000000
namespace K10
open PySem PySem.Spec PyProof.Rows L2 PL SX
variable {P : Program} {w : World} {K : PySem.W.Frag} {mg : Str → Option Value} {base : Heap} {C_Stop C_Run : Addr}
local macro_rules | `(tactic| simp! [$ls,*]) => `(tactic| simp only [s_fld, s_fldK, s_insAt, s_optD, s_obAt, s_fput, s_fputK1, s_fputK2, s_faug, s_faugK1, s_faugK2, s_faugK3, s_meth, s_methK1, s_methK2, s_make, s_makeK, s_makeK2, s_dead, s_tryN, noX_nx, noX_rt, noX_bk, noX_ct, mSplit, opMulS, s_enum, s_enumK, s_sortBy, s_sortByK, look_nil, look_cons, putFD_nil, putFD_cons, List.append_nil, to_nx, to_rt, to_bk, to_ct, to_ex, lp_nx, lp_rt, lp_bk, lp_ct, lp_ex, ret_nx, ret_rt, ret_ex, s_exK, s_bif1, s_bif0, s_optB, s_optE, s_nxD, s_ifK, s_asgN, s_asgT, s_asgL, b_nil, b_nm, b_tp, s_next, s_seq, s_drop, s_ret, s_retN, s_ifS, s_asg, s_brk, s_cont, s_put, s_put1, s_put2, s_put3, s_aug, s_augV, s_augK, s_augK2, s_bin, s_bin1, s_bin2, s_var, s_varK, s_C, s_cb, s_cbK, s_call, s_callK, s_m, s_m1, s_m2, s_nil, s_cons, s_cons1, s_cons2, s_tup, s_tupK, s_lst, s_lstK, s_truth, s_trK, s_tK, s_eK, s_cK, s_and, s_andK, s_or, s_orK, s_not, s_notK, s_ife, s_ifeK, s_andV, s_orV, s_andvK, s_orvK, s_andvK2, s_orvK2, s_notV, s_notvK, s_blK, s_neg, s_negK, s_sl, s_sl1, s_sl2, s_sl3, s_noPart, s_part, s_partK, s_rev, s_revK, s_for, s_forK, s_lc, s_lcK, s_yes, s_walk, s_walkT, s_walkS, s_walkA, s_walkL, s_walkR, s_rng1, s_rng2, s_rng1K, s_rng2K, s_callL, s_callLK, s_callLO, s_clK, s_raise, r_val, r_new, r_put, s_whK, s_lcY, s_lcT, s_lcE, s_cg, s_cgK, s_rng3, s_rng3K, s_lcB, s_lcS, wipeD, Pat.bind, seqOf, rg, s_dict0, s_sortSet, s_sortSetK, q_is_tuple, q_is_str, q_is_int, q_is_bool, q_is_list, q_isR, ofS_inj, String.reduceEq, q_eqI, q_neI, q_eqS, q_neS, decide_true, decide_false, Int.reduceEq, reduceCtorEq, i_NoneType_tuple, i_NoneType_str, i_NoneType_int, i_NoneType_bool, i_NoneType_list, i_bool_tuple, i_bool_str, i_bool_int, i_bool_bool, i_bool_list, i_int_tuple, i_int_str, i_int_int, i_int_bool, i_int_list, i_str_tuple, i_str_str, i_str_int, i_str_bool, i_str_list, i_tuple_tuple, i_tuple_str, i_tuple_int, i_tuple_bool, i_tuple_list, i_list_tuple, i_list_str, i_list_int, i_list_bool, i_list_list, i_dict_tuple, i_dict_str, i_dict_int, i_dict_bool, i_dict_list, tyN, startD, mupd_same, mupd_ne, ne_eq, not_false_eq_true, List.map_cons, List.map_nil, List.length_cons, List.length_nil, List.replicate_succ, List.replicate_zero, Nat.zero_add, Nat.reduceAdd, Nat.reduceSub, Int.cast_ofNat_Int, List.cons_append, List.nil_append, List.getElem?_cons_zero, List.getElem?_cons_succ, List.set_cons_zero, List.set_cons_succ, opIx, atI_cons, ixN, opPut, opAdd, opSub, opMul, opFdiv, opMod, opPow, opLt, opLe, opGt, opGe, opIs, opIsNot, D.isNon, truth, bLen, bAbs, bInt, bTuple, bList, isTy, mAppend, mExtend, mPop, Int.reduceLE, Int.reduceLT, Int.reduceToNat, Int.reduceNeg, Int.reduceNe, Option.bind_some, if_true, if_false, ite_true, ite_false, true_and, and_true, Bool.not_true, Bool.not_false, opIadd, Nat.reduceLT, Nat.reduceLeDiff, Int.ofNat_lt, s_lc2, s_lc2J, s_lc2B, s_lc2T, s_lc2E, s_raiseF, s_raiseFK, s_tryF, s_xf, s_xfK, s_xfAt, s_lenSet, s_lenSetK, opMulT, mInsert, s_zip, s_zipKL, s_zipKT, zipD, s_dpNil, s_dpCons, s_dpK1, s_dpK2, s_dpK3, s_disp, s_dispK, s_optKV, kvOf, s_dc, s_dcK, s_keys, s_lockK, s_sortIt, mGet, mDPop, dgetR, bDictC, bTupC, opEqD, opNeD, eqDR, D.key, merge_one, optKV, id, opEqL, opNeL, eqLR, $ls,*])
theorem Cur.put {C : Addr} {M M' : Mem} {c hp pl : Addr} {src : List D} {P P' : Pl} {H H' : Hq} {f f' : Nat} (h : Cur C M c hp pl src P H f) (h1 : RunAt C M' c src hp f') (h2 : HeapAt M' hp H') (h3 : PlAt M' pl P') (h4 : (keys H').Nodup) (h5 : H'.length + f' ≤ H.length + f) (h6 : keys P' = keys P) : Cur C M' c hp pl src P' H' f' :=
  ⟨h1, h2, h3, h.ch, h.cp, h.hp, h4, by have := h.few; omega, by have := congrArg List.length h6; rw [List.length_map, List.length_map] at this; have := h.pf; omega⟩
theorem fn_body {n : Nat} (S0 : MSrc K C_Run "body" "Run.body" s_Run_body ["self", "body", "places"] []) (G : GF K mg C_Stop C_Run) (M_Run_spend : MFn P w K mg base 3 C_Run "spend" (sp_spend C_Run C_Stop) []) (M_Run_is_true : MFn P w K mg base 1 C_Run "is_true" sp_is_true []) (M_Run_simple : MFn P w K mg base (4 * n + 10) C_Run "simple" (sp_simple (n + 1) C_Run C_Stop) []) (M_Run_body : MFn P w K mg base (4 * n + 7) C_Run "body" (sp_body n C_Run C_Stop) []) :
    MFn P w K mg base (4 * n + 11) C_Run "body" (sp_body (n + 1) C_Run C_Stop) [] := by
  refine S0.fn mono_body fun g fd F => def_ok F sc_Run_body (fun ds M Q E h => by obtain ⟨c, hp, pl, src, e, b, P, H', f, rfl, _⟩ := h; rfl) ⟨_, fun cdv A outer s H E hr => have hu := hr.u200
    (xss_one (xs_for (p := .nm 3) bx_passes rfl (xi_walk (xe_var 1)) (xg_name 3 sc_Run_body.nd)
 (xss_cons (xs_expr (xe_meth0 M_Run_spend G.T_Run (hr.mono (by first | decide | omega)) bx_takes (xe_var 0)))
 (xss_one (xs_if (xt_cmp (x_eq hu) (xe_ix hu (xe_var 3) xe_int) xe_str (nomark _) bl_eq)
 (xss_one (xs_while bx_passes (xt_val (xe_meth M_Run_is_true G.T_Run (hr.mono (by first | decide | omega)) bx_takes (xe_var 0) (xa_cons (xe_ix hu (xe_var 3) xe_int) (xa_cons (xe_var 2) xa_nil))))
 (xss_cons (xs_expr (xe_meth M_Run_body G.T_Run (hr.mono (by first | decide | omega)) bx_takes (xe_var 0) (xa_cons (xe_ix hu (xe_var 3) xe_int) (xa_cons (xe_var 2) xa_nil))))
 (xss_one (xs_expr (xe_meth0 M_Run_spend G.T_Run (hr.mono (by first | decide | omega)) bx_takes (xe_var 0)))))))
 (xss_one (xs_if (xt_cmp (x_eq hu) (xe_ix hu (xe_var 3) xe_int) xe_str (nomark _) bl_eq)
 (xss_one (xs_expr (xe_meth M_Run_body G.T_Run (hr.mono (by first | decide | omega)) bx_takes (xe_var 0) (xa_cons (xe_if (xt_val (xe_meth M_Run_is_true G.T_Run (hr.mono (by first | decide | omega)) bx_takes (xe_var 0) (xa_cons (xe_ix hu (xe_var 3) xe_int) (xa_cons (xe_var 2) xa_nil)))) (xe_ix hu (xe_var 3) xe_int) (xe_ix hu (xe_var 3) xe_int)) (xa_cons (xe_var 2) xa_nil)))))
 (xss_one (xs_expr (xe_meth M_Run_simple G.T_Run (hr.mono (by first | decide | omega)) bx_takes (xe_var 0) (xa_cons (xe_var 3) (xa_cons (xe_var 2) xa_nil)))))))))))), fun ds M Q E h => ?_⟩
  obtain ⟨c, hp, pl, src, e, b, P, H, f, rfl, cu, hE, hv, hr, h⟩ := h
  have sz : (16777216 : Nat) = sizeLine := sizeLine_eq.symm
  have three : ∀ {x : Addr}, x ∈ [c] → x ∈ [c, hp, pl] := fun {x} h => by simp at h; simp [h]
  simp! []
  have eb := encL_map b
  rw [eb]
  refine loop_inv St.enc (fun r env M' => ∃ d3 P' H' f', env = [some (.ob c), some (.tup (b.map St.enc)), some (.ob pl), d3] ∧ Cur C_Run M' c hp pl (src.map Pr.enc) P' H' f' ∧ keys P' = keys P ∧ Keep [c, hp, pl] M M' ∧ H'.length + f' ≤ H.length + f ∧ exL (callOf e) b P H f = exL (callOf e) r P' H' f' ∧ vlL (sgOf e) (keys P) r ∧ rkL (rkOf e) r < n + 1) (fun _ _ _ _ => trivial) ?_ ?_ b _ _ ⟨none, P, H, f, rfl, cu, rfl, Keep.refl, Nat.le_refl _, rfl, hv, hr⟩
  · rintro s r env M1 N ⟨d3, P1, H1, f1, rfl, c1, kp, k1, b1, e1, v1, r1⟩ hN
    unfold vlL at v1
    unfold rkL at r1
    have f1b : f1 < 900 := by have := c1.few; omega
    have hc1 := c1.run
    simp! [hc1]
    refine ⟨c, hp, _, f1, rfl, hc1, by omega, fun z M2 k2 => ?_, fun z M2 rr k2 => ?_⟩
    · have eo : exL (callOf e) b P H f = .stop false := by rw [e1, exL_cut z]
      rw [eo] at h
      exact h M2 (k1.trans (k2.weaken (by simp)))
    have c2 : Cur C_Run M2 c hp pl (src.map Pr.enc) P1 H1 (f1 - 1) := c1.put rr (k2 _ _ c1.heap (by simpa using c1.ch.symm)) (k2 _ _ c1.pla (by simpa using c1.cp.symm)) c1.nd (by omega) rfl
    have k12 : Keep [c, hp, pl] M M2 := k1.trans (k2.weaken fun x => three)
    have eo : exL (callOf e) b P H f = thenO (s.ex (callOf e) P1 H1 (f1 - 1)) (exL (callOf e) r) := by rw [e1, exL_cons z]
    have v1' : s.vl (sgOf e) (keys P1) := by rw [kp]; exact v1.1
    have bds := St.bd (cf_ok hE.ok) s v1' P1 H1 (f1 - 1) rfl c1.nd
    -- what is left once the statement has gone well, or has stopped
    have good : ∀ P' H' f' M', s.ex (callOf e) P1 H1 (f1 - 1) = .ok P' H' f' → RunAt C_Run M' c (src.map Pr.enc) hp f' → HeapAt M' hp H' → PlAt M' pl P' → Keep [c, hp, pl] M2 M' → ∀ d, N [some (.ob c), some (.tup (b.map St.enc)), some (.ob pl), d] M' := fun P' H' f' M' hx q1 q2 q3 q4 d => by
      rw [hx] at bds eo
      obtain ⟨g1, g2, g3, g4⟩ := bds
      exact hN _ _ ⟨d, P', H', f', rfl, c1.put q1 q2 q3 g2 (by omega) g1, by rw [g1, kp], k12.trans q4, by omega, eo, v1.2, by omega⟩
    have bad : ∀ w M', s.ex (callOf e) P1 H1 (f1 - 1) = .stop w → Keep [c, hp, pl] M2 M' → E (.ref C_Stop) [("word", .str (word w))] M' := fun w M' hx q => by
      rw [hx] at eo
      rw [eo] at h
      exact h M' (k12.trans q)
    have simple : s.plain → sp_simple (n + 1) C_Run C_Stop [.ob c, s.enc, .ob pl] M2 (fun d M' => d = .non ∧ ∀ d, N [some (.ob c), some (.tup (b.map St.enc)), some (.ob pl), d] M') E := fun hs => by
      refine ⟨c, hp, pl, src, e, s, P1, H1, f1 - 1, rfl, c2, hE, v1', by omega, hs, ?_⟩
      cases hx : s.ex (callOf e) P1 H1 (f1 - 1) with
      | ok P' H' f' => exact fun M' q1 q2 q3 q4 => ⟨rfl, good P' H' f' M' hx q1 q2 q3 q4⟩
      | stop w => exact fun M' q => bad w M' hx q
    cases s with
    | wh t x y bb =>
      unfold St.vl at v1'
      obtain ⟨hx, hy, hb⟩ := v1'
      have rb : rkL (rkOf e) bb < n := by have := r1; unfold St.rk at this; omega
      have hw : (St.wh t x y bb).ex (callOf e) P1 H1 (f1 - 1) = whileF (exL (callOf e) bb) t x y (f1 - 1 + 1) P1 H1 (f1 - 1) := by rw [St.ex]
      simp! [St.enc]
      refine while_inv (fun k env M' => ∃ P' H' f', env = [some (.ob c), some (.tup (b.map St.enc)), some (.ob pl), some (.tup [.str wWhile, tstD t x y, .tup (encL bb)])] ∧ Cur C_Run M' c hp pl (src.map Pr.enc) P' H' f' ∧ keys P' = keys P1 ∧ Keep [c, hp, pl] M2 M' ∧ f' < k ∧ whileF (exL (callOf e) bb) t x y k P' H' f' = (St.wh t x y bb).ex (callOf e) P1 H1 (f1 - 1)) ?_ ⟨P1, H1, f1 - 1, rfl, c2, rfl, Keep.refl, Nat.lt_succ_self _, hw.symm⟩
      rintro k env M3 N2 ⟨P3, H3, f3, rfl, c3, kp3, k3, lt, eq3⟩ hN2
      obtain ⟨k, rfl⟩ : ∃ j, k = j + 1 := ⟨k - 1, by omega⟩
      simp! [c3.run]
      refine ⟨c, pl, t, x, y, P3, rfl, c3.pla, by rw [kp3]; exact hx, by rw [kp3]; exact hy, fun M4 k4 => ?_⟩
      have c4 := c3.keep k4
      have k24 : Keep [c, hp, pl] M2 M4 := k3.trans (k4.weaken (by simp))
      simp! []
      refine bif_of (fun z => ?_) fun z => ?_
      · rw [while_yes z] at eq3
        simp! [c4.run]
        refine ⟨c, hp, pl, src, e, bb, P3, H3, f3, rfl, c4, hE, by rw [kp3]; exact hb, rb, ?_⟩
        have bd3 := bdL (cf_ok hE.ok) bb (by rw [kp3]; exact hb) P3 H3 f3 rfl c4.nd
        cases hx : exL (callOf e) bb P3 H3 f3 with
        | stop w =>
          rw [hx] at eq3
          intro M5 k5
          simp! []
          exact bad w M5 eq3.symm (k24.trans k5)
        | ok P5 H5 f5 =>
          rw [hx] at eq3 bd3
          obtain ⟨g1, g2, g3, g4⟩ := bd3
          intro M5 q1 q2 q3 q4
          have c5 := c4.put q1 q2 q3 g2 g3 g1
          have f5b : f5 < 900 := by have := c5.few; omega
          simp! [c5.run]
          refine ⟨c, hp, _, f5, rfl, c5.run, by omega, fun z M6 k6 => ?_, fun z M6 rr k6 => ?_⟩
          · have : (St.wh t x y bb).ex (callOf e) P1 H1 (f1 - 1) = .stop false := by
              rw [← eq3]; show (if f5 = 0 then _ else _) = _; rw [if_pos z]
            exact bad false M6 this ((k24.trans q4).trans (k6.weaken (by simp)))
          · have : whileF (exL (callOf e) bb) t x y k P5 H5 (f5 - 1) = (St.wh t x y bb).ex (callOf e) P1 H1 (f1 - 1) := by
              rw [← eq3]; show _ = (if f5 = 0 then _ else _); rw [if_neg z]
            exact hN2 k _ _ (Nat.lt_succ_self _) ⟨P5, H5, f5 - 1, rfl, c5.put rr (k6 _ _ q2 (by simpa using c1.ch.symm)) (k6 _ _ q3 (by simpa using c1.cp.symm)) g2 (by omega) rfl, by rw [g1, kp3], (k24.trans q4).trans (k6.weaken fun x => three), by omega, this⟩
      · rw [while_no z] at eq3
        exact good P3 H3 f3 M4 eq3.symm c4.run c4.heap c4.pla k24 _
    | ite t x y b1 b2 =>
      unfold St.vl at v1'
      obtain ⟨hx, hy, hb1, hb2⟩ := v1'
      have rb : rkL (rkOf e) b1 < n ∧ rkL (rkOf e) b2 < n := by have := r1; unfold St.rk at this; omega
      simp! [St.enc, c2.run]
      refine ⟨c, pl, t, x, y, P1, rfl, c2.pla, hx, hy, fun M4 k4 => ?_⟩
      have c4 := c2.keep k4
      simp! []
      refine bif_of (fun z => ?_) fun z => ?_
      · have hw : (St.ite t x y b1 b2).ex (callOf e) P1 H1 (f1 - 1) = exL (callOf e) b1 P1 H1 (f1 - 1) := by rw [St.ex, if_pos z]
        simp! []
        refine ⟨c, hp, pl, src, e, b1, P1, H1, f1 - 1, rfl, c4, hE, hb1, rb.1, ?_⟩
        rw [← hw]
        cases hx : (St.ite t x y b1 b2).ex (callOf e) P1 H1 (f1 - 1) with
        | stop w => exact fun M5 k5 => by simp! []; exact bad w M5 hx ((k4.weaken (by simp)).trans k5)
        | ok P5 H5 f5 => exact fun M5 q1 q2 q3 q4 => by simp! []; exact good P5 H5 f5 M5 hx q1 q2 q3 ((k4.weaken (by simp)).trans q4) _
      · have hw : (St.ite t x y b1 b2).ex (callOf e) P1 H1 (f1 - 1) = exL (callOf e) b2 P1 H1 (f1 - 1) := by rw [St.ex, if_neg (by rw [z]; exact Bool.false_ne_true)]
        simp! []
        refine ⟨c, hp, pl, src, e, b2, P1, H1, f1 - 1, rfl, c4, hE, hb2, rb.2, ?_⟩
        rw [← hw]
        cases hx : (St.ite t x y b1 b2).ex (callOf e) P1 H1 (f1 - 1) with
        | stop w => exact fun M5 k5 => by simp! []; exact bad w M5 hx ((k4.weaken (by simp)).trans k5)
        | ok P5 H5 f5 => exact fun M5 q1 q2 q3 q4 => by simp! []; exact good P5 H5 f5 M5 hx q1 q2 q3 ((k4.weaken (by simp)).trans q4) _
    | copy x y =>
      simp! [St.enc, c2.run]
      exact mono_simple _ _ _ _ _ _ (fun d M' q => by obtain ⟨rfl, q⟩ := q; simp! []; exact q _) (fun _ _ _ q => by simp! []; exact q) (simple trivial)
    | read x y =>
      simp! [St.enc, c2.run]
      exact mono_simple _ _ _ _ _ _ (fun d M' q => by obtain ⟨rfl, q⟩ := q; simp! []; exact q _) (fun _ _ _ q => by simp! []; exact q) (simple trivial)
    | link x y =>
      simp! [St.enc, c2.run]
      exact mono_simple _ _ _ _ _ _ (fun d M' q => by obtain ⟨rfl, q⟩ := q; simp! []; exact q _) (fun _ _ _ q => by simp! []; exact q) (simple trivial)
    | new x =>
      simp! [St.enc, c2.run]
      exact mono_simple _ _ _ _ _ _ (fun d M' q => by obtain ⟨rfl, q⟩ := q; simp! []; exact q _) (fun _ _ _ q => by simp! []; exact q) (simple trivial)
    | free x =>
      simp! [St.enc, c2.run]
      exact mono_simple _ _ _ _ _ _ (fun d M' q => by obtain ⟨rfl, q⟩ := q; simp! []; exact q _) (fun _ _ _ q => by simp! []; exact q) (simple trivial)
    | call nm as =>
      simp! [St.enc, c2.run]
      exact mono_simple _ _ _ _ _ _ (fun d M' q => by obtain ⟨rfl, q⟩ := q; simp! []; exact q _) (fun _ _ _ q => by simp! []; exact q) (simple trivial)
  · rintro env M1 ⟨d3, P1, H1, f1, rfl, c1, kp, k1, b1, e1, v1, r1⟩
    rw [exL_nil] at e1
    rw [e1] at h
    simp! []
    exact h M1 c1.run c1.heap c1.pla k1
end K10

set_option maxHeartbeats 4000000
namespace K10
open PySem PySem.Spec PyProof.Rows L2 PL SX
variable {P : Program} {w : World} {K : PySem.W.Frag} {mg : Str → Option Value} {base : Heap} {C_Stop C_Run : Addr}
local macro_rules | `(tactic| simp! [$ls,*]) => `(tactic| simp only [s_fld, s_fldK, s_insAt, s_optD, s_obAt, s_fput, s_fputK1, s_fputK2, s_faug, s_faugK1, s_faugK2, s_faugK3, s_meth, s_methK1, s_methK2, s_make, s_makeK, s_makeK2, s_dead, s_tryN, noX_nx, noX_rt, noX_bk, noX_ct, mSplit, opMulS, s_enum, s_enumK, s_sortBy, s_sortByK, look_nil, look_cons, putFD_nil, putFD_cons, List.append_nil, to_nx, to_rt, to_bk, to_ct, to_ex, lp_nx, lp_rt, lp_bk, lp_ct, lp_ex, ret_nx, ret_rt, ret_ex, s_exK, s_bif1, s_bif0, s_optB, s_optE, s_nxD, s_ifK, s_asgN, s_asgT, s_asgL, b_nil, b_nm, b_tp, s_next, s_seq, s_drop, s_ret, s_retN, s_ifS, s_asg, s_brk, s_cont, s_put, s_put1, s_put2, s_put3, s_aug, s_augV, s_augK, s_augK2, s_bin, s_bin1, s_bin2, s_var, s_varK, s_C, s_cb, s_cbK, s_call, s_callK, s_m, s_m1, s_m2, s_nil, s_cons, s_cons1, s_cons2, s_tup, s_tupK, s_lst, s_lstK, s_truth, s_trK, s_tK, s_eK, s_cK, s_and, s_andK, s_or, s_orK, s_not, s_notK, s_ife, s_ifeK, s_andV, s_orV, s_andvK, s_orvK, s_andvK2, s_orvK2, s_notV, s_notvK, s_blK, s_neg, s_negK, s_sl, s_sl1, s_sl2, s_sl3, s_noPart, s_part, s_partK, s_rev, s_revK, s_for, s_forK, s_lc, s_lcK, s_yes, s_walk, s_walkT, s_walkS, s_walkA, s_walkL, s_walkR, s_rng1, s_rng2, s_rng1K, s_rng2K, s_callL, s_callLK, s_callLO, s_clK, s_raise, r_val, r_new, r_put, s_whK, s_lcY, s_lcT, s_lcE, s_cg, s_cgK, s_rng3, s_rng3K, s_lcB, s_lcS, wipeD, Pat.bind, seqOf, rg, s_dict0, s_sortSet, s_sortSetK, q_is_tuple, q_is_str, q_is_int, q_is_bool, q_is_list, q_isR, ofS_inj, String.reduceEq, q_eqI, q_neI, q_eqS, q_neS, decide_true, decide_false, Int.reduceEq, reduceCtorEq, i_NoneType_tuple, i_NoneType_str, i_NoneType_int, i_NoneType_bool, i_NoneType_list, i_bool_tuple, i_bool_str, i_bool_int, i_bool_bool, i_bool_list, i_int_tuple, i_int_str, i_int_int, i_int_bool, i_int_list, i_str_tuple, i_str_str, i_str_int, i_str_bool, i_str_list, i_tuple_tuple, i_tuple_str, i_tuple_int, i_tuple_bool, i_tuple_list, i_list_tuple, i_list_str, i_list_int, i_list_bool, i_list_list, i_dict_tuple, i_dict_str, i_dict_int, i_dict_bool, i_dict_list, tyN, startD, mupd_same, mupd_ne, ne_eq, not_false_eq_true, List.map_cons, List.map_nil, List.length_cons, List.length_nil, List.replicate_succ, List.replicate_zero, Nat.zero_add, Nat.reduceAdd, Nat.reduceSub, Int.cast_ofNat_Int, List.cons_append, List.nil_append, List.getElem?_cons_zero, List.getElem?_cons_succ, List.set_cons_zero, List.set_cons_succ, opIx, atI_cons, ixN, opPut, opAdd, opSub, opMul, opFdiv, opMod, opPow, opLt, opLe, opGt, opGe, opIs, opIsNot, D.isNon, truth, bLen, bAbs, bInt, bTuple, bList, isTy, mAppend, mExtend, mPop, Int.reduceLE, Int.reduceLT, Int.reduceToNat, Int.reduceNeg, Int.reduceNe, Option.bind_some, if_true, if_false, ite_true, ite_false, true_and, and_true, Bool.not_true, Bool.not_false, opIadd, Nat.reduceLT, Nat.reduceLeDiff, Int.ofNat_lt, s_lc2, s_lc2J, s_lc2B, s_lc2T, s_lc2E, s_raiseF, s_raiseFK, s_tryF, s_xf, s_xfK, s_xfAt, s_lenSet, s_lenSetK, opMulT, mInsert, s_zip, s_zipKL, s_zipKT, zipD, s_dpNil, s_dpCons, s_dpK1, s_dpK2, s_dpK3, s_disp, s_dispK, s_optKV, kvOf, s_dc, s_dcK, s_keys, s_lockK, s_sortIt, mGet, mDPop, dgetR, bDictC, bTupC, opEqD, opNeD, eqDR, D.key, merge_one, optKV, id, opEqL, opNeL, eqLR, $ls,*])
theorem look_in {κ : Type} [DecidableEq κ] : ∀ {P : Al κ} {q : κ × Int}, (keys P).Nodup → q ∈ P → look P q.1 = some q.2
  | [], _, _, h => by cases h
  | p :: r, q, nd, h => by
    obtain ⟨n1, n2⟩ := List.nodup_cons.mp nd
    rcases List.mem_cons.mp h with z | z
    · rw [z]; simp [look]
    · have : p.1 ≠ q.1 := fun e => n1 (by show p.1 ∈ _; rw [e]; exact List.mem_map_of_mem z)
      rw [look, if_neg this]
      exact look_in n2 z
theorem pure_zD : ∀ xs : List (Str × Int), pureL (xs.map zD) = true
  | [] => rfl
  | x :: r => by rw [List.map_cons, pureL, pure_zD r]; rfl
theorem alike_zD (xs : List (Str × Int)) : PySem.W.AllAlike ((xs.map zD).map D.py) := by
  intro a ha b hb
  rw [List.map_map] at ha hb
  obtain ⟨x, _, rfl⟩ := List.mem_map.mp ha
  obtain ⟨y, _, rfl⟩ := List.mem_map.mp hb
  simp [D.py, pyL, PySem.W.alike, PySem.W.alikeAll]
theorem sortable_zD (xs : List (Str × Int)) : PySem.W.Sortable ((xs.map zD).map D.py) := by
  refine .inl fun a ha => ?_
  rw [List.map_map] at ha
  obtain ⟨x, _, rfl⟩ := List.mem_map.mp ha
  exact ⟨.str x.1, [.int x.2], by simp [D.py, pyL]⟩
theorem dp_zD (xs : List (Str × Int)) : ∀ d ∈ xs.map zD, d.dp ≤ 100 := fun d hd => by
  obtain ⟨x, _, rfl⟩ := List.mem_map.mp hd
  exact (by decide : (1 : Nat) ≤ 100)
theorem fn_bodies (S_run : MSrc K C_Run "run" "Run.run" s_Run_run ["self", "proc", "addresses"] []) (S_call : MSrc K C_Run "call" "Run.call" s_Run_call ["self", "proc", "args", "places"] []) (S_simple : MSrc K C_Run "simple" "Run.simple" s_Run_simple ["self", "statement", "places"] []) (S_body : MSrc K C_Run "body" "Run.body" s_Run_body ["self", "body", "places"] []) (G : GF K mg C_Stop C_Run) (M_Run_spend : MFn P w K mg base 3 C_Run "spend" (sp_spend C_Run C_Stop) []) (M_Run_is_true : MFn P w K mg base 1 C_Run "is_true" sp_is_true []) (M_Run_cell : MFn P w K mg base 3 C_Run "cell" (sp_cell C_Run C_Stop) []) (M_Run_new : MFn P w K mg base 1 C_Run "new" (sp_new C_Run) []) (F_proc_named : Fn P w K mg base 1 "proc_named" sp_named []) :
    ∀ n, MFn P w K mg base (4 * n + 7) C_Run "body" (sp_body n C_Run C_Stop) [] := by
  intro n
  induction n with
  | zero => exact S_body.fn mono_body fun f fd F => fn_none fun ds M Q E h => by obtain ⟨_, _, _, _, _, _, _, _, _, _, _, _, _, h, _⟩ := h; omega
  | succ n M_Run_body =>
    have M_run := fn_run S_run G M_Run_body
    have M_call := fn_call S_call G M_run
    have M_simple := fn_simple S_simple G M_Run_cell M_Run_new F_proc_named M_call
    exact fn_body S_body G M_Run_spend M_Run_is_true M_simple M_Run_body
abbrev wDone : Str := Str.ofString "done"
def stackD (I : Pl) : List D := ((I.filter fun p => decide (p.1 ≠ nil_)).map zD).mergeSort leW
def sp_top (n : Nat) : DSp := fun ds M Q E => ∃ (ad ct : Addr) (src e : List Pr) (p : Pr) (vs : List Int) (ms : Hq) (f : Nat), ds = [.tup (src.map Pr.enc), .str p.nm, .ob ad, .ob ct, .int (f : Int)] ∧ Env src (p :: e) ∧ M ad = some (.lst (vs.map D.int)) ∧ M ct = some (.ctp (ms.map pairI)) ∧ vs.length = p.ps.length ∧ (keys ms).Nodup ∧ ms.length ≤ 100 ∧ f ≤ 700 ∧ rkL (rkOf e) p.body < n ∧
  ∀ M', (∀ c o, M c = some o → (∀ fs, o ≠ .xd fs) → M' c = some o) → match runP (callOf e) p vs ms f with
    | .stop w => Q (.tup [.str (word w)]) M'
    | .ok I H' _ => ∀ ys : Hq, ys.Perm H' → ys.Pairwise (fun p q => p.1 ≤ q.1) → Q (.tup [.str wDone, .tup (stackD I), .tup (ys.map pairI)]) M'
theorem mono_top {n : Nat} : MonoSp (sp_top n) := by
  rintro ds M Q Q' E E' hQ hE ⟨ad, ct, src, e, p, vs, ms, f, h1, h2, h3, h4, h5, h6, h7, h8, h9, h⟩
  refine ⟨ad, ct, src, e, p, vs, ms, f, h1, h2, h3, h4, h5, h6, h7, h8, h9, fun M' k => ?_⟩
  have := h M' k
  cases e2 : runP (callOf e) p vs ms f with
  | stop w => rw [e2] at this; exact hQ _ _ this
  | ok I H' f' => rw [e2] at this; exact fun ys a b => hQ _ _ (this ys a b)
theorem fn_top {n : Nat} (S0 : Src K mg "run" s_run ["source", "name", "addresses", "heap", "fuel"]) (G : GF K mg C_Stop C_Run) (F_proc_named : Fn P w K mg base 1 "proc_named" sp_named []) (K_Run : KFn P w K mg base 1 "Run" C_Run (sp_rinit C_Run)) (M_Run_run : MFn P w K mg base (4 * n + 8) C_Run "run" (sp_run (n + 1) C_Run C_Stop) []) : Fn P w K mg base (4 * n + 9) "run" (sp_top n) [] := by
  refine S0.fn mono_top fun g fd F => fn_ok F sc_run (fun ds M Q E h => by obtain ⟨ad, ct, src, e, p, vs, ms, f, rfl, _⟩ := h; rfl) ⟨_, fun cdv A outer s H E hr => have hu := hr.u200
    (xss_cons (xs_set 5 sc_run.nd (xe_call F_proc_named (hr.mono (by first | decide | omega)) bx_takes (by rfl) (xa_cons (xe_var 0) (xa_cons (xe_var 1) xa_nil))))
 (xss_cons (xs_set 6 sc_run.nd (xe_make K_Run (hr.mono (by first | decide | omega)) (by rfl) (xa_cons (xe_var 0) (xa_cons (xe_var 3) (xa_cons (xe_var 4) xa_nil)))))
 (xss_cons (xs_tryL (X := bx P w K mg base ["source", "name", "addresses", "heap", "fuel", "proc", "machine", "places", "e", "stack", "one"] "run" s_run _ cdv A outer s H E) (ok := fun C => C = C_Stop) 8 rfl G.N_Stop (by rfl) rfl rfl sc_run.nd rfl bx_takes (fun _ _ _ tkT hpT => (xss_one (xs_set 7 sc_run.nd (xe_meth M_Run_run G.T_Run (hr.mono (by first | decide | omega)) tkT (xe_var 6) (xa_cons (xe_var 5) (xa_cons (xe_var 2) xa_nil)))))) (fun C hC a dd oe pn hz hf => (xss_one (xs_ret (xe_tup (n := 1) (xa_cons (xe_xf (G.OKX C hC).1 (G.OKX C hC).2.2 hz hf (xe_var 8)) xa_nil))))))
 (xss_cons (xs_set 9 sc_run.nd (xe_callTy c_tuple (by rfl) G.tuple (by decide +kernel) (xa_cons (xe_callG bSortW_mono (c_sortW hu) (by rfl) G.sorted (by decide +kernel) (xa_cons (xe_lock (xe_lc (own := [("one", 10)]) (p := .nm 10) rfl sc_run.nd (xi_keys (xe_var 7)) (blkOk_by (by first | (show blkC ["source", "name", "addresses", "heap", "fuel", "proc", "machine", "places", "e", "stack", "one"] (defScope s_run) _ _ = true; decide +kernel) | kernel_rfl | rfl)) (fun _ _ _ _ _ => (xg_name 10 sc_run.nd)) (fun _ _ _ _ _ => (xts_one (xt_cmp (x_ne hu) (xe_var 10) (xe_globE (by rfl) G.NIL) (nomark _) bl_ne))) (fun _ _ _ _ _ => (xe_tup (n := 2) (xa_cons (xe_var 10) (xa_cons (xe_ix hu (xe_var 7) (xe_var 10)) xa_nil)))))) xa_nil)) xa_nil)))
 (xss_one (xs_ret (xe_tup (n := 3) (xa_cons (xe_globE (by rfl) G.DONE) (xa_cons (xe_var 9) (xa_cons (xe_callTy c_tuple (by rfl) G.tuple (by decide +kernel) (xa_cons (xe_sortIt rfl (xe_fld G.T_Run (xe_var 6)) (by rfl) G.sorted (by decide +kernel)) xa_nil)) xa_nil)))))))))), fun ds M Q E h => ?_⟩
  obtain ⟨ad, ct, src, e, p, vs, ms, f, rfl, hE, ha, hct, vl, nd, few, ff, hr, h⟩ := h
  have sz : (16777216 : Nat) = sizeLine := sizeLine_eq.symm
  have hpm := hE.mem (p := p) List.mem_cons_self
  simp! []
  refine ⟨src, p.nm, p, rfl, hE.few, filter_one hE.nd hpm, fun M1 k1 => ?_⟩
  simp! []
  intro c hc
  have ct1 := k1 _ _ hct (by simp)
  have nct : ct ≠ c := ne_new ct1 hc
  refine ⟨c, ct, src.map Pr.enc, ms, f, rfl, mupd_same, by rw [mupd_ne nct]; exact ct1, nd, nct.symm, fun M2 hp hhp r2 h2 hpc k2 => ?_⟩
  have k02 : ∀ b o, M b = some o → M2 b = some o := fun b o hb => by
    have hb1 := k1 _ _ hb (by simp)
    exact k2 _ _ (by rw [mupd_ne (ne_new hb1 hc)]; exact hb1) (by simpa using ne_new hb1 hc)
  have r2' : M2 c = some (.ins C_Run [("source", .tup (src.map Pr.enc)), ("heap", .ob hp), ("fuel", .int (f : Int))]) := r2
  simp! [r2']
  refine ⟨c, hp, ad, src, e, p, vs, ms, f, rfl, r2, h2, k02 _ _ ha, hpc.symm, vl, nd, by omega, hE, by omega, ?_⟩
  have hcn : M c = none := k1.fresh hc
  have hpn : M hp = none := by
    cases q : M hp with
    | none => rfl
    | some o =>
      have := k1 _ _ q (by simp)
      rw [mupd_ne hpc, this] at hhp
      cases hhp
  have k23 : ∀ M3, Keep [c, hp] M2 M3 → ∀ b o, M b = some o → M3 b = some o := fun M3 k3 b o hb => k3 _ _ (k02 _ _ hb) (by simp [ne_new hb hcn, ne_new hb hpn])
  cases hx : runP (callOf e) p vs ms f with
  | stop w =>
    rw [hx] at h
    intro M3 k3
    simp! [exTryF, G.M_Stop]
    intro a dd ha3 hdd
    simp! [suiteEnds]
    refine ⟨C_Stop, rfl, rfl, h _ fun b o hb ho => ?_⟩
    have hb3 := k23 M3 k3 b o hb
    have : b ≠ dd := fun q => by
      obtain ⟨fs, z⟩ := hdd o (by rw [← q]; exact hb3)
      exact ho fs z
    rw [mupd_ne this]
    exact hb3
  | ok I H' f' =>
    rw [hx] at h
    intro M3 pl hpl r3 h3 p3 k3
    have p3' : M3 pl = some (.dk (I.map pD)) := p3
    simp! []
    refine ⟨pl, I.map pD, p3', ?_⟩
    simp! []
    refine ⟨pl, I.map pD, rfl, mupd_same, ?_⟩
    have ek : ((I.map pD).map fun kv => keyD kv.1) = I.map fun p => D.str p.1 := by rw [List.map_map]; rfl
    rw [ek]
    simp! []
    intro l hl
    have lpl : l ≠ pl := fun e => by rw [e, mupd_same] at hl; cases hl
    have hl3 : M3 l = none := by rwa [mupd_ne lpl] at hl
    have kI : keys I = nil_ :: (p.ps ++ p.ls) := by
      have := bdL (cf_ok hE.ok.2.2) p.body hE.ok.1 (start p vs) ms f (start_keys vl hE.ok.2.1) nd
      unfold runP at hx
      rw [hx] at this
      exact this.1
    have ndI : (keys I).Nodup := by rw [kI]; exact hE.ok.2.1
    have lI : I.length ≤ 1000 := by
      have := congrArg List.length kI
      have := hE.ps p hpm
      simp at *
      omega
    refine lc_pure (fun p : Str × Int => D.str p.1) zD (fun p => decide (p.1 ≠ nil_)) I hl (fun _ _ => trivial) (by omega) (fun q hq M4 N sk k4 hy hn => ?_) fun M4 k4 e4 => ?_
    · have hm : M4 pl = some (.rdk (I.map pD)) := k4 _ _ mupd_same (by simp)
      simp! []
      refine bif_of (fun z => ?_) fun z => ?_
      · simp! [hm, D.key, look_p, look_in ndI hq, Option.map_some]
        exact hy (by simpa using z) _ Keep.refl
      · exact hn (by simpa using z) _ Keep.refl
    · have hm : M4 pl = some (.rdk (I.map pD)) := k4 _ _ mupd_same (by simp)
      simp! [hm]
      refine ⟨l, _, rfl, by rw [mupd_ne lpl]; exact e4, pure_zD _, alike_zD _, sortable_zD _, by rw [List.length_map]; have : (I.filter fun p => decide (p.1 ≠ nil_)).length ≤ I.length := List.length_filter_le _ _; omega, dp_zD _, fun q hq => ?_⟩
      simp! []
      have qpl : q ≠ pl := fun e => by rw [e, mupd_same] at hq; cases hq
      have k34 : ∀ b o, M3 b = some o → b ≠ pl → M4 b = some o := fun b o hb hne => k4 _ _ (by rw [mupd_ne hne]; exact hb) (by simp)
      have hpp : hp ≠ pl := fun e => by rw [← e, h2] at hpl; cases hpl
      have cpl : c ≠ pl := fun e => by rw [← e, r2] at hpl; cases hpl
      have h4 : M4 hp = some (.dk (H'.map entD)) := k34 _ _ h3 hpp
      have r4 : M4 c = some (.ins C_Run [("source", .tup (src.map Pr.enc)), ("heap", .ob hp), ("fuel", .int (f' : Int))]) := k34 _ _ r3 cpl
      have hpq : hp ≠ q := fun e => by rw [← e, mupd_ne hpp, h4] at hq; cases hq
      have cq : c ≠ q := fun e => by rw [← e, mupd_ne cpl, r4] at hq; cases hq
      simp! [mupd_ne cq, mupd_ne cpl, r4]
      refine ⟨hp, H', rfl, .inl (by rw [mupd_ne hpq, mupd_ne hpp]; exact h4), fun ys r hys pw hr => ?_⟩
      simp! []
      refine h _ (fun b o hb ho => ?_) ys hys pw
      have hb3 := k23 M3 k3 b o hb
      have b1 : b ≠ pl := fun e => by rw [← e, k02 _ _ hb] at hpl; cases hpl
      have hb4 := k34 _ _ hb3 b1
      have b2 : b ≠ q := fun e => by rw [← e, mupd_ne b1, hb4] at hq; cases hq
      have b3 : b ≠ r := fun e => by rw [← e, mupd_ne b2, mupd_ne b1, hb4] at hr; cases hr
      rw [mupd_ne b3, mupd_ne b2, mupd_ne b1]
      exact hb4
end K10

set_option maxHeartbeats 4000000
namespace K10
open PySem PySem.Spec PyProof.Rows L2 PL SX
variable {P : Program} {w : World} {K : PySem.W.Frag} {mg : Str → Option Value} {base : Heap} {C_Stop C_Run : Addr}
local macro_rules | `(tactic| simp! [$ls,*]) => `(tactic| simp only [s_fld, s_fldK, s_insAt, s_optD, s_obAt, s_fput, s_fputK1, s_fputK2, s_faug, s_faugK1, s_faugK2, s_faugK3, s_meth, s_methK1, s_methK2, s_make, s_makeK, s_makeK2, s_dead, s_tryN, noX_nx, noX_rt, noX_bk, noX_ct, mSplit, opMulS, s_enum, s_enumK, s_sortBy, s_sortByK, look_nil, look_cons, putFD_nil, putFD_cons, List.append_nil, to_nx, to_rt, to_bk, to_ct, to_ex, lp_nx, lp_rt, lp_bk, lp_ct, lp_ex, ret_nx, ret_rt, ret_ex, s_exK, s_bif1, s_bif0, s_optB, s_optE, s_nxD, s_ifK, s_asgN, s_asgT, s_asgL, b_nil, b_nm, b_tp, s_next, s_seq, s_drop, s_ret, s_retN, s_ifS, s_asg, s_brk, s_cont, s_put, s_put1, s_put2, s_put3, s_aug, s_augV, s_augK, s_augK2, s_bin, s_bin1, s_bin2, s_var, s_varK, s_C, s_cb, s_cbK, s_call, s_callK, s_m, s_m1, s_m2, s_nil, s_cons, s_cons1, s_cons2, s_tup, s_tupK, s_lst, s_lstK, s_truth, s_trK, s_tK, s_eK, s_cK, s_and, s_andK, s_or, s_orK, s_not, s_notK, s_ife, s_ifeK, s_andV, s_orV, s_andvK, s_orvK, s_andvK2, s_orvK2, s_notV, s_notvK, s_blK, s_neg, s_negK, s_sl, s_sl1, s_sl2, s_sl3, s_noPart, s_part, s_partK, s_rev, s_revK, s_for, s_forK, s_lc, s_lcK, s_yes, s_walk, s_walkT, s_walkS, s_walkA, s_walkL, s_walkR, s_rng1, s_rng2, s_rng1K, s_rng2K, s_callL, s_callLK, s_callLO, s_clK, s_raise, r_val, r_new, r_put, s_whK, s_lcY, s_lcT, s_lcE, s_cg, s_cgK, s_rng3, s_rng3K, s_lcB, s_lcS, wipeD, Pat.bind, seqOf, rg, s_dict0, s_sortSet, s_sortSetK, q_is_tuple, q_is_str, q_is_int, q_is_bool, q_is_list, q_isR, ofS_inj, String.reduceEq, q_eqI, q_neI, q_eqS, q_neS, decide_true, decide_false, Int.reduceEq, reduceCtorEq, i_NoneType_tuple, i_NoneType_str, i_NoneType_int, i_NoneType_bool, i_NoneType_list, i_bool_tuple, i_bool_str, i_bool_int, i_bool_bool, i_bool_list, i_int_tuple, i_int_str, i_int_int, i_int_bool, i_int_list, i_str_tuple, i_str_str, i_str_int, i_str_bool, i_str_list, i_tuple_tuple, i_tuple_str, i_tuple_int, i_tuple_bool, i_tuple_list, i_list_tuple, i_list_str, i_list_int, i_list_bool, i_list_list, i_dict_tuple, i_dict_str, i_dict_int, i_dict_bool, i_dict_list, tyN, startD, mupd_same, mupd_ne, ne_eq, not_false_eq_true, List.map_cons, List.map_nil, List.length_cons, List.length_nil, List.replicate_succ, List.replicate_zero, Nat.zero_add, Nat.reduceAdd, Nat.reduceSub, Int.cast_ofNat_Int, List.cons_append, List.nil_append, List.getElem?_cons_zero, List.getElem?_cons_succ, List.set_cons_zero, List.set_cons_succ, opIx, atI_cons, ixN, opPut, opAdd, opSub, opMul, opFdiv, opMod, opPow, opLt, opLe, opGt, opGe, opIs, opIsNot, D.isNon, truth, bLen, bAbs, bInt, bTuple, bList, isTy, mAppend, mExtend, mPop, Int.reduceLE, Int.reduceLT, Int.reduceToNat, Int.reduceNeg, Int.reduceNe, Option.bind_some, if_true, if_false, ite_true, ite_false, true_and, and_true, Bool.not_true, Bool.not_false, opIadd, Nat.reduceLT, Nat.reduceLeDiff, Int.ofNat_lt, s_lc2, s_lc2J, s_lc2B, s_lc2T, s_lc2E, s_raiseF, s_raiseFK, s_tryF, s_xf, s_xfK, s_xfAt, s_lenSet, s_lenSetK, opMulT, mInsert, s_zip, s_zipKL, s_zipKT, zipD, s_dpNil, s_dpCons, s_dpK1, s_dpK2, s_dpK3, s_disp, s_dispK, s_optKV, kvOf, s_dc, s_dcK, s_keys, s_lockK, s_sortIt, mGet, mDPop, dgetR, bDictC, bTupC, opEqD, opNeD, eqDR, D.key, merge_one, optKV, id, opEqL, opNeL, eqLR, $ls,*])
/-! the law's own world -/
abbrev kSrc : Str := Str.ofString "source"
abbrev kHeap : Str := Str.ofString "heap"
abbrev kFuel : Str := Str.ofString "fuel"
abbrev kEnd : Str := Str.ofString "end"
abbrev wNo : Str := Str.ofString ""
def wKvs (src : List D) (hp : Addr) (f : Int) (e : Str) : List (Key × D) := [(.inr kSrc, .tup src), (.inr kHeap, .ob hp), (.inr kFuel, .int f), (.inr kEnd, .str e)]
abbrev WAt (M : Mem) (w : Addr) (src : List D) (hp : Addr) (f : Int) (e : Str) : Prop := M w = some (.dk (wKvs src hp f e))
theorem lw_src {src : List D} {hp : Addr} {f : Int} {e : Str} : look (wKvs src hp f e) (Sum.inr (Str.ofString "source") : Key) = some (.tup src) := rfl
theorem lw_heap {src : List D} {hp : Addr} {f : Int} {e : Str} : look (wKvs src hp f e) (Sum.inr (Str.ofString "heap") : Key) = some (.ob hp) := by
  simp [wKvs, look, ofS_inj]
theorem lw_fuel {src : List D} {hp : Addr} {f : Int} {e : Str} : look (wKvs src hp f e) (Sum.inr (Str.ofString "fuel") : Key) = some (.int f) := by
  simp [wKvs, look, ofS_inj]
theorem lw_end {src : List D} {hp : Addr} {f : Int} {e : Str} : look (wKvs src hp f e) (Sum.inr (Str.ofString "end") : Key) = some (.str e) := by
  simp [wKvs, look, ofS_inj]
theorem pw_fuel {src : List D} {hp : Addr} {f g : Int} {e : Str} : putD (wKvs src hp f e) (Sum.inr (Str.ofString "fuel") : Key) (.int g) = wKvs src hp g e := by
  simp [wKvs, putD, ofS_inj]
theorem pw_end {src : List D} {hp : Addr} {f : Int} {e g : Str} : putD (wKvs src hp f e) (Sum.inr (Str.ofString "end") : Key) (.str g) = wKvs src hp f g := by
  simp [wKvs, putD, ofS_inj]
theorem lw_len {src : List D} {hp : Addr} {f : Int} {e : Str} : (wKvs src hp f e).length = 4 := rfl
def sp_lstop : DSp := fun ds M Q E => ∃ (w hp : Addr) (src : List D) (f : Int) (e x : Str), ds = [.ob w, .str x] ∧ WAt M w src hp f e ∧ ∀ M', WAt M' w src hp f (if e = wNo then x else e) → Keep [w] M M' → Q (.bl false) M'
theorem mono_lstop : MonoSp sp_lstop := by
  rintro ds M Q Q' E E' hQ hE ⟨w, hp, src, f, e, x, h1, h2, h⟩
  exact ⟨w, hp, src, f, e, x, h1, h2, fun M' z1 z2 => hQ _ _ (h M' z1 z2)⟩
theorem fn_lstop (S0 : Src K mg "_law_stop" s__law_stop ["world", "word"]) (G : GF K mg C_Stop C_Run) : Fn P w K mg base 1 "_law_stop" sp_lstop [] := by
  refine S0.fn mono_lstop fun g fd F => fn_ok F sc__law_stop (fun ds M Q E h => by obtain ⟨w, hp, src, f, e, x, rfl, _⟩ := h; rfl) ⟨_, fun cdv A outer s H E hr => have hu := hr.u200
    (xss_cons (xs_if (xt_cmp (x_eq hu) (xe_ix hu (xe_var 0) xe_str) xe_str (nomark _) bl_eq)
 (xss_one (xs_put hu (xe_var 1) (xe_var 0) xe_str))
 xss_nil)
 (xss_one (xs_ret xe_bl))), fun ds M Q E h => ?_⟩
  obtain ⟨w, hp, src, f, e, x, rfl, hw, h⟩ := h
  have sz : (16777216 : Nat) = sizeLine := sizeLine_eq.symm
  have hw' : M w = some (.dk (wKvs src hp f e)) := hw
  simp! [hw', D.key, lw_end]
  refine bif_dec (fun z => ?_) fun z => ?_
  · simp! [hw', D.key, lw_len, pw_end]
    exact ⟨by omega, h _ (by rw [if_pos z]; exact mupd_same) (Keep.put (by simp))⟩
  · simp! []
    exact h M (by rw [if_neg z]; exact hw) Keep.refl
def spentE (f : Int) (e : Str) : Str := if e = wNo ∧ f = 0 then wCut else e
def sp_spent : DSp := fun ds M Q E => ∃ (w hp : Addr) (src : List D) (f : Int) (e : Str), ds = [.ob w] ∧ WAt M w src hp f e ∧ ∀ M', WAt M' w src hp (f - 1) (spentE f e) → Keep [w] M M' → Q (.bl (decide (spentE f e = wNo))) M'
theorem mono_spent : MonoSp sp_spent := by
  rintro ds M Q Q' E E' hQ hE ⟨w, hp, src, f, e, h1, h2, h⟩
  exact ⟨w, hp, src, f, e, h1, h2, fun M' z1 z2 => hQ _ _ (h M' z1 z2)⟩
theorem fn_spent (S0 : Src K mg "_law_spent" s__law_spent ["world"]) (G : GF K mg C_Stop C_Run) : Fn P w K mg base 1 "_law_spent" sp_spent [] := by
  refine S0.fn mono_spent fun g fd F => fn_ok F sc__law_spent (fun ds M Q E h => by obtain ⟨w, hp, src, f, e, rfl, _⟩ := h; rfl) ⟨_, fun cdv A outer s H E hr => have hu := hr.u200
    (xss_cons (xs_if (xt_wh (xw_and (xt_cmp (x_eq hu) (xe_ix hu (xe_var 0) xe_str) xe_str (nomark _) bl_eq) (xw_and1 (xt_cmp (x_eq hu) (xe_ix hu (xe_var 0) xe_str) xe_int (nomark _) bl_eq))))
 (xss_one (xs_put hu xe_str (xe_var 0) xe_str))
 xss_nil)
 (xss_cons (xs_put hu (xe_bin x_sub (xe_ix hu (xe_var 0) xe_str) xe_int) (xe_var 0) xe_str)
 (xss_one (xs_ret (xe_cmp (x_eq hu) (xe_ix hu (xe_var 0) xe_str) xe_str (nomark _)))))), fun ds M Q E h => ?_⟩
  obtain ⟨w, hp, src, f, e, rfl, hw, h⟩ := h
  have sz : (16777216 : Nat) = sizeLine := sizeLine_eq.symm
  have hw' : M w = some (.dk (wKvs src hp f e)) := hw
  simp! [hw', D.key, lw_end]
  refine bif_dec (fun z => ?_) fun z => ?_
  · simp! [hw', D.key, lw_fuel]
    refine bif_dec (fun z2 => ?_) fun z2 => ?_
    · have es : spentE f e = wCut := if_pos ⟨z, z2⟩
      rw [es] at h
      simp! [hw', D.key, lw_fuel, lw_len, pw_end, pw_fuel, lw_end]
      refine ⟨by omega, by omega, ?_⟩
      exact h _ mupd_same ((Keep.put (by simp)).trans (Keep.put (by simp)))
    · have es : spentE f e = e := if_neg fun q => z2 q.2
      rw [es] at h
      simp! [hw', D.key, lw_fuel, lw_len, pw_end, pw_fuel, lw_end]
      exact ⟨by omega, h _ mupd_same (Keep.put (by simp))⟩
  · have es : spentE f e = e := if_neg fun q => z q.1
    rw [es] at h
    simp! [hw', D.key, lw_fuel, lw_len, pw_end, pw_fuel, lw_end]
    exact ⟨by omega, h _ mupd_same (Keep.put (by simp))⟩
def sp_met : DSp := fun ds M Q E => ∃ (pl : Addr) (t : Bool) (x y : Str) (P : Pl), ds = [tstD t x y, .ob pl] ∧ PlAt M pl P ∧ x ∈ keys P ∧ y ∈ keys P ∧ ∀ M', Keep [] M M' → Q (.bl (tst t x y P)) M'
theorem mono_met : MonoSp sp_met := by
  rintro ds M Q Q' E E' hQ hE ⟨pl, t, x, y, P, h1, h2, h3, h4, h⟩
  exact ⟨pl, t, x, y, P, h1, h2, h3, h4, fun M' z => hQ _ _ (h M' z)⟩
theorem fn_met (S0 : Src K mg "_law_is_met" s__law_is_met ["test", "places"]) (G : GF K mg C_Stop C_Run) : Fn P w K mg base 1 "_law_is_met" sp_met [] := by
  refine S0.fn mono_met fun g fd F => fn_ok F sc__law_is_met (fun ds M Q E h => by obtain ⟨pl, t, x, y, P, rfl, _⟩ := h; rfl) ⟨_, fun cdv A outer s H E hr => have hu := hr.u200
    (xss_one (xs_ret (xe_cmp (x_eq hu) (xe_cmp (x_eq hu) (xe_ix hu (xe_var 1) (xe_ix hu (xe_var 0) xe_int)) (xe_ix hu (xe_var 1) (xe_ix hu (xe_var 0) xe_int)) (nomark _)) (xe_cmp (x_eq hu) (xe_ix hu (xe_var 0) xe_int) xe_str (nomark _)) (nomark _)))), fun ds M Q E h => ?_⟩
  obtain ⟨pl, t, x, y, P, rfl, hp, hx, hy, h⟩ := h
  have hp' : M pl = some (.dk (P.map pD)) := hp
  simp! [tstD, hp', D.key, look_val hx, look_val hy]
  rw [q_eqB, kind_same]
  exact h M Keep.refl
end K10

set_option maxHeartbeats 4000000
namespace K10
open PySem PySem.Spec PyProof.Rows L2 PL SX
variable {P : Program} {w : World} {K : PySem.W.Frag} {mg : Str → Option Value} {base : Heap} {C_Stop C_Run : Addr}
local macro_rules | `(tactic| simp! [$ls,*]) => `(tactic| simp only [s_fld, s_fldK, s_insAt, s_optD, s_obAt, s_fput, s_fputK1, s_fputK2, s_faug, s_faugK1, s_faugK2, s_faugK3, s_meth, s_methK1, s_methK2, s_make, s_makeK, s_makeK2, s_dead, s_tryN, noX_nx, noX_rt, noX_bk, noX_ct, mSplit, opMulS, s_enum, s_enumK, s_sortBy, s_sortByK, look_nil, look_cons, putFD_nil, putFD_cons, List.append_nil, to_nx, to_rt, to_bk, to_ct, to_ex, lp_nx, lp_rt, lp_bk, lp_ct, lp_ex, ret_nx, ret_rt, ret_ex, s_exK, s_bif1, s_bif0, s_optB, s_optE, s_nxD, s_ifK, s_asgN, s_asgT, s_asgL, b_nil, b_nm, b_tp, s_next, s_seq, s_drop, s_ret, s_retN, s_ifS, s_asg, s_brk, s_cont, s_put, s_put1, s_put2, s_put3, s_aug, s_augV, s_augK, s_augK2, s_bin, s_bin1, s_bin2, s_var, s_varK, s_C, s_cb, s_cbK, s_call, s_callK, s_m, s_m1, s_m2, s_nil, s_cons, s_cons1, s_cons2, s_tup, s_tupK, s_lst, s_lstK, s_truth, s_trK, s_tK, s_eK, s_cK, s_and, s_andK, s_or, s_orK, s_not, s_notK, s_ife, s_ifeK, s_andV, s_orV, s_andvK, s_orvK, s_andvK2, s_orvK2, s_notV, s_notvK, s_blK, s_neg, s_negK, s_sl, s_sl1, s_sl2, s_sl3, s_noPart, s_part, s_partK, s_rev, s_revK, s_for, s_forK, s_lc, s_lcK, s_yes, s_walk, s_walkT, s_walkS, s_walkA, s_walkL, s_walkR, s_rng1, s_rng2, s_rng1K, s_rng2K, s_callL, s_callLK, s_callLO, s_clK, s_raise, r_val, r_new, r_put, s_whK, s_lcY, s_lcT, s_lcE, s_cg, s_cgK, s_rng3, s_rng3K, s_lcB, s_lcS, wipeD, Pat.bind, seqOf, rg, s_dict0, s_sortSet, s_sortSetK, q_is_tuple, q_is_str, q_is_int, q_is_bool, q_is_list, q_isR, ofS_inj, String.reduceEq, q_eqI, q_neI, q_eqS, q_neS, decide_true, decide_false, Int.reduceEq, reduceCtorEq, i_NoneType_tuple, i_NoneType_str, i_NoneType_int, i_NoneType_bool, i_NoneType_list, i_bool_tuple, i_bool_str, i_bool_int, i_bool_bool, i_bool_list, i_int_tuple, i_int_str, i_int_int, i_int_bool, i_int_list, i_str_tuple, i_str_str, i_str_int, i_str_bool, i_str_list, i_tuple_tuple, i_tuple_str, i_tuple_int, i_tuple_bool, i_tuple_list, i_list_tuple, i_list_str, i_list_int, i_list_bool, i_list_list, i_dict_tuple, i_dict_str, i_dict_int, i_dict_bool, i_dict_list, tyN, startD, mupd_same, mupd_ne, ne_eq, not_false_eq_true, List.map_cons, List.map_nil, List.length_cons, List.length_nil, List.replicate_succ, List.replicate_zero, Nat.zero_add, Nat.reduceAdd, Nat.reduceSub, Int.cast_ofNat_Int, List.cons_append, List.nil_append, List.getElem?_cons_zero, List.getElem?_cons_succ, List.set_cons_zero, List.set_cons_succ, opIx, atI_cons, ixN, opPut, opAdd, opSub, opMul, opFdiv, opMod, opPow, opLt, opLe, opGt, opGe, opIs, opIsNot, D.isNon, truth, bLen, bAbs, bInt, bTuple, bList, isTy, mAppend, mExtend, mPop, Int.reduceLE, Int.reduceLT, Int.reduceToNat, Int.reduceNeg, Int.reduceNe, Option.bind_some, if_true, if_false, ite_true, ite_false, true_and, and_true, Bool.not_true, Bool.not_false, opIadd, Nat.reduceLT, Nat.reduceLeDiff, Int.ofNat_lt, s_lc2, s_lc2J, s_lc2B, s_lc2T, s_lc2E, s_raiseF, s_raiseFK, s_tryF, s_xf, s_xfK, s_xfAt, s_lenSet, s_lenSetK, opMulT, mInsert, s_zip, s_zipKL, s_zipKT, zipD, s_dpNil, s_dpCons, s_dpK1, s_dpK2, s_dpK3, s_disp, s_dispK, s_optKV, kvOf, s_dc, s_dcK, s_keys, s_lockK, s_sortIt, mGet, mDPop, dgetR, bDictC, bTupC, opEqD, opNeD, eqDR, D.key, merge_one, optKV, id, opEqL, opNeL, eqLR, $ls,*])
structure LCur (M : Mem) (w hp pl : Addr) (src : List D) (P : Pl) (H : Hq) (f : Nat) : Prop where
  wd : WAt M w src hp (f : Int) wNo
  heap : HeapAt M hp H
  pla : PlAt M pl P
  wh : w ≠ hp
  wp : w ≠ pl
  hp : hp ≠ pl
  nd : (keys H).Nodup
  few : H.length + f < 900
  pf : P.length < 900
theorem LCur.keep {M M' : Mem} {w hp pl : Addr} {src : List D} {P : Pl} {H : Hq} {f : Nat} (h : LCur M w hp pl src P H f) (k : Keep [] M M') : LCur M' w hp pl src P H f := ⟨k _ _ h.wd (by simp), k _ _ h.heap (by simp), k _ _ h.pla (by simp), h.wh, h.wp, h.hp, h.nd, h.few, h.pf⟩
theorem LCur.put {M M' : Mem} {w hp pl : Addr} {src : List D} {P P' : Pl} {H H' : Hq} {f f' : Nat} (h : LCur M w hp pl src P H f) (h1 : WAt M' w src hp (f' : Int) wNo) (h2 : HeapAt M' hp H') (h3 : PlAt M' pl P') (h4 : (keys H').Nodup) (h5 : H'.length + f' ≤ H.length + f) (h6 : keys P' = keys P) : LCur M' w hp pl src P' H' f' :=
  ⟨h1, h2, h3, h.wh, h.wp, h.hp, h4, by have := h.few; omega, by have := congrArg List.length h6; rw [List.length_map, List.length_map] at this; have := h.pf; omega⟩
def LAfter (w hp pl : Addr) (src : List D) (ks : List Str) (M : Mem) (Q : Mem → Prop) : Out → Prop
  | .ok P' H' f' => ∀ M', WAt M' w src hp (f' : Int) wNo → HeapAt M' hp H' → PlAt M' pl P' → Keep [w, hp, pl] M M' → Q M'
  | .stop x => ∀ M' (f2 : Int) H2 P2, WAt M' w src hp f2 (word x) → HeapAt M' hp H2 → PlAt M' pl P2 → keys P2 = ks → Keep [w, hp, pl] M M' → Q M'
theorem LAfter.mono {w hp pl : Addr} {src : List D} {ks : List Str} {M : Mem} {Q Q' : Mem → Prop} (hQ : ∀ M, Q M → Q' M) {o : Out} (h : LAfter w hp pl src ks M Q o) : LAfter w hp pl src ks M Q' o := by
  cases o with
  | ok P' H' f' => exact fun M' z1 z2 z3 z4 => hQ _ (h M' z1 z2 z3 z4)
  | stop x => exact fun M' f2 H2 P2 z1 z2 z3 z4 z5 => hQ _ (h M' f2 H2 P2 z1 z2 z3 z4 z5)
def LAfterR (w hp : Addr) (src : List D) (ks : List Str) (M : Mem) (Q : Addr → Mem → Prop) : Out → Prop
  | .ok I H' f' => ∀ M' inner, M inner = none → WAt M' w src hp (f' : Int) wNo → HeapAt M' hp H' → PlAt M' inner I → Keep [w, hp] M M' → Q inner M'
  | .stop x => ∀ M' inner (f2 : Int) H2 I2, M inner = none → WAt M' w src hp f2 (word x) → HeapAt M' hp H2 → PlAt M' inner I2 → keys I2 = ks → Keep [w, hp] M M' → Q inner M'
theorem LAfterR.mono {w hp : Addr} {src : List D} {ks : List Str} {M : Mem} {Q Q' : Addr → Mem → Prop} (hQ : ∀ i M, Q i M → Q' i M) {o : Out} (h : LAfterR w hp src ks M Q o) : LAfterR w hp src ks M Q' o := by
  cases o with
  | ok P' H' f' => exact fun M' i z0 z1 z2 z3 z4 => hQ _ _ (h M' i z0 z1 z2 z3 z4)
  | stop x => exact fun M' i f2 H2 P2 z0 z1 z2 z3 z4 z5 => hQ _ _ (h M' i f2 H2 P2 z0 z1 z2 z3 z4 z5)
def sp_lbody (n : Nat) : DSp := fun ds M Q E => ∃ (w hp pl : Addr) (src e : List Pr) (b : List St) (P : Pl) (H : Hq) (f : Nat), ds = [.ob w, .tup (encL b), .ob pl] ∧ LCur M w hp pl (src.map Pr.enc) P H f ∧ Env src e ∧ vlL (sgOf e) (keys P) b ∧ rkL (rkOf e) b < n ∧ LAfter w hp pl (src.map Pr.enc) (keys P) M (fun M' => Q .non M') (exL (callOf e) b P H f)
theorem mono_lbody {n : Nat} : MonoSp (sp_lbody n) := by
  rintro ds M Q Q' E E' hQ hE ⟨w, hp, pl, src, e, b, P, H, f, h1, h2, h3, h4, h5, h⟩
  exact ⟨w, hp, pl, src, e, b, P, H, f, h1, h2, h3, h4, h5, h.mono fun M' => hQ _ _⟩
def sp_lstep (n : Nat) : DSp := fun ds M Q E => ∃ (w hp pl : Addr) (src e : List Pr) (s : St) (P : Pl) (H : Hq) (f : Nat), ds = [.ob w, s.enc, .ob pl] ∧ LCur M w hp pl (src.map Pr.enc) P H f ∧ Env src e ∧ s.vl (sgOf e) (keys P) ∧ s.rk (rkOf e) < n ∧ s.plain ∧ LAfter w hp pl (src.map Pr.enc) (keys P) M (fun M' => ∀ b, Q (.bl b) M') (s.ex (callOf e) P H f)
theorem mono_lstep {n : Nat} : MonoSp (sp_lstep n) := by
  rintro ds M Q Q' E E' hQ hE ⟨w, hp, pl, src, e, b, P, H, f, h1, h2, h3, h4, h5, h6, h⟩
  exact ⟨w, hp, pl, src, e, b, P, H, f, h1, h2, h3, h4, h5, h6, h.mono fun M' z b => hQ _ _ (z b)⟩
def sp_lproc (n : Nat) : DSp := fun ds M Q E => ∃ (w hp va : Addr) (src e : List Pr) (p : Pr) (vs : List Int) (H : Hq) (f : Nat), ds = [.ob w, p.enc, .ob va] ∧ WAt M w (src.map Pr.enc) hp (f : Int) wNo ∧ HeapAt M hp H ∧ M va = some (.lst (vs.map D.int)) ∧ w ≠ hp ∧ vs.length = p.ps.length ∧ (keys H).Nodup ∧ H.length + f < 900 ∧ Env src (p :: e) ∧ rkL (rkOf e) p.body + 1 < n ∧
  LAfterR w hp (src.map Pr.enc) (nil_ :: (p.ps ++ p.ls)) M (fun i M' => Q (.ob i) M') (runP (callOf e) p vs H f)
theorem mono_lproc {n : Nat} : MonoSp (sp_lproc n) := by
  rintro ds M Q Q' E E' hQ hE ⟨c, hp, va, src, e, p, vs, H, f, h1, h2, h3, h4, h5, h6, h7, h8, h9, h10, h⟩
  exact ⟨c, hp, va, src, e, p, vs, H, f, h1, h2, h3, h4, h5, h6, h7, h8, h9, h10, h.mono fun i M' => hQ _ _⟩
theorem zip_take {xs : List Str} {vs : List Int} (hl : vs.length = xs.length) {i : Nat} (hi : i < xs.length) : (xs.zip vs).take (i + 1) = (xs.zip vs).take i ++ [(xs[i], vs[i]'(by omega))] := by
  rw [List.take_add_one, List.getElem?_eq_getElem (by rw [List.length_zip]; omega), List.getElem_zip]
  rfl
theorem range_cons {i n : Nat} (h : i < n) : List.range' i (n - i) = i :: List.range' (i + 1) (n - (i + 1)) := by
  obtain ⟨m, e⟩ : ∃ m, n - i = m + 1 := ⟨n - i - 1, by omega⟩
  rw [e, List.range'_succ]
  congr 2
  omega
theorem fn_lproc {n : Nat} (S0 : Src K mg "_law_proc" s__law_proc ["world", "proc", "addresses"]) (G : GF K mg C_Stop C_Run) (F__law_body : Fn P w K mg base (4 * n + 7) "_law_body" (sp_lbody n) []) : Fn P w K mg base (4 * n + 8) "_law_proc" (sp_lproc (n + 1)) [] := by
  refine S0.fn mono_lproc fun g fd F => fn_ok F sc__law_proc (fun ds M Q E h => by obtain ⟨c, hp, va, src, e, p, vs, H', f, rfl, _⟩ := h; rfl) ⟨_, fun cdv A outer s H E hr => have hu := hr.u200
    (xss_cons (xs_set 3 sc__law_proc.nd (xe_disp (xps_cons xe_str xe_int xps_nil)))
 (xss_cons (xs_for (p := .nm 4) bx_passes rfl (xi_range1 (by rfl) G.range (xa_cons (xe_callB c_len (by rfl) G.len (by decide +kernel) (xa_cons (xe_ix hu (xe_var 1) xe_int) xa_nil)) xa_nil)) (xg_name 4 sc__law_proc.nd)
 (xss_one (xs_put hu (xe_ix hu (xe_var 2) (xe_var 4)) (xe_var 3) (xe_ix hu (xe_ix hu (xe_var 1) xe_int) (xe_var 4)))))
 (xss_cons (xs_for (p := .nm 5) bx_passes rfl (xi_walk (xe_ix hu (xe_var 1) xe_int)) (xg_name 5 sc__law_proc.nd)
 (xss_one (xs_put hu xe_int (xe_var 3) (xe_var 5))))
 (xss_cons (xs_expr (xe_call F__law_body (hr.mono (by first | decide | omega)) bx_takes (by rfl) (xa_cons (xe_var 0) (xa_cons (xe_ix hu (xe_var 1) xe_int) (xa_cons (xe_var 3) xa_nil)))))
 (xss_one (xs_ret (xe_var 3))))))), fun ds M Q E h => ?_⟩
  obtain ⟨w, hp, va, src, e, p, vs, H, f, rfl, hw, hh, hv, wh, vl, nd, few, hE, hr, h⟩ := h
  have sz : (16777216 : Nat) = sizeLine := sizeLine_eq.symm
  have hpm := hE.mem (p := p) List.mem_cons_self
  obtain ⟨pl1, pl2⟩ := hE.ps p hpm
  simp! [Pr.enc]
  intro pl hpl
  have vpl : va ≠ pl := ne_new hv hpl
  have wpl : w ≠ pl := ne_new hw hpl
  have hpp : hp ≠ pl := ne_new hh hpl
  have e0 : mupd (mupd M pl (.dk [])) pl (.dk [(Sum.inr (Str.ofString "nil"), D.int 0)]) = mupd M pl (.dk (List.map pD [(nil_, 0)])) := mupd_mupd
  rw [e0]
  have k0 : Keep [] M (mupd M pl (.dk (List.map pD [(nil_, 0)]))) := Keep.new hpl
  have p0 : (mupd M pl (.dk (List.map pD [(nil_, 0)]))) pl = some (.dk (List.map pD [(nil_, 0)])) := mupd_same
  generalize mupd M pl (.dk (List.map pD [(nil_, 0)])) = M0 at k0 p0 ⊢
  simp! [List.length_map]
  refine ⟨by omega, ?_⟩
  trace_state
  refine loop_inv (fun i : Nat => D.int (0 + (i : Int))) (fun rest env M' => ∃ (i : Nat) (P : Pl) (d4 d5 : Option D), rest = List.range' i (p.ps.length - i) ∧ i ≤ p.ps.length ∧ env = [some (.ob w), some p.enc, some (.ob va), some (.ob pl), d4, d5] ∧ M' pl = some (.dk (P.map pD)) ∧ P = setAll [(nil_, 0)] ((p.ps.zip vs).take i) ∧ P.length ≤ i + 1 ∧ Keep [] M M') (fun _ _ _ _ => trivial) ?_ ?_ (List.range p.ps.length) _ _ ⟨0, [(nil_, 0)], none, none, by rw [List.range_eq_range']; simp, by omega, rfl, p0, rfl, by simp, k0⟩
  · rintro j r env M1 N ⟨i, P, d4, d5, e1, il, rfl, h1, e2, ll, k1⟩ hN
    have hi : i < p.ps.length := by
      by_cases z : i < p.ps.length
      · exact z
      · rw [show p.ps.length - i = 0 by omega] at e1; cases e1
    rw [range_cons hi] at e1
    injection e1 with e1 e3
    subst e1
    have ax : atI (p.ps.map D.str) (j : Int) = some (.str p.ps[j]) := by rw [atI_natI (by rw [List.length_map]; exact hi), List.getElem_map]
    have av : atI (vs.map D.int) (j : Int) = some (.int (vs[j]'(by omega))) := by rw [atI_natI (by rw [List.length_map]; omega), List.getElem_map]
    simp! [Pr.enc, h1, D.key, Int.zero_add, ax, av, k1 _ _ hv (by simp)]
    trace_state
    refine ⟨by rw [List.length_map]; omega, ?_⟩
    rw [put_p]
    refine hN _ _ ⟨j + 1, setL P p.ps[j] (vs[j]'(by omega)), _, _, e3, by omega, rfl, mupd_same, by rw [zip_take vl hi, setAll_app, ← e2]; rfl, set_le ll, ?_⟩
    exact fun b o hb hne => by rw [mupd_ne (ne_new hb hpl)]; exact k1 _ _ hb hne
  rintro env M1 ⟨i, P, d4, d5, e1, il, rfl, h1, e2, ll, k1⟩
  have ie : i = p.ps.length := by
    by_cases z : i < p.ps.length
    · rw [range_cons z] at e1; cases e1
    · omega
  subst ie
  have lz : (p.ps.zip vs).length = p.ps.length := by rw [List.length_zip]; omega
  rw [List.take_of_length_le (by omega)] at e2
  simp! [Pr.enc]
  refine loop_inv D.str (fun r env M' => ∃ done P d4 d5, p.ls = done ++ r ∧ env = [some (.ob w), some p.enc, some (.ob va), some (.ob pl), d4, d5] ∧ M' pl = some (.dk (P.map pD)) ∧ P = setAll [(nil_, 0)] (p.ps.zip vs ++ done.map fun x => (x, 0)) ∧ P.length ≤ done.length + 1 + p.ps.length ∧ Keep [] M M') (fun _ _ _ _ => trivial) ?_ ?_ p.ls _ _ ⟨[], P, d4, d5, rfl, rfl, h1, by simpa using e2, by simp; omega, k1⟩
  · rintro x r env M2 N ⟨done, P, d4, d5, e3, rfl, h2, e4, ll2, k2⟩ hN
    have l1 := congrArg List.length e3
    rw [List.length_append, List.length_cons] at l1
    simp! [h2, D.key]
    refine ⟨by rw [List.length_map]; omega, ?_⟩
    rw [put_p]
    refine hN _ _ ⟨done ++ [x], setL P x 0, _, _, by rw [e3]; simp, rfl, mupd_same, ?_, ?_, ?_⟩
    · rw [List.map_append, ← List.append_assoc, setAll_app, ← e4]; rfl
    · rw [List.length_append]; have := set_le (k := x) (v := 0) ll2; simp only [List.length_cons, List.length_nil]; omega
    · exact fun b o hb hne => by rw [mupd_ne (ne_new hb hpl)]; exact k2 _ _ hb hne
  rintro env M2 ⟨done, P, d4, d5, e3, rfl, h2, e4, ll2, k2⟩
  rw [List.append_nil] at e3
  subst e3
  have eS : P = start p vs := e4
  have kS := start_keys vl hE.ok.2.1
  simp! [Pr.enc]
  refine ⟨w, hp, pl, src, e, p.body, P, H, f, rfl, ⟨k2 _ _ hw (by simp), k2 _ _ hh (by simp), h2, wh, wpl, hpp, nd, few, by omega⟩, hE.tail, by rw [eS, kS]; exact hE.ok.1, by omega, ?_⟩
  rw [eS]
  have kd : ∀ M3, Keep [w, hp, pl] M2 M3 → Keep [w, hp] M M3 := fun M3 k3 b o hb hne => k3 _ _ (k2 _ _ hb (by simp)) (by
    have := ne_new hb hpl
    simp at hne ⊢
    exact ⟨hne.1, hne.2, this⟩)
  have h' : LAfterR w hp (src.map Pr.enc) (nil_ :: (p.ps ++ p.ls)) M (fun i M' => Q (.ob i) M') (exL (callOf e) p.body (start p vs) H f) := h
  cases hx : exL (callOf e) p.body (start p vs) H f with
  | ok I H' f' =>
    rw [hx] at h'
    intro M3 r3 h3 p3 k3
    simp! []
    exact h' M3 pl hpl r3 h3 p3 (kd M3 k3)
  | stop x =>
    rw [hx] at h'
    intro M3 f2 H2 P2 r3 h3 p3 kk k3
    simp! []
    exact h' M3 pl f2 H2 P2 hpl r3 h3 p3 (by rw [kk, kS]) (kd M3 k3)
end K10

set_option maxHeartbeats 4000000
namespace K10
open PySem PySem.Spec PyProof.Rows L2 PL SX
variable {P : Program} {w : World} {K : PySem.W.Frag} {mg : Str → Option Value} {base : Heap} {C_Stop C_Run : Addr}
local macro_rules | `(tactic| simp! [$ls,*]) => `(tactic| simp only [s_fld, s_fldK, s_insAt, s_optD, s_obAt, s_fput, s_fputK1, s_fputK2, s_faug, s_faugK1, s_faugK2, s_faugK3, s_meth, s_methK1, s_methK2, s_make, s_makeK, s_makeK2, s_dead, s_tryN, noX_nx, noX_rt, noX_bk, noX_ct, mSplit, opMulS, s_enum, s_enumK, s_sortBy, s_sortByK, look_nil, look_cons, putFD_nil, putFD_cons, List.append_nil, to_nx, to_rt, to_bk, to_ct, to_ex, lp_nx, lp_rt, lp_bk, lp_ct, lp_ex, ret_nx, ret_rt, ret_ex, s_exK, s_bif1, s_bif0, s_optB, s_optE, s_nxD, s_ifK, s_asgN, s_asgT, s_asgL, b_nil, b_nm, b_tp, s_next, s_seq, s_drop, s_ret, s_retN, s_ifS, s_asg, s_brk, s_cont, s_put, s_put1, s_put2, s_put3, s_aug, s_augV, s_augK, s_augK2, s_bin, s_bin1, s_bin2, s_var, s_varK, s_C, s_cb, s_cbK, s_call, s_callK, s_m, s_m1, s_m2, s_nil, s_cons, s_cons1, s_cons2, s_tup, s_tupK, s_lst, s_lstK, s_truth, s_trK, s_tK, s_eK, s_cK, s_and, s_andK, s_or, s_orK, s_not, s_notK, s_ife, s_ifeK, s_andV, s_orV, s_andvK, s_orvK, s_andvK2, s_orvK2, s_notV, s_notvK, s_blK, s_neg, s_negK, s_sl, s_sl1, s_sl2, s_sl3, s_noPart, s_part, s_partK, s_rev, s_revK, s_for, s_forK, s_lc, s_lcK, s_yes, s_walk, s_walkT, s_walkS, s_walkA, s_walkL, s_walkR, s_rng1, s_rng2, s_rng1K, s_rng2K, s_callL, s_callLK, s_callLO, s_clK, s_raise, r_val, r_new, r_put, s_whK, s_lcY, s_lcT, s_lcE, s_cg, s_cgK, s_rng3, s_rng3K, s_lcB, s_lcS, wipeD, Pat.bind, seqOf, rg, s_dict0, s_sortSet, s_sortSetK, q_is_tuple, q_is_str, q_is_int, q_is_bool, q_is_list, q_isR, ofS_inj, String.reduceEq, q_eqI, q_neI, q_eqS, q_neS, decide_true, decide_false, Int.reduceEq, reduceCtorEq, i_NoneType_tuple, i_NoneType_str, i_NoneType_int, i_NoneType_bool, i_NoneType_list, i_bool_tuple, i_bool_str, i_bool_int, i_bool_bool, i_bool_list, i_int_tuple, i_int_str, i_int_int, i_int_bool, i_int_list, i_str_tuple, i_str_str, i_str_int, i_str_bool, i_str_list, i_tuple_tuple, i_tuple_str, i_tuple_int, i_tuple_bool, i_tuple_list, i_list_tuple, i_list_str, i_list_int, i_list_bool, i_list_list, i_dict_tuple, i_dict_str, i_dict_int, i_dict_bool, i_dict_list, tyN, startD, mupd_same, mupd_ne, ne_eq, not_false_eq_true, List.map_cons, List.map_nil, List.length_cons, List.length_nil, List.replicate_succ, List.replicate_zero, Nat.zero_add, Nat.reduceAdd, Nat.reduceSub, Int.cast_ofNat_Int, List.cons_append, List.nil_append, List.getElem?_cons_zero, List.getElem?_cons_succ, List.set_cons_zero, List.set_cons_succ, opIx, atI_cons, ixN, opPut, opAdd, opSub, opMul, opFdiv, opMod, opPow, opLt, opLe, opGt, opGe, opIs, opIsNot, D.isNon, truth, bLen, bAbs, bInt, bTuple, bList, isTy, mAppend, mExtend, mPop, Int.reduceLE, Int.reduceLT, Int.reduceToNat, Int.reduceNeg, Int.reduceNe, Option.bind_some, if_true, if_false, ite_true, ite_false, true_and, and_true, Bool.not_true, Bool.not_false, opIadd, Nat.reduceLT, Nat.reduceLeDiff, Int.ofNat_lt, s_lc2, s_lc2J, s_lc2B, s_lc2T, s_lc2E, s_raiseF, s_raiseFK, s_tryF, s_xf, s_xfK, s_xfAt, s_lenSet, s_lenSetK, opMulT, mInsert, s_zip, s_zipKL, s_zipKT, zipD, s_dpNil, s_dpCons, s_dpK1, s_dpK2, s_dpK3, s_disp, s_dispK, s_optKV, kvOf, s_dc, s_dcK, s_keys, s_lockK, s_sortIt, mGet, mDPop, dgetR, bDictC, bTupC, opEqD, opNeD, eqDR, D.key, merge_one, optKV, id, opEqL, opNeL, eqLR, $ls,*])
def tb : List (Key × D) := mergeD [] [(Sum.inr (Str.ofString "read"), D.int 2), (Sum.inr (Str.ofString "link"), D.int 1), (Sum.inr (Str.ofString "free"), D.int 1)]
theorem tb_read : look tb (Sum.inr wRead : Key) = some (.int 2) := rfl
theorem tb_link : look tb (Sum.inr wLink : Key) = some (.int 1) := rfl
theorem tb_free : look tb (Sum.inr wFree : Key) = some (.int 1) := rfl
theorem foldl_min : ∀ (ns : List Int) (n m : Int), m ∈ n :: ns → (∀ x ∈ n :: ns, m ≤ x) → ns.foldl min n = m
  | [], n, m, h, _ => (List.mem_singleton.mp h).symm
  | k :: r, n, m, h, g => by
    rw [List.foldl_cons]
    refine foldl_min r (min n k) m ?_ fun x hx => ?_
    · have g1 := g n (by simp)
      have g2 := g k (by simp)
      rcases List.mem_cons.mp h with z | z
      · rw [show min n k = m by omega]; simp
      · rcases List.mem_cons.mp z with z | z
        · rw [show min n k = m by omega]; simp
        · exact List.mem_cons_of_mem _ z
    · rcases List.mem_cons.mp hx with z | z
      · have g1 := g n (by simp)
        have g2 := g k (by simp)
        omega
      · exact g x (by simp [z])
theorem min_fresh (H : Hq) : ∃ n ns, ((List.range (H.length + 1)).filter fun i : Nat => !(look H (1 + (i : Int))).isSome).map (fun i : Nat => (1 + (i : Int))) = n :: ns ∧ ns.foldl min n = fresh H := by
  obtain ⟨f1, f2, f3⟩ := fresh_is H
  have le : fresh H - 1 ≤ H.length := by
    have nd : ((List.range (fresh H - 1).toNat).map fun i : Nat => (1 + (i : Int))).Nodup := by
      rw [List.Nodup, List.pairwise_map]
      exact List.nodup_range.imp fun h e => h (by omega)
    have := List.Nodup.length_le_of_subset nd (l₂ := keys H) fun x hx => by
      obtain ⟨i, hi, rfl⟩ := List.mem_map.mp hx
      have := List.mem_range.mp hi
      exact f3 _ (by omega) (by omega)
    rw [List.length_map, List.length_map, List.length_range] at this
    omega
  have mem : fresh H ∈ ((List.range (H.length + 1)).filter fun i : Nat => !(look H (1 + (i : Int))).isSome).map (fun i : Nat => (1 + (i : Int))) := by
    refine List.mem_map.mpr ⟨(fresh H - 1).toNat, List.mem_filter.mpr ⟨List.mem_range.mpr (by omega), ?_⟩, by omega⟩
    rw [show 1 + (((fresh H - 1).toNat : Nat) : Int) = fresh H by omega, look_none.mpr f2]
    rfl
  have low : ∀ x ∈ ((List.range (H.length + 1)).filter fun i : Nat => !(look H (1 + (i : Int))).isSome).map (fun i : Nat => (1 + (i : Int))), fresh H ≤ x := fun x hx => by
    obtain ⟨i, hi, rfl⟩ := List.mem_map.mp hx
    have h2 := (List.mem_filter.mp hi).2
    by_cases z : 1 + (i : Int) < fresh H
    · have := look_mem.mpr (f3 _ (by omega) z)
      rw [this] at h2
      cases h2
    · omega
  cases e : ((List.range (H.length + 1)).filter fun i : Nat => !(look H (1 + (i : Int))).isSome).map (fun i : Nat => (1 + (i : Int))) with
  | nil => rw [e] at mem; cases mem
  | cons n ns => exact ⟨n, ns, rfl, foldl_min ns n _ (e ▸ mem) (e ▸ low)⟩
theorem fn_lstep {n : Nat} (S0 : Src K mg "_law_step" s__law_step ["world", "s", "places"]) (G : GF K mg C_Stop C_Run) (F__law_stop : Fn P w K mg base 1 "_law_stop" sp_lstop []) (F__law_proc : Fn P w K mg base (4 * n + 8) "_law_proc" (sp_lproc (n + 1)) []) : Fn P w K mg base (4 * n + 9) "_law_step" (sp_lstep (n + 1)) [] := by
  refine S0.fn mono_lstep fun g fd F => fn_ok F sc__law_step (fun ds M Q E h => by obtain ⟨w, hp, pl, src, e, s, P, H', f, rfl, _⟩ := h; rfl) ⟨_, fun cdv A outer s H E hr => have hu := hr.u200
    (xss_cons (xs_set 3 sc__law_step.nd (xe_ix hu (xe_var 0) xe_str))
 (xss_cons (xs_if (xt_cmp (x_in hu) (xe_ix hu (xe_var 1) xe_int) (xe_lst (n := 3) (xa_cons xe_str (xa_cons xe_str (xa_cons xe_str xa_nil)))) rfl bl_in)
 (xss_cons (xs_set 4 sc__law_step.nd (xe_ix hu (xe_var 2) (xe_ix hu (xe_var 1) (xe_ix hu (xe_disp (xps_cons xe_str xe_int (xps_cons xe_str xe_int (xps_cons xe_str xe_int xps_nil)))) (xe_ix hu (xe_var 1) xe_int)))))
 (xss_one (xs_if (xt_cmp (x_notin hu) (xe_var 4) (xe_var 3) rfl bl_notin)
 (xss_one (xs_ret (xe_call F__law_stop (hr.mono (by first | decide | omega)) bx_takes (by rfl) (xa_cons (xe_var 0) (xa_cons xe_str xa_nil)))))
 xss_nil)))
 xss_nil)
 (xss_cons (xs_if (xt_cmp (x_eq hu) (xe_ix hu (xe_var 1) xe_int) xe_str (nomark _) bl_eq)
 (xss_one (xs_put hu (xe_ix hu (xe_var 2) (xe_ix hu (xe_var 1) xe_int)) (xe_var 2) (xe_ix hu (xe_var 1) xe_int)))
 (xss_one (xs_if (xt_cmp (x_eq hu) (xe_ix hu (xe_var 1) xe_int) xe_str (nomark _) bl_eq)
 (xss_one (xs_put hu (xe_ix hu (xe_var 3) (xe_ix hu (xe_var 2) (xe_ix hu (xe_var 1) xe_int))) (xe_var 2) (xe_ix hu (xe_var 1) xe_int)))
 (xss_one (xs_if (xt_cmp (x_eq hu) (xe_ix hu (xe_var 1) xe_int) xe_str (nomark _) bl_eq)
 (xss_one (xs_put hu (xe_ix hu (xe_var 2) (xe_ix hu (xe_var 1) xe_int)) (xe_var 3) (xe_ix hu (xe_var 2) (xe_ix hu (xe_var 1) xe_int))))
 (xss_one (xs_if (xt_cmp (x_eq hu) (xe_ix hu (xe_var 1) xe_int) xe_str (nomark _) bl_eq)
 (xss_one (xs_expr (xe_bm PySem.F.plainAttrs_dict PySem.F.slot_dict_pop PySem.F.type_dict_pop m_dpop (xe_var 3) (xa_cons (xe_ix hu (xe_var 2) (xe_ix hu (xe_var 1) xe_int)) xa_nil))))
 (xss_one (xs_if (xt_cmp (x_eq hu) (xe_ix hu (xe_var 1) xe_int) xe_str (nomark _) bl_eq)
 (xss_cons (xs_set 5 sc__law_step.nd (xe_callG bMinL_mono (c_minL rfl hu) (by rfl) G.min (by decide +kernel) (xa_cons (xe_lc (own := [("k", 8)]) (p := .nm 8) rfl sc__law_step.nd (xi_range2 (by rfl) G.range (xa_cons xe_int (xa_cons (xe_bin x_add (xe_callB c_len (by rfl) G.len (by decide +kernel) (xa_cons (xe_var 3) xa_nil)) xe_int) xa_nil))) (blkOk_by (by first | (show blkC ["world", "s", "places", "heap", "at", "address", "callee", "inner", "k", "proc", "x"] (defScope s__law_step) _ _ = true; decide +kernel) | kernel_rfl | rfl)) (fun _ _ _ _ _ => (xg_name 8 sc__law_step.nd)) (fun _ _ _ _ _ => (xts_one (xt_cmp (x_notin hu) (xe_var 8) (xe_var 3) rfl bl_notin))) (fun _ _ _ _ _ => (xe_var 8))) xa_nil)))
 (xss_cons (xs_put hu xe_int (xe_var 3) (xe_var 5))
 (xss_one (xs_put hu (xe_var 5) (xe_var 2) (xe_ix hu (xe_var 1) xe_int)))))
 (xss_cons (xs_set 6 sc__law_step.nd (xe_ix hu (xe_lc (own := [("proc", 9)]) (p := .nm 9) rfl sc__law_step.nd (xi_walk (xe_ix hu (xe_var 0) xe_str)) (blkOk_by (by first | (show blkC ["world", "s", "places", "heap", "at", "address", "callee", "inner", "k", "proc", "x"] (defScope s__law_step) _ _ = true; decide +kernel) | kernel_rfl | rfl)) (fun _ _ _ _ _ => (xg_name 9 sc__law_step.nd)) (fun _ _ _ _ _ => (xts_one (xt_cmp (x_eq hu) (xe_ix hu (xe_var 9) xe_int) (xe_ix hu (xe_var 1) xe_int) (nomark _) bl_eq))) (fun _ _ _ _ _ => (xe_var 9))) xe_int))
 (xss_cons (xs_set 7 sc__law_step.nd (xe_call F__law_proc (hr.mono (by first | decide | omega)) bx_takes (by rfl) (xa_cons (xe_var 0) (xa_cons (xe_var 6) (xa_cons (xe_lc (own := [("x", 10)]) (p := .nm 10) rfl sc__law_step.nd (xi_walk (xe_ix hu (xe_var 1) xe_int)) (blkOk_by (by first | (show blkC ["world", "s", "places", "heap", "at", "address", "callee", "inner", "k", "proc", "x"] (defScope s__law_step) _ _ = true; decide +kernel) | kernel_rfl | rfl)) (fun _ _ _ _ _ => (xg_name 10 sc__law_step.nd)) (fun _ _ _ _ _ => xts_nil) (fun _ _ _ _ _ => (xe_ix hu (xe_var 2) (xe_var 10)))) xa_nil)))))
 (xss_one (xs_for (p := .nm 8) bx_passes rfl (xi_range1 (by rfl) G.range (xa_cons (xe_callB c_len (by rfl) G.len (by decide +kernel) (xa_cons (xe_ix hu (xe_var 1) xe_int) xa_nil)) xa_nil)) (xg_name 8 sc__law_step.nd)
 (xss_one (xs_put hu (xe_ix hu (xe_var 7) (xe_ix hu (xe_ix hu (xe_var 6) xe_int) (xe_var 8))) (xe_var 2) (xe_ix hu (xe_ix hu (xe_var 1) xe_int) (xe_var 8)))))))))))))))))
 (xss_one (xs_ret xe_bl))))), fun ds M Q E h => ?_⟩
  obtain ⟨w, hp, pl, src, e, s, P, H, f, rfl, cu, hE, hv, hr, hs, h⟩ := h
  have sz : (16777216 : Nat) = sizeLine := sizeLine_eq.symm
  have hpl : M pl = some (.dk (P.map pD)) := cu.pla
  have hh : M hp = some (.dk (H.map entD)) := cu.heap
  have hw : M w = some (.dk (wKvs (src.map Pr.enc) hp f wNo)) := cu.wd
  have pf := cu.pf
  cases s with
  | copy x y =>
    unfold St.vl at hv
    unfold St.ex at h
    simp! [St.enc, hw, D.key, lw_heap]
    intro l hl
    rw [in_strs (fs := [wRead, wLink, wFree]) (mupd_same (M := M) (a := l) (o := .lst [.str wRead, .str wLink, .str wFree]))]
    have kl : Keep [] M (mupd M l (.lst [.str wRead, .str wLink, .str wFree])) := Keep.new hl
    have c1 := cu.keep kl
    have dm : decide (wCopy ∈ [wRead, wLink, wFree]) = false := by decide +kernel
    rw [dm]
    generalize mupd M l _ = M1 at c1 kl ⊢
    have p1 : M1 pl = some (.dk (P.map pD)) := c1.pla
    have h1 : M1 hp = some (.dk (H.map entD)) := c1.heap
    have w1 : M1 w = some (.dk (wKvs (src.map Pr.enc) hp f wNo)) := c1.wd
    simp! [p1, D.key, val_in hv.2]
    refine ⟨by rw [List.length_map]; omega, ?_⟩
    rw [put_p]
    exact h _ (by rw [WAt, mupd_ne cu.wp]; exact w1) (by rw [HeapAt, mupd_ne cu.hp]; exact h1) mupd_same ((kl.weaken (by simp)).trans (Keep.put (by simp))) true
  | read x y =>
    unfold St.vl at hv
    unfold St.ex at h
    simp! [St.enc, hw, D.key, lw_heap]
    intro l hl
    rw [in_strs (fs := [wRead, wLink, wFree]) (mupd_same (M := M) (a := l) (o := .lst [.str wRead, .str wLink, .str wFree]))]
    have kl : Keep [] M (mupd M l (.lst [.str wRead, .str wLink, .str wFree])) := Keep.new hl
    have c1 := cu.keep kl
    have dm : decide (wRead ∈ [wRead, wLink, wFree]) = true := by decide +kernel
    rw [dm]
    generalize mupd M l _ = M1 at c1 kl ⊢
    have p1 : M1 pl = some (.dk (P.map pD)) := c1.pla
    have h1 : M1 hp = some (.dk (H.map entD)) := c1.heap
    have w1 : M1 w = some (.dk (wKvs (src.map Pr.enc) hp f wNo)) := c1.wd
    simp! [D.key]
    intro l2 hl2
    have c2 := c1.keep (Keep.new (o := .dk []) hl2)
    have e0 : mupd (mupd M1 l2 (.dk [])) l2 (.dk (mergeD [] [(Sum.inr (Str.ofString "read"), D.int 2), (Sum.inr (Str.ofString "link"), D.int 1), (Sum.inr (Str.ofString "free"), D.int 1)])) = mupd M1 l2 (.dk tb) := mupd_mupd
    have e1 : mergeD [] [((Sum.inr (Str.ofString "read") : Key), D.int 2), (Sum.inr (Str.ofString "link"), D.int 1), (Sum.inr (Str.ofString "free"), D.int 1)] = tb := rfl
    rw [e0, e1, tb_read]
    have c2 := c1.keep (Keep.new (o := .dk tb) hl2)
    have k2 : Keep [] M (mupd M1 l2 (.dk tb)) := kl.trans (Keep.new hl2)
    generalize mupd M1 l2 (.dk tb) = M2 at c2 k2 ⊢
    have p2 : M2 pl = some (.dk (P.map pD)) := c2.pla
    have h2 : M2 hp = some (.dk (H.map entD)) := c2.heap
    have w2 : M2 w = some (.dk (wKvs (src.map Pr.enc) hp f wNo)) := c2.wd
    simp! [p2, D.key, val_in hv.2, notin_heap h2]
    refine bif_of (fun z => ?_) fun z => ?_
    · have z : (look H (val P y)).isSome = false := by simpa using z
      simp! []
      refine ⟨w, hp, _, f, wNo, _, rfl, w2, fun M3 w3 k3 => ?_⟩
      rw [if_pos rfl] at w3
      have : LAfter w hp pl (src.map Pr.enc) (keys P) M (fun M' => ∀ b, Q (.bl b) M') (.stop true) := by cases e : look H (val P y) with
        | some v => rw [e] at z; cases z
        | none => rw [e] at h; exact h
      exact this M3 f H P w3 (k3 _ _ h2 (by simp [cu.wh.symm])) (k3 _ _ p2 (by simp [cu.wp.symm])) rfl ((k2.weaken (by simp)).trans (k3.weaken (by intro x; simp; rintro rfl; simp))) false
    · have z : (look H (val P y)).isSome = true := by simpa using z
      obtain ⟨v, e⟩ := Option.isSome_iff_exists.mp z
      rw [e] at h
      have el : look (H.map entD) (Sum.inl (val P y) : Key) = some (.int v) := by rw [look_h, e]; rfl
      simp! [p2, D.key, val_in hv.2, h2, el]
      refine ⟨by rw [List.length_map]; omega, ?_⟩
      rw [put_p]
      exact h _ (by rw [WAt, mupd_ne cu.wp]; exact w2) (by rw [HeapAt, mupd_ne cu.hp]; exact h2) mupd_same ((k2.weaken (by simp)).trans (Keep.put (by simp))) true
  | link x y =>
    unfold St.vl at hv
    unfold St.ex at h
    simp! [St.enc, hw, D.key, lw_heap]
    intro l hl
    rw [in_strs (fs := [wRead, wLink, wFree]) (mupd_same (M := M) (a := l) (o := .lst [.str wRead, .str wLink, .str wFree]))]
    have kl : Keep [] M (mupd M l (.lst [.str wRead, .str wLink, .str wFree])) := Keep.new hl
    have c1 := cu.keep kl
    have dm : decide (wLink ∈ [wRead, wLink, wFree]) = true := by decide +kernel
    rw [dm]
    generalize mupd M l _ = M1 at c1 kl ⊢
    have p1 : M1 pl = some (.dk (P.map pD)) := c1.pla
    have h1 : M1 hp = some (.dk (H.map entD)) := c1.heap
    have w1 : M1 w = some (.dk (wKvs (src.map Pr.enc) hp f wNo)) := c1.wd
    simp! [D.key]
    intro l2 hl2
    have c2 := c1.keep (Keep.new (o := .dk []) hl2)
    have e0 : mupd (mupd M1 l2 (.dk [])) l2 (.dk (mergeD [] [(Sum.inr (Str.ofString "read"), D.int 2), (Sum.inr (Str.ofString "link"), D.int 1), (Sum.inr (Str.ofString "free"), D.int 1)])) = mupd M1 l2 (.dk tb) := mupd_mupd
    have e1 : mergeD [] [((Sum.inr (Str.ofString "read") : Key), D.int 2), (Sum.inr (Str.ofString "link"), D.int 1), (Sum.inr (Str.ofString "free"), D.int 1)] = tb := rfl
    rw [e0, e1, tb_link]
    have c2 := c1.keep (Keep.new (o := .dk tb) hl2)
    have k2 : Keep [] M (mupd M1 l2 (.dk tb)) := kl.trans (Keep.new hl2)
    generalize mupd M1 l2 (.dk tb) = M2 at c2 k2 ⊢
    have p2 : M2 pl = some (.dk (P.map pD)) := c2.pla
    have h2 : M2 hp = some (.dk (H.map entD)) := c2.heap
    have w2 : M2 w = some (.dk (wKvs (src.map Pr.enc) hp f wNo)) := c2.wd
    simp! [p2, D.key, val_in hv.1, notin_heap h2]
    refine bif_of (fun z => ?_) fun z => ?_
    · have z : (look H (val P x)).isSome = false := by simpa using z
      simp! []
      refine ⟨w, hp, _, f, wNo, _, rfl, w2, fun M3 w3 k3 => ?_⟩
      rw [if_pos rfl] at w3
      have : LAfter w hp pl (src.map Pr.enc) (keys P) M (fun M' => ∀ b, Q (.bl b) M') (.stop true) := by rw [if_neg (by rw [z]; exact Bool.false_ne_true)] at h; exact h
      exact this M3 f H P w3 (k3 _ _ h2 (by simp [cu.wh.symm])) (k3 _ _ p2 (by simp [cu.wp.symm])) rfl ((k2.weaken (by simp)).trans (k3.weaken (by intro x; simp; rintro rfl; simp))) false
    · have z : (look H (val P x)).isSome = true := by simpa using z
      rw [if_pos z] at h
      simp! [p2, D.key, val_in hv.1, val_in hv.2, h2]
      refine ⟨by rw [List.length_map]; have := cu.few; omega, ?_⟩
      rw [put_h]
      exact h _ (by rw [WAt, mupd_ne cu.wh]; exact w2) mupd_same (by rw [PlAt, mupd_ne cu.hp.symm]; exact p2) ((k2.weaken (by simp)).trans (Keep.put (by simp))) true
  | free x =>
    unfold St.vl at hv
    unfold St.ex at h
    simp! [St.enc, hw, D.key, lw_heap]
    intro l hl
    rw [in_strs (fs := [wRead, wLink, wFree]) (mupd_same (M := M) (a := l) (o := .lst [.str wRead, .str wLink, .str wFree]))]
    have kl : Keep [] M (mupd M l (.lst [.str wRead, .str wLink, .str wFree])) := Keep.new hl
    have c1 := cu.keep kl
    have dm : decide (wFree ∈ [wRead, wLink, wFree]) = true := by decide +kernel
    rw [dm]
    generalize mupd M l _ = M1 at c1 kl ⊢
    have p1 : M1 pl = some (.dk (P.map pD)) := c1.pla
    have h1 : M1 hp = some (.dk (H.map entD)) := c1.heap
    have w1 : M1 w = some (.dk (wKvs (src.map Pr.enc) hp f wNo)) := c1.wd
    simp! [D.key]
    intro l2 hl2
    have c2 := c1.keep (Keep.new (o := .dk []) hl2)
    have e0 : mupd (mupd M1 l2 (.dk [])) l2 (.dk (mergeD [] [(Sum.inr (Str.ofString "read"), D.int 2), (Sum.inr (Str.ofString "link"), D.int 1), (Sum.inr (Str.ofString "free"), D.int 1)])) = mupd M1 l2 (.dk tb) := mupd_mupd
    have e1 : mergeD [] [((Sum.inr (Str.ofString "read") : Key), D.int 2), (Sum.inr (Str.ofString "link"), D.int 1), (Sum.inr (Str.ofString "free"), D.int 1)] = tb := rfl
    rw [e0, e1, tb_free]
    have c2 := c1.keep (Keep.new (o := .dk tb) hl2)
    have k2 : Keep [] M (mupd M1 l2 (.dk tb)) := kl.trans (Keep.new hl2)
    generalize mupd M1 l2 (.dk tb) = M2 at c2 k2 ⊢
    have p2 : M2 pl = some (.dk (P.map pD)) := c2.pla
    have h2 : M2 hp = some (.dk (H.map entD)) := c2.heap
    have w2 : M2 w = some (.dk (wKvs (src.map Pr.enc) hp f wNo)) := c2.wd
    simp! [p2, D.key, val_in hv, notin_heap h2]
    refine bif_of (fun z => ?_) fun z => ?_
    · have z : (look H (val P x)).isSome = false := by simpa using z
      simp! []
      refine ⟨w, hp, _, f, wNo, _, rfl, w2, fun M3 w3 k3 => ?_⟩
      rw [if_pos rfl] at w3
      have : LAfter w hp pl (src.map Pr.enc) (keys P) M (fun M' => ∀ b, Q (.bl b) M') (.stop true) := by rw [if_neg (by rw [z]; exact Bool.false_ne_true)] at h; exact h
      exact this M3 f H P w3 (k3 _ _ h2 (by simp [cu.wh.symm])) (k3 _ _ p2 (by simp [cu.wp.symm])) rfl ((k2.weaken (by simp)).trans (k3.weaken (by intro x; simp; rintro rfl; simp))) false
    · have z : (look H (val P x)).isSome = true := by simpa using z
      rw [if_pos z] at h
      obtain ⟨v, e⟩ := Option.isSome_iff_exists.mp z
      have el : look (H.map entD) (Sum.inl (val P x) : Key) = some (.int v) := by rw [look_h, e]; rfl
      simp! [p2, D.key, val_in hv, h2, mDPop, el]
      rw [drop_h]
      exact h _ (by rw [WAt, mupd_ne cu.wh]; exact w2) mupd_same (by rw [PlAt, mupd_ne cu.hp.symm]; exact p2) ((k2.weaken (by simp)).trans (Keep.put (by simp))) true
  | new x =>
    unfold St.vl at hv
    unfold St.ex at h
    simp! [St.enc, hw, D.key, lw_heap]
    intro l hl
    rw [in_strs (fs := [wRead, wLink, wFree]) (mupd_same (M := M) (a := l) (o := .lst [.str wRead, .str wLink, .str wFree]))]
    have kl : Keep [] M (mupd M l (.lst [.str wRead, .str wLink, .str wFree])) := Keep.new hl
    have c1 := cu.keep kl
    have dm : decide (wNew ∈ [wRead, wLink, wFree]) = false := by decide +kernel
    rw [dm]
    generalize mupd M l _ = M1 at c1 kl ⊢
    have p1 : M1 pl = some (.dk (P.map pD)) := c1.pla
    have h1 : M1 hp = some (.dk (H.map entD)) := c1.heap
    have w1 : M1 w = some (.dk (wKvs (src.map Pr.enc) hp f wNo)) := c1.wd
    have few := cu.few
    simp! [h1, D.key, List.length_map]
    refine ⟨by omega, fun l2 hl2 => ?_⟩
    have en : ((H.length : Int) + 2 - 1).toNat = H.length + 1 := by omega
    rw [en]
    refine lc_pure (fun i : Nat => D.int (1 + (i : Int))) (fun i : Nat => D.int (1 + (i : Int))) (fun i => !(look H (1 + (i : Int))).isSome) (List.range (H.length + 1)) hl2 (fun _ _ => trivial) (by rw [List.length_range]; omega) (fun i hi M2 N sk k2 hy hn => ?_) fun M2 k2 e2 => ?_
    · simp! [notin_heap (k2 _ _ h1 (by simp))]
      refine bif_of (fun z => ?_) fun z => ?_
      · simp! []
        exact hy z _ Keep.refl
      · exact hn z _ Keep.refl
    · obtain ⟨m, ms, em, ef⟩ := min_fresh H
      have e2 : M2 l2 = some (.lst ((m :: ms).map D.int)) := by rw [e2, ← em, List.map_map]; rfl
      have c2 := c1.keep k2
      have p2 : M2 pl = some (.dk (P.map pD)) := c2.pla
      have h2 : M2 hp = some (.dk (H.map entD)) := c2.heap
      simp! []
      refine ⟨l2, m, ms, rfl, e2, ?_⟩
      rw [ef]
      simp! [h2, D.key]
      refine ⟨by rw [List.length_map]; omega, ?_⟩
      rw [put_h]
      simp! [mupd_ne cu.hp.symm, p2, D.key]
      refine ⟨by rw [List.length_map]; omega, ?_⟩
      rw [put_p]
      exact h _ (by rw [WAt, mupd_ne cu.wp, mupd_ne cu.wh]; exact c2.wd) (by rw [HeapAt, mupd_ne cu.hp]; exact mupd_same) mupd_same ((((kl.trans k2).weaken (by simp)).trans (Keep.put (by simp))).trans (Keep.put (by simp))) true
  | call nm as =>
    unfold St.vl at hv
    unfold St.ex at h
    obtain ⟨p, e', hE', pn, pl', hcf, hrk⟩ := find_e hE hv.1
    rw [hcf] at h
    have hpm := hE'.mem (p := p) List.mem_cons_self
    obtain ⟨pl1, pl2⟩ := hE.ps p hpm
    simp! [St.enc, hw, D.key, lw_heap]
    intro l hl
    rw [in_strs (fs := [wRead, wLink, wFree]) (mupd_same (M := M) (a := l) (o := .lst [.str wRead, .str wLink, .str wFree]))]
    have kl : Keep [] M (mupd M l (.lst [.str wRead, .str wLink, .str wFree])) := Keep.new hl
    have c1 := cu.keep kl
    have dm : decide (wCall ∈ [wRead, wLink, wFree]) = false := by decide +kernel
    rw [dm]
    generalize mupd M l _ = M1 at c1 kl ⊢
    have p1 : M1 pl = some (.dk (P.map pD)) := c1.pla
    have h1 : M1 hp = some (.dk (H.map entD)) := c1.heap
    have w1 : M1 w = some (.dk (wKvs (src.map Pr.enc) hp f wNo)) := c1.wd
    simp! [w1, D.key, lw_src]
    intro l2 hl2
    have hfew := hE.few
    refine lc_pure Pr.enc Pr.enc (fun p => decide (p.nm = nm)) src hl2 (fun _ _ => trivial) (by omega) (fun p hp M2 N sk k2 hy hn => ?_) fun M2 k2 e2 => ?_
    · simp! [Pr.enc]
      refine bif_dec (fun z => ?_) fun z => ?_
      · simp! []
        exact hy (decide_eq_true z) _ Keep.refl
      · exact hn (decide_eq_false z) _ Keep.refl
    have hd := filter_one hE.nd hpm
    rw [pn] at hd
    cases ef : src.filter fun p => decide (p.nm = nm) with
    | nil => rw [ef] at hd; cases hd
    | cons q r =>
    rw [ef] at hd e2
    cases hd
    have ix : atI ((p :: r).map Pr.enc) 0 = some p.enc := atI_zero
    generalize (p :: r).map Pr.enc = L at e2 ix
    have c2 := c1.keep k2
    have p2 : M2 pl = some (.dk (P.map pD)) := c2.pla
    simp! [e2, ix]
    intro l3 hl3
    refine lc_pure D.str (fun a => D.int (val P a)) (fun _ => true) as hl3 (fun _ _ => trivial) (by have := pl'; omega) (fun a ha M3 N sk k3 hy _ => ?_) fun M3 k3 e3 => ?_
    · simp! [k3 _ _ p2 (by simp), D.key, look_val (hv.2 a ha)]
      exact hy rfl _ Keep.refl
    rw [filter_tt] at e3
    have e3 : M3 l3 = some (.lst ((as.map (val P)).map D.int)) := by rw [e3, List.map_map]; rfl
    have c3 := c2.keep k3
    have k03 : Keep [] M M3 := (kl.trans k2).trans k3
    have p3 : M3 pl = some (.dk (P.map pD)) := c3.pla
    simp! []
    refine ⟨w, hp, l3, src, e', p, as.map (val P), H, f, rfl, c3.wd, c3.heap, e3, c3.wh, by rw [List.length_map]; exact pl'.symm, c3.nd, c3.few, hE', by unfold St.rk at hr; omega, ?_⟩
    have vl : (as.map (val P)).length = p.ps.length := by rw [List.length_map]; exact pl'.symm
    cases hx : runP (callOf e') p (as.map (val P)) H f with
    | ok I H4 f4 =>
      have ik : keys I = nil_ :: (p.ps ++ p.ls) := by
        have := bdL (cf_ok hE'.ok.2.2) p.body hE'.ok.1 (start p (as.map (val P))) H f (start_keys vl hE'.ok.2.1) cu.nd
        unfold runP at hx
        rw [hx] at this
        exact this.1
      rw [hx] at h
      intro M4 inner fi r4 h4 i4 k4
      have p4 : M4 pl = some (.dk (P.map pD)) := k4 _ _ p3 (by simp [cu.wp.symm, cu.hp.symm])
      have i4' : M4 inner = some (.dk (I.map pD)) := i4
      have ipl : inner ≠ pl := fun e => by rw [e, p3] at fi; cases fi
      have al : as.length < 1000 := by have := pl'; omega
      simp! [List.length_map]
      refine ⟨by omega, ?_⟩
      refine loop_inv (fun i : Nat => D.int (0 + (i : Int))) (fun rest env M' => ∃ (i : Nat) (P' : Pl) (d8 : Option D), rest = List.range' i (as.length - i) ∧ i ≤ as.length ∧ env = [some (.ob w), some (.tup [.str wCall, .str nm, .tup (as.map D.str)]), some (.ob pl), some (.ob hp), none, none, some p.enc, some (.ob inner), d8, none, none] ∧ M' pl = some (.dk (P'.map pD)) ∧ P' = setAll P ((as.zip (p.ps.map (val I))).take i) ∧ keys P' = keys P ∧ Keep [pl] M4 M') (fun _ _ _ _ => trivial) ?_ ?_ (List.range as.length) _ _ ⟨0, P, _, by rw [List.range_eq_range']; simp, by omega, rfl, p4, rfl, rfl, Keep.refl⟩
      · rintro j r env M5 N ⟨i, P', d8, e1, il, rfl, h5, e5, kk, k5⟩ hN
        have hi : i < as.length := by
          by_cases z : i < as.length
          · exact z
          · rw [show as.length - i = 0 by omega] at e1; cases e1
        rw [range_cons hi] at e1
        injection e1 with e1 e3
        subst e1
        have hj : j < p.ps.length := by omega
        have ax : atI (as.map D.str) (j : Int) = some (.str as[j]) := by rw [atI_natI (by rw [List.length_map]; exact hi), List.getElem_map]
        have ap : atI (p.ps.map D.str) (j : Int) = some (.str p.ps[j]) := by rw [atI_natI (by rw [List.length_map]; exact hj), List.getElem_map]
        have ak := hv.2 as[j] (List.getElem_mem hi)
        have lp : P'.length = P.length := by have := congrArg List.length kk; rw [List.length_map, List.length_map] at this; exact this
        have i5 : M5 inner = some (.dk (I.map pD)) := k5 _ _ i4' (by simpa using ipl)
        simp! [Pr.enc, i5, h5, D.key, Int.zero_add, ax, ap, look_val (P := I) (x := p.ps[j]) (by rw [ik]; simp)]
        refine ⟨by rw [List.length_map]; omega, ?_⟩
        rw [put_p]
        refine hN _ _ ⟨j + 1, setL P' as[j] (val I p.ps[j]), _, e3, by omega, rfl, mupd_same, ?_, by rw [keys_set (by rw [kk]; exact ak), kk], k5.trans (Keep.put (by simp))⟩
        rw [zip_take (by rw [List.length_map]; omega) hi, setAll_app, ← e5, List.getElem_map]; rfl
      · rintro env M5 ⟨i, P', d8, e1, il, rfl, h5, e5, kk, k5⟩
        have ie : i = as.length := by
          by_cases z : i < as.length
          · rw [range_cons z] at e1; cases e1
          · omega
        subst ie
        rw [List.take_of_length_le (by rw [List.length_zip]; omega)] at e5
        have k15 : Keep [w, hp, pl] M M5 := ((k03.weaken (by simp)).trans (k4.weaken (by intro x; simp; rintro (h | h) <;> simp [h]))).trans (k5.weaken (by intro x; simp; rintro rfl; simp))
        have w5 : WAt M5 w (src.map Pr.enc) hp (f4 : Int) wNo := k5 _ _ r4 (by simpa using cu.wp)
        have h5' : HeapAt M5 hp H4 := k5 _ _ h4 (by simpa using cu.hp)
        simp! []
        exact h M5 w5 h5' (by rw [e5] at h5; exact h5) k15 true
    | stop x =>
      rw [hx] at h
      intro M4 inner f4 H4 I fi r4 h4 i4 ik k4
      have p4 : M4 pl = some (.dk (P.map pD)) := k4 _ _ p3 (by simp [cu.wp.symm, cu.hp.symm])
      have i4' : M4 inner = some (.dk (I.map pD)) := i4
      have ipl : inner ≠ pl := fun e => by rw [e, p3] at fi; cases fi
      have al : as.length < 1000 := by have := pl'; omega
      simp! [List.length_map]
      refine ⟨by omega, ?_⟩
      refine loop_inv (fun i : Nat => D.int (0 + (i : Int))) (fun rest env M' => ∃ (i : Nat) (P' : Pl) (d8 : Option D), rest = List.range' i (as.length - i) ∧ i ≤ as.length ∧ env = [some (.ob w), some (.tup [.str wCall, .str nm, .tup (as.map D.str)]), some (.ob pl), some (.ob hp), none, none, some p.enc, some (.ob inner), d8, none, none] ∧ M' pl = some (.dk (P'.map pD)) ∧ P' = setAll P ((as.zip (p.ps.map (val I))).take i) ∧ keys P' = keys P ∧ Keep [pl] M4 M') (fun _ _ _ _ => trivial) ?_ ?_ (List.range as.length) _ _ ⟨0, P, _, by rw [List.range_eq_range']; simp, by omega, rfl, p4, rfl, rfl, Keep.refl⟩
      · rintro j r env M5 N ⟨i, P', d8, e1, il, rfl, h5, e5, kk, k5⟩ hN
        have hi : i < as.length := by
          by_cases z : i < as.length
          · exact z
          · rw [show as.length - i = 0 by omega] at e1; cases e1
        rw [range_cons hi] at e1
        injection e1 with e1 e3
        subst e1
        have hj : j < p.ps.length := by omega
        have ax : atI (as.map D.str) (j : Int) = some (.str as[j]) := by rw [atI_natI (by rw [List.length_map]; exact hi), List.getElem_map]
        have ap : atI (p.ps.map D.str) (j : Int) = some (.str p.ps[j]) := by rw [atI_natI (by rw [List.length_map]; exact hj), List.getElem_map]
        have ak := hv.2 as[j] (List.getElem_mem hi)
        have lp : P'.length = P.length := by have := congrArg List.length kk; rw [List.length_map, List.length_map] at this; exact this
        have i5 : M5 inner = some (.dk (I.map pD)) := k5 _ _ i4' (by simpa using ipl)
        simp! [Pr.enc, i5, h5, D.key, Int.zero_add, ax, ap, look_val (P := I) (x := p.ps[j]) (by rw [ik]; simp)]
        refine ⟨by rw [List.length_map]; omega, ?_⟩
        rw [put_p]
        refine hN _ _ ⟨j + 1, setL P' as[j] (val I p.ps[j]), _, e3, by omega, rfl, mupd_same, ?_, by rw [keys_set (by rw [kk]; exact ak), kk], k5.trans (Keep.put (by simp))⟩
        rw [zip_take (by rw [List.length_map]; omega) hi, setAll_app, ← e5, List.getElem_map]; rfl
      · rintro env M5 ⟨i, P', d8, e1, il, rfl, h5, e5, kk, k5⟩
        have ie : i = as.length := by
          by_cases z : i < as.length
          · rw [range_cons z] at e1; cases e1
          · omega
        subst ie
        rw [List.take_of_length_le (by rw [List.length_zip]; omega)] at e5
        have k15 : Keep [w, hp, pl] M M5 := ((k03.weaken (by simp)).trans (k4.weaken (by intro x; simp; rintro (h | h) <;> simp [h]))).trans (k5.weaken (by intro x; simp; rintro rfl; simp))
        have w5 : WAt M5 w (src.map Pr.enc) hp f4 (word x) := k5 _ _ r4 (by simpa using cu.wp)
        have h5' : HeapAt M5 hp H4 := k5 _ _ h4 (by simpa using cu.hp)
        simp! []
        exact h M5 f4 H4 P' w5 h5' h5 kk k15 true
  | wh t x y b => exact (show False from hs).elim
  | ite t x y b d => exact (show False from hs).elim
end K10

set_option maxHeartbeats 4000000
namespace K10
open PySem PySem.Spec PyProof.Rows L2 PL SX
variable {P : Program} {w : World} {K : PySem.W.Frag} {mg : Str → Option Value} {base : Heap} {C_Stop C_Run : Addr}
local macro_rules | `(tactic| simp! [$ls,*]) => `(tactic| simp only [s_fld, s_fldK, s_insAt, s_optD, s_obAt, s_fput, s_fputK1, s_fputK2, s_faug, s_faugK1, s_faugK2, s_faugK3, s_meth, s_methK1, s_methK2, s_make, s_makeK, s_makeK2, s_dead, s_tryN, noX_nx, noX_rt, noX_bk, noX_ct, mSplit, opMulS, s_enum, s_enumK, s_sortBy, s_sortByK, look_nil, look_cons, putFD_nil, putFD_cons, List.append_nil, to_nx, to_rt, to_bk, to_ct, to_ex, lp_nx, lp_rt, lp_bk, lp_ct, lp_ex, ret_nx, ret_rt, ret_ex, s_exK, s_bif1, s_bif0, s_optB, s_optE, s_nxD, s_ifK, s_asgN, s_asgT, s_asgL, b_nil, b_nm, b_tp, s_next, s_seq, s_drop, s_ret, s_retN, s_ifS, s_asg, s_brk, s_cont, s_put, s_put1, s_put2, s_put3, s_aug, s_augV, s_augK, s_augK2, s_bin, s_bin1, s_bin2, s_var, s_varK, s_C, s_cb, s_cbK, s_call, s_callK, s_m, s_m1, s_m2, s_nil, s_cons, s_cons1, s_cons2, s_tup, s_tupK, s_lst, s_lstK, s_truth, s_trK, s_tK, s_eK, s_cK, s_and, s_andK, s_or, s_orK, s_not, s_notK, s_ife, s_ifeK, s_andV, s_orV, s_andvK, s_orvK, s_andvK2, s_orvK2, s_notV, s_notvK, s_blK, s_neg, s_negK, s_sl, s_sl1, s_sl2, s_sl3, s_noPart, s_part, s_partK, s_rev, s_revK, s_for, s_forK, s_lc, s_lcK, s_yes, s_walk, s_walkT, s_walkS, s_walkA, s_walkL, s_walkR, s_rng1, s_rng2, s_rng1K, s_rng2K, s_callL, s_callLK, s_callLO, s_clK, s_raise, r_val, r_new, r_put, s_whK, s_lcY, s_lcT, s_lcE, s_cg, s_cgK, s_rng3, s_rng3K, s_lcB, s_lcS, wipeD, Pat.bind, seqOf, rg, s_dict0, s_sortSet, s_sortSetK, q_is_tuple, q_is_str, q_is_int, q_is_bool, q_is_list, q_isR, ofS_inj, String.reduceEq, q_eqI, q_neI, q_eqS, q_neS, decide_true, decide_false, Int.reduceEq, reduceCtorEq, i_NoneType_tuple, i_NoneType_str, i_NoneType_int, i_NoneType_bool, i_NoneType_list, i_bool_tuple, i_bool_str, i_bool_int, i_bool_bool, i_bool_list, i_int_tuple, i_int_str, i_int_int, i_int_bool, i_int_list, i_str_tuple, i_str_str, i_str_int, i_str_bool, i_str_list, i_tuple_tuple, i_tuple_str, i_tuple_int, i_tuple_bool, i_tuple_list, i_list_tuple, i_list_str, i_list_int, i_list_bool, i_list_list, i_dict_tuple, i_dict_str, i_dict_int, i_dict_bool, i_dict_list, tyN, startD, mupd_same, mupd_ne, ne_eq, not_false_eq_true, List.map_cons, List.map_nil, List.length_cons, List.length_nil, List.replicate_succ, List.replicate_zero, Nat.zero_add, Nat.reduceAdd, Nat.reduceSub, Int.cast_ofNat_Int, List.cons_append, List.nil_append, List.getElem?_cons_zero, List.getElem?_cons_succ, List.set_cons_zero, List.set_cons_succ, opIx, atI_cons, ixN, opPut, opAdd, opSub, opMul, opFdiv, opMod, opPow, opLt, opLe, opGt, opGe, opIs, opIsNot, D.isNon, truth, bLen, bAbs, bInt, bTuple, bList, isTy, mAppend, mExtend, mPop, Int.reduceLE, Int.reduceLT, Int.reduceToNat, Int.reduceNeg, Int.reduceNe, Option.bind_some, if_true, if_false, ite_true, ite_false, true_and, and_true, Bool.not_true, Bool.not_false, opIadd, Nat.reduceLT, Nat.reduceLeDiff, Int.ofNat_lt, s_lc2, s_lc2J, s_lc2B, s_lc2T, s_lc2E, s_raiseF, s_raiseFK, s_tryF, s_xf, s_xfK, s_xfAt, s_lenSet, s_lenSetK, opMulT, mInsert, s_zip, s_zipKL, s_zipKT, zipD, s_dpNil, s_dpCons, s_dpK1, s_dpK2, s_dpK3, s_disp, s_dispK, s_optKV, kvOf, s_dc, s_dcK, s_keys, s_lockK, s_sortIt, mGet, mDPop, dgetR, bDictC, bTupC, opEqD, opNeD, eqDR, D.key, merge_one, optKV, id, opEqL, opNeL, eqLR, $ls,*])
theorem word_ne {x : Bool} : word x ≠ wNo := by cases x <;> decide +kernel
theorem spent_stop {f : Int} {x : Bool} : spentE f (word x) = word x := if_neg fun q => word_ne q.1
theorem spent_cut {f : Nat} (h : f = 0) : spentE (f : Int) wNo = wCut := if_pos ⟨rfl, by omega⟩
theorem spent_go {f : Nat} (h : f ≠ 0) : spentE (f : Int) wNo = wNo := if_neg fun q => h (by omega)
theorem cut_ne : ¬ wCut = wNo := by decide +kernel
theorem fn_lbody {n : Nat} (S0 : Src K mg "_law_body" s__law_body ["world", "body", "places"]) (G : GF K mg C_Stop C_Run) (F__law_spent : Fn P w K mg base 1 "_law_spent" sp_spent []) (F__law_is_met : Fn P w K mg base 1 "_law_is_met" sp_met []) (F__law_step : Fn P w K mg base (4 * n + 9) "_law_step" (sp_lstep (n + 1)) []) (F__law_body : Fn P w K mg base (4 * n + 7) "_law_body" (sp_lbody n) []) : Fn P w K mg base (4 * n + 11) "_law_body" (sp_lbody (n + 1)) [] := by
  refine S0.fn mono_lbody fun g fd F => fn_ok F sc__law_body (fun ds M Q E h => by obtain ⟨w, hp, pl, src, e, b, P, H', f, rfl, _⟩ := h; rfl) ⟨_, fun cdv A outer s H E hr => have hu := hr.u200
    (xss_one (xs_for (p := .nm 3) bx_passes rfl (xi_walk (xe_var 1)) (xg_name 3 sc__law_body.nd)
 (xss_cons (xs_if (xt_not (xt_val (xe_call F__law_spent (hr.mono (by first | decide | omega)) bx_takes (by rfl) (xa_cons (xe_var 0) xa_nil))))
 (xss_one xs_retN)
 xss_nil)
 (xss_cons (xs_if (xt_cmp (x_eq hu) (xe_ix hu (xe_var 3) xe_int) xe_str (nomark _) bl_eq)
 (xss_one (xs_expr (xe_call F__law_body (hr.mono (by first | decide | omega)) bx_takes (by rfl) (xa_cons (xe_var 0) (xa_cons (xe_ix hu (xe_var 3) (xe_bin x_add xe_int (xe_callTy c_int (by rfl) G.int (by decide +kernel) (xa_cons (xe_not (xe_call F__law_is_met (hr.mono (by first | decide | omega)) bx_takes (by rfl) (xa_cons (xe_ix hu (xe_var 3) xe_int) (xa_cons (xe_var 2) xa_nil)))) xa_nil)))) (xa_cons (xe_var 2) xa_nil))))))
 (xss_one (xs_if (xt_cmp (x_eq hu) (xe_ix hu (xe_var 3) xe_int) xe_str (nomark _) bl_eq)
 (xss_one (xs_for (p := .nm 4) bx_passes rfl (xi_range1 (by rfl) G.range (xa_cons xe_int xa_nil)) (xg_name 4 sc__law_body.nd)
 (xss_one (xs_if (xt_wh (xw_and (xt_cmp (x_eq hu) (xe_ix hu (xe_var 0) xe_str) xe_str (nomark _) bl_eq) (xw_and1 (xt_val (xe_call F__law_is_met (hr.mono (by first | decide | omega)) bx_takes (by rfl) (xa_cons (xe_ix hu (xe_var 3) xe_int) (xa_cons (xe_var 2) xa_nil)))))))
 (xss_cons (xs_expr (xe_call F__law_body (hr.mono (by first | decide | omega)) bx_takes (by rfl) (xa_cons (xe_var 0) (xa_cons (xe_ix hu (xe_var 3) xe_int) (xa_cons (xe_var 2) xa_nil)))))
 (xss_one (xs_expr (xe_call F__law_spent (hr.mono (by first | decide | omega)) bx_takes (by rfl) (xa_cons (xe_var 0) xa_nil)))))
 xss_nil))))
 (xss_one (xs_expr (xe_call F__law_step (hr.mono (by first | decide | omega)) bx_takes (by rfl) (xa_cons (xe_var 0) (xa_cons (xe_var 3) (xa_cons (xe_var 2) xa_nil)))))))))
 (xss_one (xs_if (xt_cmp (x_ne hu) (xe_ix hu (xe_var 0) xe_str) xe_str (nomark _) bl_ne)
 (xss_one xs_retN)
 xss_nil)))))), fun ds M Q E h => ?_⟩
  obtain ⟨w, hp, pl, src, e, b, P, H, f, rfl, cu, hE, hv, hr, h⟩ := h
  have sz : (16777216 : Nat) = sizeLine := sizeLine_eq.symm
  simp! []
  have eb := encL_map b
  rw [eb]
  refine loop_inv St.enc (fun r env M' => ∃ d3 d4 P' H' f', env = [some (.ob w), some (.tup (b.map St.enc)), some (.ob pl), d3, d4] ∧ LCur M' w hp pl (src.map Pr.enc) P' H' f' ∧ keys P' = keys P ∧ Keep [w, hp, pl] M M' ∧ H'.length + f' ≤ H.length + f ∧ exL (callOf e) b P H f = exL (callOf e) r P' H' f' ∧ vlL (sgOf e) (keys P) r ∧ rkL (rkOf e) r < n + 1) (fun _ _ _ _ => trivial) ?_ ?_ b _ _ ⟨none, none, P, H, f, rfl, cu, rfl, Keep.refl, Nat.le_refl _, rfl, hv, hr⟩
  · rintro s r env M1 N ⟨d3, d4, P1, H1, f1, rfl, c1, kp, k1, b1, e1, v1, r1⟩ hN
    unfold vlL at v1
    unfold rkL at r1
    have f1b : f1 < 900 := by have := c1.few; omega
    generalize hT : dIfS (dTruth (dBin opNe _ _)) _ _ = T
    simp! []
    refine ⟨w, hp, _, (f1 : Int), wNo, rfl, c1.wd, fun M2 w2 k2 => ?_⟩
    by_cases z : f1 = 0
    · rw [spent_cut z] at w2 ⊢
      have eo : exL (callOf e) b P H f = .stop false := by rw [e1, exL_cut z]
      rw [eo] at h
      simp! [decide_eq_false cut_ne]
      exact h M2 _ H1 P1 w2 (k2 _ _ c1.heap (by simpa using c1.wh.symm)) (k2 _ _ c1.pla (by simpa using c1.wp.symm)) kp (k1.trans (k2.weaken (by intro x; simp; rintro rfl; simp)))
    rw [spent_go z] at w2 ⊢
    have w2 : WAt M2 w (src.map Pr.enc) hp ((f1 - 1 : Nat) : Int) wNo := by rw [show ((f1 - 1 : Nat) : Int) = (f1 : Int) - 1 by omega]; exact w2
    have c2 : LCur M2 w hp pl (src.map Pr.enc) P1 H1 (f1 - 1) := c1.put w2 (k2 _ _ c1.heap (by simpa using c1.wh.symm)) (k2 _ _ c1.pla (by simpa using c1.wp.symm)) c1.nd (by omega) rfl
    have k12 : Keep [w, hp, pl] M M2 := k1.trans (k2.weaken (by intro x; simp; rintro rfl; simp))
    have eo : exL (callOf e) b P H f = thenO (s.ex (callOf e) P1 H1 (f1 - 1)) (exL (callOf e) r) := by rw [e1, exL_cons z]
    have v1' : s.vl (sgOf e) (keys P1) := by rw [kp]; exact v1.1
    have bds := St.bd (cf_ok hE.ok) s v1' P1 H1 (f1 - 1) rfl c1.nd
    have good : ∀ P' H' f' M' d, s.ex (callOf e) P1 H1 (f1 - 1) = .ok P' H' f' → WAt M' w (src.map Pr.enc) hp (f' : Int) wNo → HeapAt M' hp H' → PlAt M' pl P' → Keep [w, hp, pl] M2 M' → T ((retEnds Q E).lp N) [some (.ob w), some (.tup (b.map St.enc)), some (.ob pl), some s.enc, d] M' := fun P' H' f' M' d hx q1 q2 q3 q4 => by
      rw [hx] at bds eo
      obtain ⟨g1, g2, g3, g4⟩ := bds
      have q1' : M' w = some (.dk (wKvs (src.map Pr.enc) hp f' wNo)) := q1
      rw [← hT]
      simp! [q1', D.key, lw_end]
      exact hN _ _ ⟨_, _, P', H', f', rfl, c1.put q1 q2 q3 g2 (by omega) g1, by rw [g1, kp], k12.trans q4, by omega, eo, v1.2, by omega⟩
    have bad : ∀ x M' f2 H2 P2 d, s.ex (callOf e) P1 H1 (f1 - 1) = .stop x → WAt M' w (src.map Pr.enc) hp f2 (word x) → HeapAt M' hp H2 → PlAt M' pl P2 → keys P2 = keys P1 → Keep [w, hp, pl] M2 M' → T ((retEnds Q E).lp N) [some (.ob w), some (.tup (b.map St.enc)), some (.ob pl), some s.enc, d] M' := fun x M' f2 H2 P2 d hx q1 q2 q3 q4 q5 => by
      rw [hx] at eo
      rw [eo] at h
      have q1' : M' w = some (.dk (wKvs (src.map Pr.enc) hp f2 (word x))) := q1
      rw [← hT]
      simp! [q1', D.key, lw_end, decide_eq_false (word_ne (x := x))]
      exact h M' f2 H2 P2 q1 q2 q3 (by rw [q4, kp]) (k12.trans q5)
    have step : s.plain → sp_lstep (n + 1) [.ob w, s.enc, .ob pl] M2 (fun d M' => True ∧ T ((retEnds Q E).lp N) [some (.ob w), some (.tup (b.map St.enc)), some (.ob pl), some s.enc, d4] M') E := fun hs => by
      refine ⟨w, hp, pl, src, e, s, P1, H1, f1 - 1, rfl, c2, hE, v1', by omega, hs, ?_⟩
      cases hx : s.ex (callOf e) P1 H1 (f1 - 1) with
      | ok P' H' f' => exact fun M' q1 q2 q3 q4 _ => ⟨trivial, good P' H' f' M' _ hx q1 q2 q3 q4⟩
      | stop x => exact fun M' f2 H2 P2 q1 q2 q3 q4 q5 _ => ⟨trivial, bad x M' f2 H2 P2 _ hx q1 q2 q3 q4 q5⟩
    simp! [decide_eq_true (rfl : wNo = wNo)]
    cases s with
    | wh t x y bb =>
      unfold St.vl at v1'
      obtain ⟨hx, hy, hb⟩ := v1'
      have rb : rkL (rkOf e) bb < n := by have := r1; unfold St.rk at this; omega
      have hw : (St.wh t x y bb).ex (callOf e) P1 H1 (f1 - 1) = whileF (exL (callOf e) bb) t x y (f1 - 1 + 1) P1 H1 (f1 - 1) := by rw [St.ex]
      simp! [St.enc]
      refine ⟨by decide, ?_⟩
      have sx : (St.wh t x y bb).ex (callOf e) P1 H1 (f1 - 1) = (St.wh t x y bb).ex (callOf e) P1 H1 (f1 - 1) := rfl
      generalize hsx : (St.wh t x y bb).ex (callOf e) P1 H1 (f1 - 1) = o at hw good bad
      refine loop_inv (fun i : Nat => D.int (0 + (i : Int))) (fun rest env M' => ∃ d5, env = [some (.ob w), some (.tup (b.map St.enc)), some (.ob pl), some (.tup [.str wWhile, tstD t x y, .tup (encL bb)]), d5] ∧
        ((∃ k P' H' f', LCur M' w hp pl (src.map Pr.enc) P' H' f' ∧ keys P' = keys P1 ∧ Keep [w, hp, pl] M2 M' ∧ f' < k ∧ f' < rest.length ∧ whileF (exL (callOf e) bb) t x y k P' H' f' = o) ∨
          (∃ P' H' f', o = .ok P' H' f' ∧ tst t x y P' = false ∧ keys P' = keys P1 ∧ WAt M' w (src.map Pr.enc) hp (f' : Int) wNo ∧ HeapAt M' hp H' ∧ PlAt M' pl P' ∧ Keep [w, hp, pl] M2 M') ∨
          ∃ x f2 H2 P2, o = .stop x ∧ WAt M' w (src.map Pr.enc) hp f2 (word x) ∧ HeapAt M' hp H2 ∧ PlAt M' pl P2 ∧ keys P2 = keys P1 ∧ Keep [w, hp, pl] M2 M')) (fun _ _ _ _ => trivial) ?_ ?_ (List.range 999) _ _ ⟨_, rfl, .inl ⟨_, P1, H1, f1 - 1, c2, rfl, Keep.refl, Nat.lt_succ_self _, by rw [List.length_range]; omega, hw.symm⟩⟩
      · rintro j rest env M3 N2 ⟨d5, rfl, st⟩ hN2
        rcases st with ⟨k, P3, H3, f3, c3, kp3, k3, lt, ltr, eq3⟩ | ⟨P3, H3, f3, eo3, tf, kp3, w3, h3, p3, k3⟩ | ⟨x3, f3, H3, P3, eo3, w3, h3, p3, kp3, k3⟩
        · obtain ⟨k, rfl⟩ : ∃ j, k = j + 1 := ⟨k - 1, by omega⟩
          have w3' : M3 w = some (.dk (wKvs (src.map Pr.enc) hp f3 wNo)) := c3.wd
          simp! [w3', D.key, lw_end]
          refine ⟨pl, t, x, y, P3, rfl, c3.pla, by rw [kp3]; exact hx, by rw [kp3]; exact hy, fun M4 k4 => ?_⟩
          have c4 := c3.keep k4
          have k24 : Keep [w, hp, pl] M2 M4 := k3.trans (k4.weaken (by simp))
          simp! []
          refine bif_of (fun z => ?_) fun z => ?_
          · rw [while_yes z] at eq3
            simp! []
            refine ⟨w, hp, pl, src, e, bb, P3, H3, f3, rfl, c4, hE, by rw [kp3]; exact hb, rb, ?_⟩
            have bd3 := bdL (cf_ok hE.ok) bb (by rw [kp3]; exact hb) P3 H3 f3 rfl c4.nd
            cases hx5 : exL (callOf e) bb P3 H3 f3 with
            | stop x5 =>
              rw [hx5] at eq3
              intro M5 f5 H5 P5 q1 q2 q3 q4 q5
              simp! []
              refine ⟨w, hp, _, f5, word x5, rfl, q1, fun M6 w6 k6 => ?_⟩
              rw [spent_stop] at w6
              simp! []
              exact hN2 _ _ ⟨_, rfl, .inr (.inr ⟨x5, f5 - 1, H5, P5, eq3.symm, w6, k6 _ _ q2 (by simpa using c1.wh.symm), k6 _ _ q3 (by simpa using c1.wp.symm), by rw [q4, kp3], (k24.trans q5).trans (k6.weaken (by intro x; simp; rintro rfl; simp))⟩)⟩
            | ok P5 H5 f5 =>
              rw [hx5] at eq3 bd3
              obtain ⟨g1, g2, g3, g4⟩ := bd3
              intro M5 q1 q2 q3 q4
              have c5 := c4.put q1 q2 q3 g2 g3 g1
              simp! []
              refine ⟨w, hp, _, (f5 : Int), wNo, rfl, q1, fun M6 w6 k6 => ?_⟩
              have h6 := k6 _ _ q2 (by simpa using c1.wh.symm)
              have p6 := k6 _ _ q3 (by simpa using c1.wp.symm)
              have k26 : Keep [w, hp, pl] M2 M6 := (k24.trans q4).trans (k6.weaken (by intro x; simp; rintro rfl; simp))
              by_cases z5 : f5 = 0
              · rw [spent_cut z5] at w6
                have : o = .stop false := by
                  rw [← eq3]; show (if f5 = 0 then _ else _) = _; rw [if_pos z5]
                simp! []
                exact hN2 _ _ ⟨_, rfl, .inr (.inr ⟨false, _, H5, P5, this, w6, h6, p6, by rw [g1, kp3], k26⟩)⟩
              · rw [spent_go z5, show (f5 : Int) - 1 = ((f5 - 1 : Nat) : Int) by omega] at w6
                have : whileF (exL (callOf e) bb) t x y k P5 H5 (f5 - 1) = o := by
                  rw [← eq3]; show _ = (if f5 = 0 then _ else _); rw [if_neg z5]
                simp! []
                exact hN2 _ _ ⟨_, rfl, .inl ⟨k, P5, H5, f5 - 1, c5.put w6 h6 p6 g2 (by omega) rfl, by rw [g1, kp3], k26, by omega, by simp only [List.length_cons] at ltr; omega, this⟩⟩
          · rw [while_no z] at eq3
            simp! []
            exact hN2 _ _ ⟨_, rfl, .inr (.inl ⟨P3, H3, f3, eq3.symm, z, kp3, c4.wd, c4.heap, c4.pla, k24⟩)⟩
        · have w3' : M3 w = some (.dk (wKvs (src.map Pr.enc) hp f3 wNo)) := w3
          simp! [w3', D.key, lw_end]
          refine ⟨pl, t, x, y, P3, rfl, p3, by rw [kp3]; exact hx, by rw [kp3]; exact hy, fun M4 k4 => ?_⟩
          rw [tf]
          simp! []
          exact hN2 _ _ ⟨_, rfl, .inr (.inl ⟨P3, H3, f3, eo3, tf, kp3, k4 _ _ w3 (by simp), k4 _ _ h3 (by simp), k4 _ _ p3 (by simp), k3.trans (k4.weaken (by simp))⟩)⟩
        · have w3' : M3 w = some (.dk (wKvs (src.map Pr.enc) hp f3 (word x3))) := w3
          simp! [w3', D.key, lw_end, decide_eq_false (word_ne (x := x3))]
          exact hN2 _ _ ⟨_, rfl, .inr (.inr ⟨x3, f3, H3, P3, eo3, w3, h3, p3, kp3, k3⟩)⟩
      · rintro env M3 ⟨d5, rfl, st⟩
        rcases st with ⟨k, P3, H3, f3, c3, kp3, k3, lt, ltr, eq3⟩ | ⟨P3, H3, f3, eo3, tf, kp3, w3, h3, p3, k3⟩ | ⟨x3, f3, H3, P3, eo3, w3, h3, p3, kp3, k3⟩
        · exact absurd ltr (by simp)
        · exact good P3 H3 f3 M3 _ eo3 w3 h3 p3 k3
        · exact bad x3 M3 f3 H3 P3 _ eo3 w3 h3 p3 kp3 k3
    | ite t x y b1 b2 =>
      unfold St.vl at v1'
      obtain ⟨hx, hy, hb1, hb2⟩ := v1'
      have rb : rkL (rkOf e) b1 < n ∧ rkL (rkOf e) b2 < n := by have := r1; unfold St.rk at this; omega
      simp! [St.enc]
      refine ⟨pl, t, x, y, P1, rfl, c2.pla, hx, hy, fun M4 k4 => ?_⟩
      have c4 := c2.keep k4
      cases z : tst t x y P1 with
      | true =>
        have hw : (St.ite t x y b1 b2).ex (callOf e) P1 H1 (f1 - 1) = exL (callOf e) b1 P1 H1 (f1 - 1) := by rw [St.ex, if_pos z]
        simp! []
        refine ⟨trivial, w, hp, pl, src, e, b1, P1, H1, f1 - 1, rfl, c4, hE, hb1, rb.1, ?_⟩
        rw [← hw]
        cases hx : (St.ite t x y b1 b2).ex (callOf e) P1 H1 (f1 - 1) with
        | stop x5 => exact fun M5 f5 H5 P5 q1 q2 q3 q4 q5 => by simp! []; exact bad x5 M5 f5 H5 P5 _ hx q1 q2 q3 q4 ((k4.weaken (by simp)).trans q5)
        | ok P5 H5 f5 => exact fun M5 q1 q2 q3 q4 => by simp! []; exact good P5 H5 f5 M5 _ hx q1 q2 q3 ((k4.weaken (by simp)).trans q4)
      | false =>
        have hw : (St.ite t x y b1 b2).ex (callOf e) P1 H1 (f1 - 1) = exL (callOf e) b2 P1 H1 (f1 - 1) := by rw [St.ex, if_neg (by rw [z]; exact Bool.false_ne_true)]
        simp! []
        refine ⟨trivial, w, hp, pl, src, e, b2, P1, H1, f1 - 1, rfl, c4, hE, hb2, rb.2, ?_⟩
        rw [← hw]
        cases hx : (St.ite t x y b1 b2).ex (callOf e) P1 H1 (f1 - 1) with
        | stop x5 => exact fun M5 f5 H5 P5 q1 q2 q3 q4 q5 => by simp! []; exact bad x5 M5 f5 H5 P5 _ hx q1 q2 q3 q4 ((k4.weaken (by simp)).trans q5)
        | ok P5 H5 f5 => exact fun M5 q1 q2 q3 q4 => by simp! []; exact good P5 H5 f5 M5 _ hx q1 q2 q3 ((k4.weaken (by simp)).trans q4)
    | copy x y =>
      simp! [St.enc]
      exact mono_lstep _ _ _ _ _ _ (fun d M' q => by obtain ⟨q, q2⟩ := q; simp! []; exact q2) (fun _ _ _ q => by simp! []; exact q) (step trivial)
    | read x y =>
      simp! [St.enc]
      exact mono_lstep _ _ _ _ _ _ (fun d M' q => by obtain ⟨q, q2⟩ := q; simp! []; exact q2) (fun _ _ _ q => by simp! []; exact q) (step trivial)
    | link x y =>
      simp! [St.enc]
      exact mono_lstep _ _ _ _ _ _ (fun d M' q => by obtain ⟨q, q2⟩ := q; simp! []; exact q2) (fun _ _ _ q => by simp! []; exact q) (step trivial)
    | new x =>
      simp! [St.enc]
      exact mono_lstep _ _ _ _ _ _ (fun d M' q => by obtain ⟨q, q2⟩ := q; simp! []; exact q2) (fun _ _ _ q => by simp! []; exact q) (step trivial)
    | free x =>
      simp! [St.enc]
      exact mono_lstep _ _ _ _ _ _ (fun d M' q => by obtain ⟨q, q2⟩ := q; simp! []; exact q2) (fun _ _ _ q => by simp! []; exact q) (step trivial)
    | call nm as =>
      simp! [St.enc]
      exact mono_lstep _ _ _ _ _ _ (fun d M' q => by obtain ⟨q, q2⟩ := q; simp! []; exact q2) (fun _ _ _ q => by simp! []; exact q) (step trivial)
  · rintro env M1 ⟨d3, d4, P1, H1, f1, rfl, c1, kp, k1, b1, e1, v1, r1⟩
    rw [exL_nil] at e1
    rw [e1] at h
    simp! []
    exact h M1 c1.wd c1.heap c1.pla k1
end K10

set_option maxHeartbeats 4000000
namespace K10
open PySem PySem.Spec PyProof.Rows L2 PL SX
variable {P : Program} {w : World} {K : PySem.W.Frag} {mg : Str → Option Value} {base : Heap} {C_Stop C_Run : Addr}
local macro_rules | `(tactic| simp! [$ls,*]) => `(tactic| simp only [s_fld, s_fldK, s_insAt, s_optD, s_obAt, s_fput, s_fputK1, s_fputK2, s_faug, s_faugK1, s_faugK2, s_faugK3, s_meth, s_methK1, s_methK2, s_make, s_makeK, s_makeK2, s_dead, s_tryN, noX_nx, noX_rt, noX_bk, noX_ct, mSplit, opMulS, s_enum, s_enumK, s_sortBy, s_sortByK, look_nil, look_cons, putFD_nil, putFD_cons, List.append_nil, to_nx, to_rt, to_bk, to_ct, to_ex, lp_nx, lp_rt, lp_bk, lp_ct, lp_ex, ret_nx, ret_rt, ret_ex, s_exK, s_bif1, s_bif0, s_optB, s_optE, s_nxD, s_ifK, s_asgN, s_asgT, s_asgL, b_nil, b_nm, b_tp, s_next, s_seq, s_drop, s_ret, s_retN, s_ifS, s_asg, s_brk, s_cont, s_put, s_put1, s_put2, s_put3, s_aug, s_augV, s_augK, s_augK2, s_bin, s_bin1, s_bin2, s_var, s_varK, s_C, s_cb, s_cbK, s_call, s_callK, s_m, s_m1, s_m2, s_nil, s_cons, s_cons1, s_cons2, s_tup, s_tupK, s_lst, s_lstK, s_truth, s_trK, s_tK, s_eK, s_cK, s_and, s_andK, s_or, s_orK, s_not, s_notK, s_ife, s_ifeK, s_andV, s_orV, s_andvK, s_orvK, s_andvK2, s_orvK2, s_notV, s_notvK, s_blK, s_neg, s_negK, s_sl, s_sl1, s_sl2, s_sl3, s_noPart, s_part, s_partK, s_rev, s_revK, s_for, s_forK, s_lc, s_lcK, s_yes, s_walk, s_walkT, s_walkS, s_walkA, s_walkL, s_walkR, s_rng1, s_rng2, s_rng1K, s_rng2K, s_callL, s_callLK, s_callLO, s_clK, s_raise, r_val, r_new, r_put, s_whK, s_lcY, s_lcT, s_lcE, s_cg, s_cgK, s_rng3, s_rng3K, s_lcB, s_lcS, wipeD, Pat.bind, seqOf, rg, s_dict0, s_sortSet, s_sortSetK, q_is_tuple, q_is_str, q_is_int, q_is_bool, q_is_list, q_isR, ofS_inj, String.reduceEq, q_eqI, q_neI, q_eqS, q_neS, decide_true, decide_false, Int.reduceEq, reduceCtorEq, i_NoneType_tuple, i_NoneType_str, i_NoneType_int, i_NoneType_bool, i_NoneType_list, i_bool_tuple, i_bool_str, i_bool_int, i_bool_bool, i_bool_list, i_int_tuple, i_int_str, i_int_int, i_int_bool, i_int_list, i_str_tuple, i_str_str, i_str_int, i_str_bool, i_str_list, i_tuple_tuple, i_tuple_str, i_tuple_int, i_tuple_bool, i_tuple_list, i_list_tuple, i_list_str, i_list_int, i_list_bool, i_list_list, i_dict_tuple, i_dict_str, i_dict_int, i_dict_bool, i_dict_list, tyN, startD, mupd_same, mupd_ne, ne_eq, not_false_eq_true, List.map_cons, List.map_nil, List.length_cons, List.length_nil, List.replicate_succ, List.replicate_zero, Nat.zero_add, Nat.reduceAdd, Nat.reduceSub, Int.cast_ofNat_Int, List.cons_append, List.nil_append, List.getElem?_cons_zero, List.getElem?_cons_succ, List.set_cons_zero, List.set_cons_succ, opIx, atI_cons, ixN, opPut, opAdd, opSub, opMul, opFdiv, opMod, opPow, opLt, opLe, opGt, opGe, opIs, opIsNot, D.isNon, truth, bLen, bAbs, bInt, bTuple, bList, isTy, mAppend, mExtend, mPop, Int.reduceLE, Int.reduceLT, Int.reduceToNat, Int.reduceNeg, Int.reduceNe, Option.bind_some, if_true, if_false, ite_true, ite_false, true_and, and_true, Bool.not_true, Bool.not_false, opIadd, Nat.reduceLT, Nat.reduceLeDiff, Int.ofNat_lt, s_lc2, s_lc2J, s_lc2B, s_lc2T, s_lc2E, s_raiseF, s_raiseFK, s_tryF, s_xf, s_xfK, s_xfAt, s_lenSet, s_lenSetK, opMulT, mInsert, s_zip, s_zipKL, s_zipKT, zipD, s_dpNil, s_dpCons, s_dpK1, s_dpK2, s_dpK3, s_disp, s_dispK, s_optKV, kvOf, s_dc, s_dcK, s_keys, s_lockK, s_sortIt, mGet, mDPop, dgetR, bDictC, bTupC, opEqD, opNeD, eqDR, D.key, merge_one, optKV, id, opEqL, opNeL, eqLR, $ls,*])
theorem fn_lbodies (S_proc : Src K mg "_law_proc" s__law_proc ["world", "proc", "addresses"]) (S_step : Src K mg "_law_step" s__law_step ["world", "s", "places"]) (S_body : Src K mg "_law_body" s__law_body ["world", "body", "places"]) (G : GF K mg C_Stop C_Run) (F__law_stop : Fn P w K mg base 1 "_law_stop" sp_lstop []) (F__law_spent : Fn P w K mg base 1 "_law_spent" sp_spent []) (F__law_is_met : Fn P w K mg base 1 "_law_is_met" sp_met []) : ∀ n, Fn P w K mg base (4 * n + 7) "_law_body" (sp_lbody n) [] := by
  intro n
  induction n with
  | zero => exact S_body.fn mono_lbody fun f fd F => fn_none fun ds M Q E h => by obtain ⟨_, _, _, _, _, _, _, _, _, _, _, _, _, h, _⟩ := h; omega
  | succ n F__law_body =>
    have F_proc := fn_lproc S_proc G F__law_body
    have F_step := fn_lstep S_step G F__law_stop F_proc
    exact fn_lbody S_body G F__law_spent F__law_is_met F_step F__law_body
/-! how large the heap can get: below 64 -/
def St.isNew : St → Bool
  | .new _ => true
  | _ => false
theorem St.bd2 {cf : CallF} {sg : Sig} {ks : List Str} (hc : CfOk cf sg) (s : St) (hn : s.isNew = false) (hv : s.vl sg ks) (P : Pl) (H : Hq) (f : Nat) (h1 : keys P = ks) (h2 : (keys H).Nodup) : Bd ks (H.length + f) f (s.ex cf P H f) := by
  cases s with
  | copy x y =>
    unfold St.vl at hv
    unfold St.ex
    exact ⟨by rw [keys_set (by rw [h1]; exact hv.1), h1], h2, by omega, Nat.le_refl _⟩
  | read x y =>
    unfold St.vl at hv
    unfold St.ex
    split
    · exact ⟨by rw [keys_set (by rw [h1]; exact hv.1), h1], h2, by omega, Nat.le_refl _⟩
    · trivial
  | link x y =>
    unfold St.ex
    split
    · rename_i z
      exact ⟨h1, set_nodup h2, by rw [set_len_in (some_mem z)]; omega, Nat.le_refl _⟩
    · trivial
  | new x => cases hn
  | free x =>
    unfold St.ex
    split
    · exact ⟨h1, drp_nodup h2, by have := drp_len (H := H) (a := val P x); omega, Nat.le_refl _⟩
    · trivial
  | call n as =>
    unfold St.vl at hv
    unfold St.ex
    have := hc n (as.map (val P)) H f (by rw [List.length_map]; exact hv.1) h2
    split
    · rename_i vs H' f' e
      rw [e] at this
      obtain ⟨k1, k2, k3, k4⟩ := this
      refine ⟨?_, k2, by omega, k4⟩
      rw [setAll_keys _ _ fun p hp => by rw [h1]; exact hv.2 _ (List.of_mem_zip (show (p.1, p.2) ∈ as.zip vs from hp)).1, h1]
    · trivial
  | wh t x y c =>
    unfold St.vl at hv
    unfold St.ex
    exact while_bd (fun P H f q1 q2 => bdL hc c hv.2.2 P H f q1 q2) t x y (f + 1) P H f h1 h2
  | ite t x y c d =>
    unfold St.vl at hv
    unfold St.ex
    split
    · exact bdL hc c hv.2.2.1 P H f h1 h2
    · exact bdL hc d hv.2.2.2 P H f h1 h2
theorem few_heap {cf : CallF} {sg : Sig} {ks : List Str} (hc : CfOk cf sg) : ∀ (b : List St), vlL sg ks b → ∀ (P : Pl) (H : Hq) (f : Nat) (P' : Pl) (H' : Hq) (f' : Nat), keys P = ks → (keys H).Nodup → exL cf b P H f = .ok P' H' f' → H'.length + f' + 1 ≤ H.length + f ∨ H'.length ≤ H.length + b.length
  | [], _, P, H, f, P', H', f', _, _, e => by
    rw [exL_nil] at e
    cases e
    exact .inr (by simp)
  | s :: r, hv, P, H, f, P', H', f', h1, h2, e => by
    unfold vlL at hv
    by_cases z : f = 0
    · rw [exL_cut z] at e; cases e
    rw [exL_cons z] at e
    cases hs : s.ex cf P H (f - 1) with
    | stop w => rw [hs] at e; cases e
    | ok P1 H1 f1 =>
      rw [hs] at e
      have e : exL cf r P1 H1 f1 = .ok P' H' f' := e
      cases hn : s.isNew with
      | false =>
        have b1 := St.bd2 hc s hn hv.1 P H (f - 1) h1 h2
        rw [hs] at b1
        obtain ⟨g1, g2, g3, g4⟩ := b1
        have b2 := bdL hc r hv.2 P1 H1 f1 g1 g2
        rw [e] at b2
        have := b2.2.2.1
        exact .inl (by omega)
      | true =>
        have b1 := St.bd hc s hv.1 P H (f - 1) h1 h2
        rw [hs] at b1
        obtain ⟨g1, g2, g3, g4⟩ := b1
        have l1 : H1.length ≤ H.length + 1 ∧ f1 = f - 1 := by
          cases s with
          | new x =>
            unfold St.ex at hs
            cases hs
            exact ⟨set_len, rfl⟩
          | _ => cases hn
        rcases few_heap hc r hv.2 P1 H1 f1 P' H' f' g1 g2 e with q | q
        · exact .inl (by omega)
        · exact .inr (by rw [List.length_cons]; omega)
def sp_lrun (n : Nat) : DSp := fun ds M Q E => ∃ (ad ht : Addr) (src e : List Pr) (p : Pr) (vs : List Int) (ms : Hq) (f : Nat), ds = [.tup (src.map Pr.enc), .str p.nm, .ob ad, .ob ht, .int (f : Int)] ∧ Env src (p :: e) ∧ M ad = some (.lst (vs.map D.int)) ∧ HeapAt M ht ms ∧ vs.length = p.ps.length ∧ (keys ms).Nodup ∧ ms.length ≤ 4 ∧ f ≤ 60 ∧ p.body.length ≤ 3 ∧ rkL (rkOf e) p.body < n ∧
  ∀ M', Keep [] M M' → match runP (callOf e) p vs ms f with
    | .stop w => Q (.tup [.str (word w)]) M'
    | .ok I H' _ => ∀ ys : Hq, ys.Perm H' → ys.Pairwise (fun p q => p.1 ≤ q.1) → Q (.tup [.str wDone, .tup (stackD I), .tup (ys.map pairI)]) M'
theorem mono_lrun {n : Nat} : MonoSp (sp_lrun n) := by
  rintro ds M Q Q' E E' hQ hE ⟨ad, ct, src, e, p, vs, ms, f, h1, h2, h3, h4, h5, h6, h7, h8, h9, h10, h⟩
  refine ⟨ad, ct, src, e, p, vs, ms, f, h1, h2, h3, h4, h5, h6, h7, h8, h9, h10, fun M' k => ?_⟩
  have := h M' k
  cases e2 : runP (callOf e) p vs ms f with
  | stop w => rw [e2] at this; exact hQ _ _ this
  | ok I H' f' => rw [e2] at this; exact fun ys a b => hQ _ _ (this ys a b)
theorem fn_lrun {n : Nat} (S0 : Src K mg "_law_run" s__law_run ["source", "name", "addresses", "heap", "fuel"]) (G : GF K mg C_Stop C_Run) (F__law_proc : Fn P w K mg base (4 * n + 8) "_law_proc" (sp_lproc (n + 1)) []) : Fn P w K mg base (4 * n + 9) "_law_run" (sp_lrun n) [] := by
  refine S0.fn mono_lrun fun g fd F => fn_ok F sc__law_run (fun ds M Q E h => by obtain ⟨ad, ct, src, e, p, vs, ms, f, rfl, _⟩ := h; rfl) ⟨_, fun cdv A outer s H E hr => have hu := hr.u200
    (xss_cons (xs_set 5 sc__law_run.nd (xe_disp (xps_cons xe_str (xe_var 0) (xps_cons xe_str (xe_callTy (c_dictC rfl) (by rfl) G.dict (by decide +kernel) (xa_cons (xe_var 3) xa_nil)) (xps_cons xe_str (xe_var 4) (xps_cons xe_str xe_str xps_nil))))))
 (xss_cons (xs_set 6 sc__law_run.nd (xe_ix hu (xe_lc (own := [("one", 9)]) (p := .nm 9) rfl sc__law_run.nd (xi_walk (xe_var 0)) (blkOk_by (by first | (show blkC ["source", "name", "addresses", "heap", "fuel", "world", "proc", "places", "stack", "one", "x", "k"] (defScope s__law_run) _ _ = true; decide +kernel) | kernel_rfl | rfl)) (fun _ _ _ _ _ => (xg_name 9 sc__law_run.nd)) (fun _ _ _ _ _ => (xts_one (xt_cmp (x_eq hu) (xe_ix hu (xe_var 9) xe_int) (xe_var 1) (nomark _) bl_eq))) (fun _ _ _ _ _ => (xe_var 9))) xe_int))
 (xss_cons (xs_set 7 sc__law_run.nd (xe_call F__law_proc (hr.mono (by first | decide | omega)) bx_takes (by rfl) (xa_cons (xe_var 5) (xa_cons (xe_var 6) (xa_cons (xe_var 2) xa_nil)))))
 (xss_cons (xs_if (xt_cmp (x_ne hu) (xe_ix hu (xe_var 5) xe_str) xe_str (nomark _) bl_ne)
 (xss_one (xs_ret (xe_tup (n := 1) (xa_cons (xe_ix hu (xe_var 5) xe_str) xa_nil))))
 xss_nil)
 (xss_cons (xs_set 8 sc__law_run.nd (xe_callTy c_tuple (by rfl) G.tuple (by decide +kernel) (xa_cons (xe_callG bSortW_mono (c_sortW hu) (by rfl) G.sorted (by decide +kernel) (xa_cons (xe_lock (xe_lc (own := [("x", 10)]) (p := .nm 10) rfl sc__law_run.nd (xi_keys (xe_var 7)) (blkOk_by (by first | (show blkC ["source", "name", "addresses", "heap", "fuel", "world", "proc", "places", "stack", "one", "x", "k"] (defScope s__law_run) _ _ = true; decide +kernel) | kernel_rfl | rfl)) (fun _ _ _ _ _ => (xg_name 10 sc__law_run.nd)) (fun _ _ _ _ _ => (xts_one (xt_cmp (x_ne hu) (xe_var 10) xe_str (nomark _) bl_ne))) (fun _ _ _ _ _ => (xe_tup (n := 2) (xa_cons (xe_var 10) (xa_cons (xe_ix hu (xe_var 7) (xe_var 10)) xa_nil)))))) xa_nil)) xa_nil)))
 (xss_one (xs_ret (xe_tup (n := 3) (xa_cons xe_str (xa_cons (xe_var 8) (xa_cons (xe_callTy c_tuple (by rfl) G.tuple (by decide +kernel) (xa_cons (xe_lc (own := [("k", 11)]) (p := .nm 11) rfl sc__law_run.nd (xi_walk (xe_callG bSortD_mono (c_sortD rfl) (by rfl) G.sorted (by decide +kernel) (xa_cons (xe_ix hu (xe_var 5) xe_str) xa_nil))) (blkOk_by (by first | (show blkC ["source", "name", "addresses", "heap", "fuel", "world", "proc", "places", "stack", "one", "x", "k"] (defScope s__law_run) _ _ = true; decide +kernel) | kernel_rfl | rfl)) (fun _ _ _ _ _ => (xg_name 11 sc__law_run.nd)) (fun _ _ _ _ _ => xts_nil) (fun _ _ _ _ _ => (xe_tup (n := 2) (xa_cons (xe_var 11) (xa_cons (xe_ix hu (xe_ix hu (xe_var 5) xe_str) (xe_var 11)) xa_nil))))) xa_nil)) xa_nil))))))))))), fun ds M Q E h => ?_⟩
  obtain ⟨ad, ht, src, e, p, vs, ms, f, rfl, hE, ha, hht, vl, nd, few, ff, bl, hr, h⟩ := h
  have sz : (16777216 : Nat) = sizeLine := sizeLine_eq.symm
  have hpm := hE.mem (p := p) List.mem_cons_self
  have hfew := hE.few
  have hht' : M ht = some (.dk (ms.map entD)) := hht
  simp! []
  intro w0 hw0
  have htw : ht ≠ w0 := ne_new hht' hw0
  simp! [mupd_ne htw, hht']
  intro hp hhp
  have hpw : hp ≠ w0 := fun e => by rw [e, mupd_same] at hhp; cases hhp
  have hpn : M hp = none := by rwa [mupd_ne hpw] at hhp
  simp! [mupd_ne hpw.symm, D.key]
  have em : mergeD [] [((Sum.inr (Str.ofString "source") : Key), D.tup (List.map Pr.enc src)), (Sum.inr (Str.ofString "heap"), D.ob hp), (Sum.inr (Str.ofString "fuel"), D.int f), (Sum.inr (Str.ofString "end"), D.str (Str.ofString ""))] = wKvs (src.map Pr.enc) hp f wNo := by
    simp [mergeD, putD, wKvs, ofS_inj]
  rw [em]
  have w1 : WAt (mupd (mupd (mupd M w0 (.dk [])) hp (.dk (ms.map entD))) w0 (.dk (wKvs (src.map Pr.enc) hp f wNo))) w0 (src.map Pr.enc) hp (f : Int) wNo := mupd_same
  have h1 : HeapAt (mupd (mupd (mupd M w0 (.dk [])) hp (.dk (ms.map entD))) w0 (.dk (wKvs (src.map Pr.enc) hp f wNo))) hp ms := by rw [HeapAt, mupd_ne hpw, mupd_same]
  have k1 : Keep [] M (mupd (mupd (mupd M w0 (.dk [])) hp (.dk (ms.map entD))) w0 (.dk (wKvs (src.map Pr.enc) hp f wNo))) := fun b o hb _ => by
    rw [mupd_ne (ne_new hb hw0), mupd_ne (ne_new hb hpn), mupd_ne (ne_new hb hw0)]
    exact hb
  generalize mupd (mupd (mupd M w0 (.dk [])) hp _) w0 _ = M1 at w1 h1 k1 ⊢
  intro l2 hl2
  refine lc_pure Pr.enc Pr.enc (fun q => decide (q.nm = p.nm)) src hl2 (fun _ _ => trivial) (by omega) (fun q hq M2 N sk k2 hy hn => ?_) fun M2 k2 e2 => ?_
  · simp! [Pr.enc]
    refine bif_dec (fun z => ?_) fun z => ?_
    · simp! []
      exact hy (decide_eq_true z) _ Keep.refl
    · exact hn (decide_eq_false z) _ Keep.refl
  have hd := filter_one hE.nd hpm
  cases ef : src.filter fun q => decide (q.nm = p.nm) with
  | nil => rw [ef] at hd; cases hd
  | cons q r =>
  rw [ef] at hd e2
  cases hd
  have ix : atI ((p :: r).map Pr.enc) 0 = some p.enc := atI_zero
  generalize (p :: r).map Pr.enc = L at e2 ix
  have ha2 := k2 _ _ (k1 _ _ ha (by simp)) (by simp)
  simp! [e2, ix]
  refine ⟨w0, hp, ad, src, e, p, vs, ms, f, rfl, k2 _ _ w1 (by simp), k2 _ _ h1 (by simp), ha2, hpw.symm, vl, nd, by omega, hE, by omega, ?_⟩
  have k02 : Keep [] M M2 := k1.trans k2
  have k23 : ∀ M3, Keep [w0, hp] M2 M3 → Keep [] M M3 := fun M3 k3 b o hb _ => k3 _ _ (k02 _ _ hb (by simp)) (by simp [ne_new hb hw0, ne_new hb hpn])
  cases hx : runP (callOf e) p vs ms f with
  | stop x =>
    rw [hx] at h
    intro M3 pl f3 H3 I3 hpl w3 h3 p3 kk k3
    have w3' : M3 w0 = some (.dk (wKvs (src.map Pr.enc) hp f3 (word x))) := w3
    simp! [w3', D.key, lw_end, decide_eq_false (word_ne (x := x))]
    exact h M3 (k23 M3 k3)
  | ok I H' f' =>
    rw [hx] at h
    intro M3 pl hpl w3 h3 p3 k3
    have w3' : M3 w0 = some (.dk (wKvs (src.map Pr.enc) hp f' wNo)) := w3
    have p3' : M3 pl = some (.dk (I.map pD)) := p3
    simp! [w3', D.key, lw_end]
    refine ⟨pl, I.map pD, p3', ?_⟩
    simp! []
    refine ⟨pl, I.map pD, rfl, mupd_same, ?_⟩
    have ek : ((I.map pD).map fun kv => keyD kv.1) = I.map fun p => D.str p.1 := by rw [List.map_map]; rfl
    rw [ek]
    simp! []
    intro l hl
    have lpl : l ≠ pl := fun e => by rw [e, mupd_same] at hl; cases hl
    have hl3 : M3 l = none := by rwa [mupd_ne lpl] at hl
    have bd := bdL (cf_ok hE.ok.2.2) p.body hE.ok.1 (start p vs) ms f (start_keys vl hE.ok.2.1) nd
    have hx' : exL (callOf e) p.body (start p vs) ms f = .ok I H' f' := hx
    have fh := few_heap (cf_ok hE.ok.2.2) p.body hE.ok.1 (start p vs) ms f I H' f' (start_keys vl hE.ok.2.1) nd hx'
    rw [hx'] at bd
    obtain ⟨kI, ndH, _, _⟩ := bd
    have ndI : (keys I).Nodup := by rw [kI]; exact hE.ok.2.1
    have lI : I.length ≤ 1000 := by
      have := congrArg List.length kI
      have := hE.ps p hpm
      simp at *
      omega
    refine lc_pure (fun p : Str × Int => D.str p.1) zD (fun p => decide (p.1 ≠ nil_)) I hl (fun _ _ => trivial) (by omega) (fun q hq M4 N sk k4 hy hn => ?_) fun M4 k4 e4 => ?_
    · have hm : M4 pl = some (.rdk (I.map pD)) := k4 _ _ mupd_same (by simp)
      simp! []
      refine bif_of (fun z => ?_) fun z => ?_
      · simp! [hm, D.key, look_p, look_in ndI hq, Option.map_some]
        exact hy (by simpa using z) _ Keep.refl
      · exact hn (by simpa using z) _ Keep.refl
    · have hm : M4 pl = some (.rdk (I.map pD)) := k4 _ _ mupd_same (by simp)
      simp! [hm]
      refine ⟨l, _, rfl, by rw [mupd_ne lpl]; exact e4, pure_zD _, alike_zD _, sortable_zD _, by rw [List.length_map]; have : (I.filter fun p => decide (p.1 ≠ nil_)).length ≤ I.length := List.length_filter_le _ _; omega, dp_zD _, fun q hq => ?_⟩
      have qpl : q ≠ pl := fun e => by rw [e, mupd_same] at hq; cases hq
      have k34 : ∀ b o, M3 b = some o → b ≠ pl → M4 b = some o := fun b o hb hne => k4 _ _ (by rw [mupd_ne hne]; exact hb) (by simp)
      have hpp : hp ≠ pl := fun e => by rw [← e, k2 _ _ h1 (by simp)] at hpl; cases hpl
      have wpl : w0 ≠ pl := fun e => by rw [← e, k2 _ _ w1 (by simp)] at hpl; cases hpl
      have h4 : M4 hp = some (.dk (H'.map entD)) := k34 _ _ h3 hpp
      have w4 : M4 w0 = some (.dk (wKvs (src.map Pr.enc) hp f' wNo)) := k34 _ _ w3 wpl
      have hpq : hp ≠ q := fun e => by rw [← e, mupd_ne hpp, h4] at hq; cases hq
      have wq : w0 ≠ q := fun e => by rw [← e, mupd_ne wpl, w4] at hq; cases hq
      have w5 : (mupd (mupd M4 pl (.dk (I.map pD))) q (.lst ((List.map zD (I.filter fun p => decide (p.1 ≠ nil_))).mergeSort leW))) w0 = some (.dk (wKvs (src.map Pr.enc) hp f' wNo)) := by rw [mupd_ne wq, mupd_ne wpl]; exact w4
      have h5 : (mupd (mupd M4 pl (.dk (I.map pD))) q (.lst ((List.map zD (I.filter fun p => decide (p.1 ≠ nil_))).mergeSort leW))) hp = some (.dk (H'.map entD)) := by rw [mupd_ne hpq, mupd_ne hpp]; exact h4
      have q5 : (mupd (mupd M4 pl (.dk (I.map pD))) q (.lst ((List.map zD (I.filter fun p => decide (p.1 ≠ nil_))).mergeSort leW))) q = some (.lst ((List.map zD (I.filter fun p => decide (p.1 ≠ nil_))).mergeSort leW)) := mupd_same
      have k05 : Keep [] M (mupd (mupd M4 pl (.dk (I.map pD))) q (.lst ((List.map zD (I.filter fun p => decide (p.1 ≠ nil_))).mergeSort leW))) := fun b o hb _ => by
        have hb3 := k23 M3 k3 b o hb (by simp)
        have b1 : b ≠ pl := fun e => by rw [← e, k02 _ _ hb (by simp)] at hpl; cases hpl
        have hb4 := k34 _ _ hb3 b1
        have b2 : b ≠ q := fun e => by rw [← e, mupd_ne b1, hb4] at hq; cases hq
        rw [mupd_ne b2, mupd_ne b1]
        exact hb4
      generalize mupd (mupd M4 pl (.dk (I.map pD))) q _ = M5 at w5 h5 q5 k05 ⊢
      simp! [q5, w5, D.key, lw_heap]
      refine ⟨hp, H'.map entD, rfl, .inl h5, .inr ⟨keys H', ?_, ?_, fun ks r kp pw hr => ?_⟩⟩
      · show (H'.map entD).map (·.1) = (keys H').map Sum.inl
        rw [List.map_map, List.map_map]; rfl
      · rw [List.length_map]
        rcases fh with q | q <;> omega
      have w6 : (mupd M5 r (.lst (ks.map D.int))) w0 = some (.dk (wKvs (src.map Pr.enc) hp f' wNo)) := by rw [mupd_ne (ne_new w5 hr)]; exact w5
      have h6 : (mupd M5 r (.lst (ks.map D.int))) hp = some (.dk (H'.map entD)) := by rw [mupd_ne (ne_new h5 hr)]; exact h5
      have r6 : (mupd M5 r (.lst (ks.map D.int))) r = some (.lst (ks.map D.int)) := mupd_same
      have k06 : Keep [] M (mupd M5 r (.lst (ks.map D.int))) := k05.trans (Keep.new hr)
      generalize mupd M5 r _ = M6 at w6 h6 r6 k06 ⊢
      simp! [r6]
      intro l7 hl7
      have kl := kp.length_eq
      rw [List.length_map] at kl
      have kmem : ∀ k ∈ ks, k ∈ keys H' := fun k hk => kp.mem_iff.mp hk
      refine lc_pure D.int (fun k => pairI (k, (look H' k).getD 0)) (fun _ => true) ks hl7 (fun M' k => .inl (k _ _ r6 (by simp))) (by rcases fh with q | q <;> omega) (fun k hk M7 N sk k7 hy _ => ?_) fun M7 k7 e7 => ?_
      · have w7 := k7 _ _ w6 (by simp)
        have h7 := k7 _ _ h6 (by simp)
        obtain ⟨v, ev⟩ := Option.isSome_iff_exists.mp (look_mem.mpr (kmem k hk))
        have el : look (H'.map entD) (Sum.inl k : Key) = some (.int ((look H' k).getD 0)) := by rw [look_h, ev]; rfl
        simp! [w7, h7, D.key, lw_heap, el]
        exact hy rfl _ Keep.refl
      rw [filter_tt] at e7
      have e7 : M7 l7 = some (.lst ((ks.map fun k => (k, (look H' k).getD 0)).map pairI)) := by rw [e7, List.map_map]; rfl
      simp! [e7]
      have gH : (keys H').map (fun k => (k, (look H' k).getD 0)) = H' := by
        rw [List.map_map]
        conv => rhs; rw [← List.map_id H']
        refine List.map_congr_left fun q hq => ?_
        simp only [Function.comp, look_in ndH hq]
        rfl
      refine h M7 (k06.trans k7) (ks.map fun k => (k, (look H' k).getD 0)) ?_ ?_
      · have := kp.map fun k => (k, (look H' k).getD 0)
        rw [gH] at this
        exact this
      · rw [List.pairwise_map]
        exact pw
end K10

set_option maxHeartbeats 4000000
namespace K10
open PySem PySem.Spec PyProof.Rows L2 PL SX
variable {P : Program} {w : World} {K : PySem.W.Frag} {mg : Str → Option Value} {base : Heap} {C_Stop C_Run : Addr}
/-! heaps that are the same but for the order -/
def RelO : Out → Out → Prop
  | .ok P H f, .ok P' H' f' => P = P' ∧ H.Perm H' ∧ f = f'
  | .stop a, .stop b => a = b
  | _, _ => False
def RelC : OutC → OutC → Prop
  | .ok P H f, .ok P' H' f' => P = P' ∧ H.Perm H' ∧ f = f'
  | .stop a, .stop b => a = b
  | _, _ => False
theorem RelO.stop (a : Bool) : RelO (.stop a) (.stop a) := rfl
theorem perm_keys {H H' : Hq} (h : H.Perm H') : (keys H).Perm (keys H') := h.map _
theorem perm_look {H H' : Hq} (h : H.Perm H') (nd : (keys H).Nodup) (a : Int) : look H a = look H' a := by
  have nd' : (keys H').Nodup := (perm_keys h).nodup_iff.mp nd
  cases e : look H a with
  | none =>
    have := look_none.mp e
    exact (look_none.mpr fun z => this ((perm_keys h).mem_iff.mpr z)).symm
  | some v =>
    have hm : a ∈ keys H := look_mem.mp (by rw [e]; rfl)
    obtain ⟨q, hq, eq⟩ := List.mem_map.mp hm
    have e1 := look_in nd hq
    have e2 := look_in nd' (h.mem_iff.mp hq)
    have eq : q.1 = a := eq
    rw [eq] at e1 e2
    rw [← e, e1, e2]
theorem perm_fresh {H H' : Hq} (h : H.Perm H') : fresh H = fresh H' := by
  have a := fresh_is H
  have b := fresh_is H'
  refine fresh_one (ks := keys H') ⟨a.1, fun z => a.2.1 ((perm_keys h).mem_iff.mpr z), fun c c1 c2 => (perm_keys h).mem_iff.mp (a.2.2 c c1 c2)⟩ b
theorem perm_set {H H' : Hq} (h : H.Perm H') (a v : Int) : (setL H a v).Perm (setL H' a v) := by
  have e : (H.any fun kv => decide (kv.1 = a)) = (H'.any fun kv => decide (kv.1 = a)) := by
    rw [Bool.eq_iff_iff, List.any_eq_true, List.any_eq_true]
    exact ⟨fun ⟨x, hx, z⟩ => ⟨x, h.mem_iff.mp hx, z⟩, fun ⟨x, hx, z⟩ => ⟨x, h.mem_iff.mpr hx, z⟩⟩
  unfold setL
  rw [e]
  split
  · exact h.map _
  · exact h.append_right _
theorem perm_drp {H H' : Hq} (h : H.Perm H') (a : Int) : (drpL H a).Perm (drpL H' a) := h.filter _
def PermF (cf : CallF) (sg : Sig) : Prop := ∀ n vs (H H' : Hq) f, sg n = some vs.length → H.Perm H' → (keys H).Nodup → RelC (cf n vs H f) (cf n vs H' f)
theorem while_perm {ks : List Str} {bd : Pl → Hq → Nat → Out} (hb : ∀ P (H H' : Hq) f, keys P = ks → H.Perm H' → (keys H).Nodup → RelO (bd P H f) (bd P H' f)) (hk : ∀ P H f, keys P = ks → (keys H).Nodup → Bd ks (H.length + f) f (bd P H f)) (t : Bool) (x y : Str) : ∀ (n : Nat) (P : Pl) (H H' : Hq) (f : Nat), keys P = ks → H.Perm H' → (keys H).Nodup → RelO (whileF bd t x y n P H f) (whileF bd t x y n P H' f)
  | 0, _, _, _, _, _, _, _ => rfl
  | n + 1, P, H, H', f, h0, h1, h2 => by
    cases z : tst t x y P with
    | false => rw [while_no z, while_no z]; exact ⟨rfl, h1, rfl⟩
    | true =>
      rw [while_yes z, while_yes z]
      have r := hb P H H' f h0 h1 h2
      have k := hk P H f h0 h2
      cases e1 : bd P H f with
      | stop a =>
        cases e2 : bd P H' f with
        | stop b => rw [e1, e2] at r; exact r
        | ok _ _ _ => rw [e1, e2] at r; exact r.elim
      | ok P1 H1 f1 =>
        cases e2 : bd P H' f with
        | stop b => rw [e1, e2] at r; exact r.elim
        | ok P2 H2 f2 =>
          rw [e1, e2] at r
          rw [e1] at k
          obtain ⟨rfl, r2, rfl⟩ := r
          show RelO (if f1 = 0 then _ else _) (if f1 = 0 then _ else _)
          split
          · rfl
          · exact while_perm hb hk t x y n P1 H1 H2 (f1 - 1) k.1 r2 k.2.1
mutual
theorem St.perm {cf : CallF} {sg : Sig} {ks : List Str} (hc : PermF cf sg) (ho : CfOk cf sg) : ∀ (s : St), s.vl sg ks → ∀ (P : Pl) (H H' : Hq) (f : Nat), keys P = ks → H.Perm H' → (keys H).Nodup → RelO (s.ex cf P H f) (s.ex cf P H' f)
  | .copy x y, _, P, H, H', f, _, h1, _ => by
    unfold St.ex
    exact ⟨rfl, h1, rfl⟩
  | .read x y, _, P, H, H', f, _, h1, h2 => by
    unfold St.ex
    rw [perm_look h1 h2]
    split
    · exact ⟨rfl, h1, rfl⟩
    · rfl
  | .link x y, _, P, H, H', f, _, h1, h2 => by
    unfold St.ex
    rw [perm_look h1 h2]
    split
    · exact ⟨rfl, perm_set h1 _ _, rfl⟩
    · rfl
  | .new x, _, P, H, H', f, _, h1, h2 => by
    unfold St.ex
    rw [perm_fresh h1]
    exact ⟨rfl, perm_set h1 _ _, rfl⟩
  | .free x, _, P, H, H', f, _, h1, h2 => by
    unfold St.ex
    rw [perm_look h1 h2]
    split
    · exact ⟨rfl, perm_drp h1 _, rfl⟩
    · rfl
  | .call n as, hv, P, H, H', f, _, h1, h2 => by
    unfold St.vl at hv
    unfold St.ex
    have r := hc n (as.map (val P)) H H' f (by rw [List.length_map]; exact hv.1) h1 h2
    cases e1 : cf n (as.map (val P)) H f with
    | stop a =>
      cases e2 : cf n (as.map (val P)) H' f with
      | stop b => rw [e1, e2] at r; exact r
      | ok _ _ _ => rw [e1, e2] at r; exact r.elim
    | ok v1 H1 f1 =>
      cases e2 : cf n (as.map (val P)) H' f with
      | stop b => rw [e1, e2] at r; exact r.elim
      | ok v2 H2 f2 =>
        rw [e1, e2] at r
        obtain ⟨rfl, r2, rfl⟩ := r
        exact ⟨rfl, r2, rfl⟩
  | .wh t x y c, hv, P, H, H', f, h0, h1, h2 => by
    unfold St.vl at hv
    unfold St.ex
    exact while_perm (fun P H H' f q0 q1 q2 => permL hc ho c hv.2.2 P H H' f q0 q1 q2) (fun P H f q0 q1 => bdL ho c hv.2.2 P H f q0 q1) t x y (f + 1) P H H' f h0 h1 h2
  | .ite t x y c d, hv, P, H, H', f, h0, h1, h2 => by
    unfold St.vl at hv
    unfold St.ex
    split
    · exact permL hc ho c hv.2.2.1 P H H' f h0 h1 h2
    · exact permL hc ho d hv.2.2.2 P H H' f h0 h1 h2
theorem permL {cf : CallF} {sg : Sig} {ks : List Str} (hc : PermF cf sg) (ho : CfOk cf sg) : ∀ (b : List St), vlL sg ks b → ∀ (P : Pl) (H H' : Hq) (f : Nat), keys P = ks → H.Perm H' → (keys H).Nodup → RelO (exL cf b P H f) (exL cf b P H' f)
  | [], _, P, H, H', f, _, h1, _ => by
    rw [exL_nil, exL_nil]
    exact ⟨rfl, h1, rfl⟩
  | s :: r, hv, P, H, H', f, h0, h1, h2 => by
    unfold vlL at hv
    by_cases z : f = 0
    · rw [exL_cut z, exL_cut z]; rfl
    rw [exL_cons z, exL_cons z]
    have q := St.perm hc ho s hv.1 P H H' (f - 1) h0 h1 h2
    have k := St.bd ho s hv.1 P H (f - 1) h0 h2
    cases e1 : s.ex cf P H (f - 1) with
    | stop a =>
      cases e2 : s.ex cf P H' (f - 1) with
      | stop b => rw [e1, e2] at q; exact q
      | ok _ _ _ => rw [e1, e2] at q; exact q.elim
    | ok P1 H1 f1 =>
      cases e2 : s.ex cf P H' (f - 1) with
      | stop b => rw [e1, e2] at q; exact q.elim
      | ok P2 H2 f2 =>
        rw [e1, e2] at q
        rw [e1] at k
        obtain ⟨rfl, q2, rfl⟩ := q
        exact permL hc ho r hv.2 P1 H1 H2 f1 k.1 q2 k.2.1
end
theorem relC_of {p : Pr} {a b : Out} (h : RelO a b) : RelC (outC p a) (outC p b) := by
  cases a <;> cases b <;> first | exact h.elim | skip
  · obtain ⟨rfl, h2, rfl⟩ := h
    exact ⟨rfl, h2, rfl⟩
  · exact h
theorem perm_of : ∀ {e : List Pr}, SrcOk e → PermF (callOf e) (sgOf e)
  | [], _, n, vs, H, H', f, h, _, _ => by cases h
  | p :: e, hs, n, vs, H, H', f, h, h1, h2 => by
    obtain ⟨g1, g2, g3⟩ := hs
    unfold sgOf at h
    unfold callOf
    by_cases z : p.nm = n
    · rw [if_pos z] at h ⊢
      rw [if_pos z]
      have hl := Option.some.inj h
      exact relC_of (permL (perm_of g3) (cf_ok g3) p.body g1 (start p vs) H H' f (start_keys hl.symm g2) h1 h2)
    · rw [if_neg z] at h ⊢
      rw [if_neg z]
      exact perm_of g3 n vs H H' f h h1 h2
theorem run_perm {src e : List Pr} {p : Pr} (hE : Env src (p :: e)) {vs : List Int} (hl : vs.length = p.ps.length) {H H' : Hq} {f : Nat} (h : H.Perm H') (nd : (keys H).Nodup) : RelO (runP (callOf e) p vs H f) (runP (callOf e) p vs H' f) :=
  permL (perm_of hE.ok.2.2) (cf_ok hE.ok.2.2) p.body hE.ok.1 (start p vs) H H' f (start_keys hl hE.ok.2.1) h nd
/-- ascending lists with the same entries are the same -/
theorem asc_one : ∀ {xs ys : Hq}, xs.Perm ys → (keys xs).Nodup → xs.Pairwise (fun p q => p.1 ≤ q.1) → ys.Pairwise (fun p q => p.1 ≤ q.1) → xs = ys
  | [], ys, h, _, _, _ => (List.nil_perm.mp h).symm
  | x :: r, [], h, _, _, _ => absurd h (by simp)
  | x :: r, y :: q, h, nd, hx, hy => by
    have e : x = y := by
      have h1 : x ∈ y :: q := h.mem_iff.mp List.mem_cons_self
      have h2 : y ∈ x :: r := h.mem_iff.mpr List.mem_cons_self
      have le1 : x.1 ≤ y.1 := by
        rcases List.mem_cons.mp h2 with z | z
        · rw [z]; exact Int.le_refl _
        · exact List.rel_of_pairwise_cons hx z
      have le2 : y.1 ≤ x.1 := by
        rcases List.mem_cons.mp h1 with z | z
        · rw [z]; exact Int.le_refl _
        · exact List.rel_of_pairwise_cons hy z
      rcases List.mem_cons.mp h2 with z | z
      · exact z.symm
      · exact absurd (show x.1 ∈ keys r by rw [show x.1 = y.1 by omega]; exact List.mem_map_of_mem z) (List.nodup_cons.mp nd).1
    subst e
    rw [asc_one (List.perm_cons _ |>.mp h) (List.nodup_cons.mp nd).2 (List.pairwise_cons.mp hx).2 (List.pairwise_cons.mp hy).2]
end K10

set_option maxHeartbeats 4000000
namespace K10
open PySem PySem.Spec PyProof.Rows L2 PL SX
variable {P : Program} {w : World} {K : PySem.W.Frag} {mg : Str → Option Value} {base : Heap} {C_Stop C_Run : Addr}
local macro_rules | `(tactic| simp! [$ls,*]) => `(tactic| simp only [s_fld, s_fldK, s_insAt, s_optD, s_obAt, s_fput, s_fputK1, s_fputK2, s_faug, s_faugK1, s_faugK2, s_faugK3, s_meth, s_methK1, s_methK2, s_make, s_makeK, s_makeK2, s_dead, s_tryN, noX_nx, noX_rt, noX_bk, noX_ct, mSplit, opMulS, s_enum, s_enumK, s_sortBy, s_sortByK, look_nil, look_cons, putFD_nil, putFD_cons, List.append_nil, to_nx, to_rt, to_bk, to_ct, to_ex, lp_nx, lp_rt, lp_bk, lp_ct, lp_ex, ret_nx, ret_rt, ret_ex, s_exK, s_bif1, s_bif0, s_optB, s_optE, s_nxD, s_ifK, s_asgN, s_asgT, s_asgL, b_nil, b_nm, b_tp, s_next, s_seq, s_drop, s_ret, s_retN, s_ifS, s_asg, s_brk, s_cont, s_put, s_put1, s_put2, s_put3, s_aug, s_augV, s_augK, s_augK2, s_bin, s_bin1, s_bin2, s_var, s_varK, s_C, s_cb, s_cbK, s_call, s_callK, s_m, s_m1, s_m2, s_nil, s_cons, s_cons1, s_cons2, s_tup, s_tupK, s_lst, s_lstK, s_truth, s_trK, s_tK, s_eK, s_cK, s_and, s_andK, s_or, s_orK, s_not, s_notK, s_ife, s_ifeK, s_andV, s_orV, s_andvK, s_orvK, s_andvK2, s_orvK2, s_notV, s_notvK, s_blK, s_neg, s_negK, s_sl, s_sl1, s_sl2, s_sl3, s_noPart, s_part, s_partK, s_rev, s_revK, s_for, s_forK, s_lc, s_lcK, s_yes, s_walk, s_walkT, s_walkS, s_walkA, s_walkL, s_walkR, s_rng1, s_rng2, s_rng1K, s_rng2K, s_callL, s_callLK, s_callLO, s_clK, s_raise, r_val, r_new, r_put, s_whK, s_lcY, s_lcT, s_lcE, s_cg, s_cgK, s_rng3, s_rng3K, s_lcB, s_lcS, wipeD, Pat.bind, seqOf, rg, s_dict0, s_sortSet, s_sortSetK, q_is_tuple, q_is_str, q_is_int, q_is_bool, q_is_list, q_isR, ofS_inj, String.reduceEq, q_eqI, q_neI, q_eqS, q_neS, decide_true, decide_false, Int.reduceEq, reduceCtorEq, i_NoneType_tuple, i_NoneType_str, i_NoneType_int, i_NoneType_bool, i_NoneType_list, i_bool_tuple, i_bool_str, i_bool_int, i_bool_bool, i_bool_list, i_int_tuple, i_int_str, i_int_int, i_int_bool, i_int_list, i_str_tuple, i_str_str, i_str_int, i_str_bool, i_str_list, i_tuple_tuple, i_tuple_str, i_tuple_int, i_tuple_bool, i_tuple_list, i_list_tuple, i_list_str, i_list_int, i_list_bool, i_list_list, i_dict_tuple, i_dict_str, i_dict_int, i_dict_bool, i_dict_list, tyN, startD, mupd_same, mupd_ne, ne_eq, not_false_eq_true, List.map_cons, List.map_nil, List.length_cons, List.length_nil, List.replicate_succ, List.replicate_zero, Nat.zero_add, Nat.reduceAdd, Nat.reduceSub, Int.cast_ofNat_Int, List.cons_append, List.nil_append, List.getElem?_cons_zero, List.getElem?_cons_succ, List.set_cons_zero, List.set_cons_succ, opIx, atI_cons, ixN, opPut, opAdd, opSub, opMul, opFdiv, opMod, opPow, opLt, opLe, opGt, opGe, opIs, opIsNot, D.isNon, truth, bLen, bAbs, bInt, bTuple, bList, isTy, mAppend, mExtend, mPop, Int.reduceLE, Int.reduceLT, Int.reduceToNat, Int.reduceNeg, Int.reduceNe, Option.bind_some, if_true, if_false, ite_true, ite_false, true_and, and_true, Bool.not_true, Bool.not_false, opIadd, Nat.reduceLT, Nat.reduceLeDiff, Int.ofNat_lt, s_lc2, s_lc2J, s_lc2B, s_lc2T, s_lc2E, s_raiseF, s_raiseFK, s_tryF, s_xf, s_xfK, s_xfAt, s_lenSet, s_lenSetK, opMulT, mInsert, s_zip, s_zipKL, s_zipKT, zipD, s_dpNil, s_dpCons, s_dpK1, s_dpK2, s_dpK3, s_disp, s_dispK, s_optKV, kvOf, s_dc, s_dcK, s_keys, s_lockK, s_sortIt, mGet, mDPop, dgetR, bDictC, bTupC, opEqD, opNeD, eqDR, D.key, merge_one, optKV, id, opEqL, opNeL, eqLR, $ls,*])
theorem cut_take {α : Type} (xs : List α) (m : Nat) : PL.cutD xs none (some (m : Int)) = xs.take m := by
  unfold PL.cutD
  rw [HT.sIx_none, HT.sIx_nat, List.drop_zero, Nat.sub_zero]
  by_cases h : m ≤ xs.length
  · rw [Nat.min_eq_left h]
  · rw [Nat.min_eq_right (by omega), List.take_of_length_le (Nat.le_refl _), List.take_of_length_le (by omega)]
/-! the drawn parts -/
def sp_shuf : DSp := fun ds M Q E => ∃ (a b l : Addr) (ps : List Str), ds = [.ob a, .ob l] ∧ StAt M a b ∧ M l = some (.lst (ps.map D.str)) ∧ l ≠ a ∧ ps.length < 1000 ∧ ∀ (qs : List Str) r M', qs.Perm ps → M r = none → M' r = some (.lst (qs.map D.str)) → StAt M' a b → Keep [a] M M' → Q (.ob r) M'
theorem mono_shuf : MonoSp sp_shuf := by
  rintro ds M Q Q' E E' hQ hE ⟨a, b, l, ps, h1, h2, h3, h4, h5, h⟩
  exact ⟨a, b, l, ps, h1, h2, h3, h4, h5, fun qs r M' z1 z2 z3 z4 z5 => hQ _ _ (h qs r M' z1 z2 z3 z4 z5)⟩
theorem fn_shuf (S0 : Src K mg "_law_shuffled" s__law_shuffled ["state", "items"]) (G : GF K mg C_Stop C_Run) (F__law_draw : Fn P w K mg base 1 "_law_draw" sp_draw []) : Fn P w K mg base 2 "_law_shuffled" sp_shuf [] := by
  refine S0.fn mono_shuf fun g fd F => fn_ok F sc__law_shuffled (fun ds M Q E h => by obtain ⟨a, b, l, ps, rfl, _⟩ := h; rfl) ⟨_, fun cdv A outer s H E hr => have hu := hr.u200
    (xss_cons (xs_set 2 sc__law_shuffled.nd (xe_lst (n := 0) xa_nil))
 (xss_cons (xs_for (p := .nm 3) bx_passes rfl (xi_walk (xe_var 1)) (xg_name 3 sc__law_shuffled.nd)
 (xss_one (xs_expr (xe_bm PySem.F.plainAttrs_list PySem.F.slot_list_insert PySem.F.type_list_insert m_insert (xe_var 2) (xa_cons (xe_call F__law_draw (hr.mono (by first | decide | omega)) bx_takes (by rfl) (xa_cons (xe_var 0) (xa_cons (xe_bin x_add (xe_callB c_len (by rfl) G.len (by decide +kernel) (xa_cons (xe_var 2) xa_nil)) xe_int) xa_nil))) (xa_cons (xe_var 3) xa_nil))))))
 (xss_one (xs_ret (xe_var 2))))), fun ds M Q E h => ?_⟩
  obtain ⟨a, b, l, ps, rfl, hst, hl, la, few, h⟩ := h
  have sz : (16777216 : Nat) = sizeLine := sizeLine_eq.symm
  simp! []
  intro f hf
  have hfa := (hst.ne hf).1
  have hfb := (hst.ne hf).2
  have fl : l ≠ f := ne_new hl hf
  simp! [mupd_ne fl, hl]
  refine loop_inv D.str (fun rest env M' => ∃ done qs d3, ps = done ++ rest ∧ env = [some (.ob a), some (.ob l), some (.ob f), d3] ∧ M' f = some (.lst (qs.map D.str)) ∧ M' l = some (.lst (ps.map D.str)) ∧ StAt M' a b ∧ Keep [f, a] M M' ∧ qs.Perm done) (fun _ _ _ ⟨_, _, _, _, _, _, z, _⟩ => .inl z) ?_ ?_ ps _ _ ⟨[], [], none, rfl, rfl, mupd_same, by rw [mupd_ne fl]; exact hl, hst.new hf, Keep.new hf, .nil⟩
  · rintro p rest env M1 N ⟨done, qs, d3, e1, rfl, h1, hl1, hs1, k1, pm⟩ hN
    have ql : qs.length = done.length := pm.length_eq
    have dl : done.length < 1000 := by rw [e1, List.length_append] at few; omega
    simp! [h1, List.length_map]
    refine ⟨a, b, _, rfl, hs1, by omega, by omega, fun i M2 i0 i1 hs2 k2 => ?_⟩
    have h2 := k2 _ _ h1 (by simpa using hfa)
    have hl2 := k2 _ _ hl1 (by simpa using la)
    simp! [h2, List.length_map]
    refine ⟨⟨by omega, i0, by omega⟩, ?_⟩
    have e2 : (qs.map D.str).take i.toNat ++ [D.str p] ++ (qs.map D.str).drop i.toNat = (qs.take i.toNat ++ [p] ++ qs.drop i.toNat).map D.str := by rw [List.map_append, List.map_append, List.map_take, List.map_drop]; rfl
    refine hN _ _ ⟨done ++ [p], qs.take i.toNat ++ [p] ++ qs.drop i.toNat, _, by rw [e1]; simp, rfl, by rw [mupd_same, e2], by rw [mupd_ne fl]; exact hl2, hs2.put hfa hfb, (k1.trans (k2.weaken (by simp))).trans (Keep.put (by simp)), ?_⟩
    have : (qs.take i.toNat ++ [p] ++ qs.drop i.toNat).Perm (qs ++ [p]) := by
      have := (List.perm_append_comm (l₁ := [p]) (l₂ := qs.drop i.toNat)).append_left (qs.take i.toNat)
      rw [List.append_assoc]
      refine this.trans ?_
      rw [← List.append_assoc, List.take_append_drop]
    exact this.trans (pm.append_right [p])
  · rintro env M1 ⟨done, qs, d3, e1, rfl, h1, hl1, hs1, k1, pm⟩
    rw [List.append_nil] at e1
    simp! []
    exact h qs f M1 (e1 ▸ pm) hf h1 hs1 fun c o hc hn => k1 _ _ hc (by simp [ne_new hc hf]; simpa using hn)
def sp_place : DSp := fun ds M Q E => ∃ (a b l : Addr) (xs : List Str), ds = [.ob a, .ob l] ∧ StAt M a b ∧ M l = some (.lst (xs.map D.str)) ∧ l ≠ a ∧ xs ≠ [] ∧ xs.length < 1000 ∧ ∀ x M', (x = nil_ ∨ x ∈ xs) → StAt M' a b → Keep [a] M M' → Q (.str x) M'
theorem mono_place : MonoSp sp_place := by
  rintro ds M Q Q' E E' hQ hE ⟨a, b, l, xs, h1, h2, h3, h4, h5, h6, h⟩
  exact ⟨a, b, l, xs, h1, h2, h3, h4, h5, h6, fun x M' z1 z2 z3 => hQ _ _ (h x M' z1 z2 z3)⟩
theorem fn_place (S0 : Src K mg "_law_place" s__law_place ["state", "names"]) (G : GF K mg C_Stop C_Run) (F__law_draw : Fn P w K mg base 1 "_law_draw" sp_draw []) (F__law_one_of : Fn P w K mg base 2 "_law_one_of" sp_one_of []) : Fn P w K mg base 3 "_law_place" sp_place [] := by
  refine S0.fn mono_place fun g fd F => fn_ok F sc__law_place (fun ds M Q E h => by obtain ⟨a, b, l, xs, rfl, _⟩ := h; rfl) ⟨_, fun cdv A outer s H E hr => have hu := hr.u200
    (xss_cons (xs_if (xt_cmp (x_eq hu) (xe_call F__law_draw (hr.mono (by first | decide | omega)) bx_takes (by rfl) (xa_cons (xe_var 0) (xa_cons xe_int xa_nil))) xe_int (nomark _) bl_eq)
 (xss_one (xs_ret xe_str))
 xss_nil)
 (xss_one (xs_ret (xe_call F__law_one_of (hr.mono (by first | decide | omega)) bx_takes (by rfl) (xa_cons (xe_var 0) (xa_cons (xe_var 1) xa_nil)))))), fun ds M Q E h => ?_⟩
  obtain ⟨a, b, l, xs, rfl, hs, hl, la, ne, few, h⟩ := h
  have sz : (16777216 : Nat) = sizeLine := sizeLine_eq.symm
  have la2 : ofA a (.ob l) = false := by simp [ofA, la]
  simp! []
  refine ⟨a, b, 4, rfl, hs, by decide, by decide, fun r M1 _ _ hs1 k1 => ?_⟩
  have hl1 := k1 _ _ hl (by simpa using la)
  simp! []
  refine bif_dec (fun z => ?_) fun z => ?_
  · simp! []
    exact h _ M1 (.inl rfl) hs1 k1
  simp! []
  refine ⟨a, b, .ob l, xs.map D.str, rfl, hs1, by simp [seqI, hl1], la2, by cases xs <;> simp at ne ⊢, by rw [List.length_map]; omega, fun x M2 hx hs2 k2 => ?_⟩
  obtain ⟨y, hy, rfl⟩ := List.mem_map.mp hx
  exact h y M2 (.inr hy) hs2 (k1.trans k2)
def sp_pairs : DSp := fun ds M Q E => ∃ (a b l : Addr) (xs : List Str) (m : Nat), ds = [.ob a, .ob l, .int (m : Int)] ∧ StAt M a b ∧ M l = some (.lst (xs.map D.str)) ∧ l ≠ a ∧ xs ≠ [] ∧ xs.length < 1000 ∧ m < 1000 ∧ ∀ d M', StAt M' a b → Keep [a] M M' → Q d M'
theorem mono_pairs : MonoSp sp_pairs := by
  rintro ds M Q Q' E E' hQ hE ⟨a, b, l, xs, m, h1, h2, h3, h4, h5, h6, h7, h⟩
  exact ⟨a, b, l, xs, m, h1, h2, h3, h4, h5, h6, h7, fun d M' z1 z2 => hQ _ _ (h d M' z1 z2)⟩
theorem fn_pairs (S0 : Src K mg "_law_pairs" s__law_pairs ["state", "names", "many"]) (G : GF K mg C_Stop C_Run) (F__law_place : Fn P w K mg base 3 "_law_place" sp_place []) : Fn P w K mg base 4 "_law_pairs" sp_pairs [] := by
  refine S0.fn mono_pairs fun g fd F => fn_ok F sc__law_pairs (fun ds M Q E h => by obtain ⟨a, b, l, xs, m, rfl, _⟩ := h; rfl) ⟨_, fun cdv A outer s H E hr => have hu := hr.u200
    (xss_one (xs_ret (xe_callTy c_tuple (by rfl) G.tuple (by decide +kernel) (xa_cons (xe_lc (own := [("k", 3)]) (p := .nm 3) rfl sc__law_pairs.nd (xi_range1 (by rfl) G.range (xa_cons (xe_var 2) xa_nil)) (blkOk_by (by first | (show blkC ["state", "names", "many", "k"] (defScope s__law_pairs) _ _ = true; decide +kernel) | kernel_rfl | rfl)) (fun _ _ _ _ _ => (xg_name 3 sc__law_pairs.nd)) (fun _ _ _ _ _ => xts_nil) (fun _ _ _ _ _ => (xe_tup (n := 2) (xa_cons (xe_call F__law_place (hr.mono (by first | decide | omega)) takes0 (by rfl) (xa_cons (xe_var 0) (xa_cons (xe_var 1) xa_nil))) (xa_cons (xe_call F__law_place (hr.mono (by first | decide | omega)) takes0 (by rfl) (xa_cons (xe_var 0) (xa_cons (xe_var 1) xa_nil))) xa_nil))))) xa_nil)))), fun ds M Q E h => ?_⟩
  obtain ⟨a, b, l, xs, m, rfl, hs, hl, la, ne, few, hm, h⟩ := h
  have sz : (16777216 : Nat) = sizeLine := sizeLine_eq.symm
  simp! []
  refine ⟨by omega, fun r hr => ?_⟩
  refine lc_rule (fun i : Nat => D.int (0 + (i : Int))) (fun _ _ => True) (fun M => StAt M a b ∧ M l = some (.lst (xs.map D.str))) [a] (List.range _) hr (by simpa using (hs.ne hr).1) ⟨hs, hl⟩ (fun M' o hj => ⟨hj.1.put (hs.ne hr).1 (hs.ne hr).2, by rw [mupd_ne (ne_new hl hr)]; exact hj.2⟩) (fun _ _ => trivial) (by rw [List.length_range]; omega) (fun i hi M2 N sk j2 k2 hy _ => ?_) fun M2 out ho j2 k2 e2 => ?_
  · simp! []
    refine ⟨a, b, l, xs, rfl, j2.1, j2.2, la, ne, few, fun x M3 _ hs3 k3 => ?_⟩
    have hl3 := k3 _ _ j2.2 (by simpa using la)
    simp! []
    refine ⟨a, b, l, xs, rfl, hs3, hl3, la, ne, few, fun y M4 _ hs4 k4 => ?_⟩
    simp! []
    exact hy _ M4 trivial ⟨hs4, k4 _ _ hl3 (by simpa using la)⟩ (k3.trans k4)
  · simp! [e2]
    exact h _ M2 j2.1 k2
def sp_picture : DSp := fun ds M Q E => ∃ (a b l : Addr) (xs : List Str) (m : Nat), ds = [.ob a, .ob l, .int (m : Int)] ∧ StAt M a b ∧ M l = some (.lst (xs.map D.str)) ∧ l ≠ a ∧ xs ≠ [] ∧ xs.length < 1000 ∧ m < 900 ∧ ∀ d M', StAt M' a b → Keep [a] M M' → Q d M'
theorem mono_picture : MonoSp sp_picture := by
  rintro ds M Q Q' E E' hQ hE ⟨a, b, l, xs, m, h1, h2, h3, h4, h5, h6, h7, h⟩
  exact ⟨a, b, l, xs, m, h1, h2, h3, h4, h5, h6, h7, fun d M' z1 z2 => hQ _ _ (h d M' z1 z2)⟩
theorem fn_picture (S0 : Src K mg "_law_picture" s__law_picture ["state", "names", "most"]) (G : GF K mg C_Stop C_Run) (F__law_draw : Fn P w K mg base 1 "_law_draw" sp_draw []) (F__law_pairs : Fn P w K mg base 4 "_law_pairs" sp_pairs []) : Fn P w K mg base 5 "_law_picture" sp_picture [] := by
  refine S0.fn mono_picture fun g fd F => fn_ok F sc__law_picture (fun ds M Q E h => by obtain ⟨a, b, l, xs, m, rfl, _⟩ := h; rfl) ⟨_, fun cdv A outer s H E hr => have hu := hr.u200
    (xss_cons (xs_set 3 sc__law_picture.nd (xe_call F__law_pairs (hr.mono (by first | decide | omega)) bx_takes (by rfl) (xa_cons (xe_var 0) (xa_cons (xe_var 1) (xa_cons (xe_callTy c_int (by rfl) G.int (by decide +kernel) (xa_cons (xe_cmp (x_eq hu) (xe_call F__law_draw (hr.mono (by first | decide | omega)) bx_takes (by rfl) (xa_cons (xe_var 0) (xa_cons xe_int xa_nil))) xe_int (nomark _)) xa_nil)) xa_nil)))))
 (xss_cons (xs_set 4 sc__law_picture.nd (xe_call F__law_pairs (hr.mono (by first | decide | omega)) bx_takes (by rfl) (xa_cons (xe_var 0) (xa_cons (xe_var 1) (xa_cons (xe_call F__law_draw (hr.mono (by first | decide | omega)) bx_takes (by rfl) (xa_cons (xe_var 0) (xa_cons xe_int xa_nil))) xa_nil)))))
 (xss_cons (xs_set 5 sc__law_picture.nd (xe_call F__law_draw (hr.mono (by first | decide | omega)) bx_takes (by rfl) (xa_cons (xe_var 0) (xa_cons (xe_bin x_add (xe_var 2) xe_int) xa_nil))))
 (xss_cons (xs_set 6 sc__law_picture.nd (xe_call F__law_draw (hr.mono (by first | decide | omega)) bx_takes (by rfl) (xa_cons (xe_var 0) (xa_cons (xe_bin x_add (xe_var 5) xe_int) xa_nil))))
 (xss_one (xs_ret (xe_tup (n := 4) (xa_cons (xe_var 3) (xa_cons (xe_var 4) (xa_cons (xe_call F__law_pairs (hr.mono (by first | decide | omega)) bx_takes (by rfl) (xa_cons (xe_var 0) (xa_cons (xe_var 1) (xa_cons (xe_var 6) xa_nil)))) (xa_cons (xe_call F__law_pairs (hr.mono (by first | decide | omega)) bx_takes (by rfl) (xa_cons (xe_var 0) (xa_cons (xe_var 1) (xa_cons (xe_bin x_sub (xe_var 5) (xe_var 6)) xa_nil)))) xa_nil))))))))))), fun ds M Q E h => ?_⟩
  obtain ⟨a, b, l, xs, m, rfl, hs, hl, la, ne, few, hm, h⟩ := h
  have sz : (16777216 : Nat) = sizeLine := sizeLine_eq.symm
  simp! []
  refine ⟨a, b, 4, rfl, hs, by decide, by decide, fun r M1 _ _ hs1 k1 => ?_⟩
  have hl1 := k1 _ _ hl (by simpa using la)
  simp! []
  have ek : ∃ m0 : Nat, (if decide (r = 0) = true then (1 : Int) else 0) = (m0 : Int) ∧ m0 < 1000 := by
    split
    · exact ⟨1, rfl, by decide⟩
    · exact ⟨0, rfl, by decide⟩
  obtain ⟨m0, em, hm0⟩ := ek
  rw [em]
  refine ⟨a, b, l, xs, m0, rfl, hs1, hl1, la, ne, few, hm0, fun d1 M2 hs2 k2 => ?_⟩
  have hl2 := k2 _ _ hl1 (by simpa using la)
  simp! []
  refine ⟨a, b, 3, rfl, hs2, by decide, by decide, fun r2 M3 r20 r21 hs3 k3 => ?_⟩
  have hl3 := k3 _ _ hl2 (by simpa using la)
  simp! []
  obtain ⟨n2, rfl⟩ : ∃ n : Nat, r2 = n := ⟨r2.toNat, by omega⟩
  refine ⟨a, b, l, xs, n2, rfl, hs3, hl3, la, ne, few, by omega, fun d2 M4 hs4 k4 => ?_⟩
  have hl4 := k4 _ _ hl3 (by simpa using la)
  simp! []
  refine ⟨a, b, (m : Int) + 1, rfl, hs4, by omega, by omega, fun r3 M5 r30 r31 hs5 k5 => ?_⟩
  have hl5 := k5 _ _ hl4 (by simpa using la)
  simp! []
  obtain ⟨n3, rfl⟩ : ∃ n : Nat, r3 = n := ⟨r3.toNat, by omega⟩
  refine ⟨a, b, (n3 : Int) + 1, rfl, hs5, by omega, by omega, fun r4 M6 r40 r41 hs6 k6 => ?_⟩
  have hl6 := k6 _ _ hl5 (by simpa using la)
  simp! []
  obtain ⟨n4, rfl⟩ : ∃ n : Nat, r4 = n := ⟨r4.toNat, by omega⟩
  refine ⟨a, b, l, xs, n4, rfl, hs6, hl6, la, ne, few, by omega, fun d5 M7 hs7 k7 => ?_⟩
  have hl7 := k7 _ _ hl6 (by simpa using la)
  simp! []
  refine ⟨a, b, l, xs, n3 - n4, by rw [show (n3 : Int) - n4 = ((n3 - n4 : Nat) : Int) by omega], hs7, hl7, la, ne, few, by omega, fun d6 M8 hs8 k8 => ?_⟩
  simp! []
  exact h _ M8 hs8 (((((((k1.trans k2).trans k3).trans k4).trans k5).trans k6).trans k7).trans k8)
end K10

set_option maxHeartbeats 4000000
namespace K10
open PySem PySem.Spec PyProof.Rows L2 PL SX
variable {P : Program} {w : World} {K : PySem.W.Frag} {mg : Str → Option Value} {base : Heap} {C_Stop C_Run : Addr}
local macro_rules | `(tactic| simp! [$ls,*]) => `(tactic| simp only [s_fld, s_fldK, s_insAt, s_optD, s_obAt, s_fput, s_fputK1, s_fputK2, s_faug, s_faugK1, s_faugK2, s_faugK3, s_meth, s_methK1, s_methK2, s_make, s_makeK, s_makeK2, s_dead, s_tryN, noX_nx, noX_rt, noX_bk, noX_ct, mSplit, opMulS, s_enum, s_enumK, s_sortBy, s_sortByK, look_nil, look_cons, putFD_nil, putFD_cons, List.append_nil, to_nx, to_rt, to_bk, to_ct, to_ex, lp_nx, lp_rt, lp_bk, lp_ct, lp_ex, ret_nx, ret_rt, ret_ex, s_exK, s_bif1, s_bif0, s_optB, s_optE, s_nxD, s_ifK, s_asgN, s_asgT, s_asgL, b_nil, b_nm, b_tp, s_next, s_seq, s_drop, s_ret, s_retN, s_ifS, s_asg, s_brk, s_cont, s_put, s_put1, s_put2, s_put3, s_aug, s_augV, s_augK, s_augK2, s_bin, s_bin1, s_bin2, s_var, s_varK, s_C, s_cb, s_cbK, s_call, s_callK, s_m, s_m1, s_m2, s_nil, s_cons, s_cons1, s_cons2, s_tup, s_tupK, s_lst, s_lstK, s_truth, s_trK, s_tK, s_eK, s_cK, s_and, s_andK, s_or, s_orK, s_not, s_notK, s_ife, s_ifeK, s_andV, s_orV, s_andvK, s_orvK, s_andvK2, s_orvK2, s_notV, s_notvK, s_blK, s_neg, s_negK, s_sl, s_sl1, s_sl2, s_sl3, s_noPart, s_part, s_partK, s_rev, s_revK, s_for, s_forK, s_lc, s_lcK, s_yes, s_walk, s_walkT, s_walkS, s_walkA, s_walkL, s_walkR, s_rng1, s_rng2, s_rng1K, s_rng2K, s_callL, s_callLK, s_callLO, s_clK, s_raise, r_val, r_new, r_put, s_whK, s_lcY, s_lcT, s_lcE, s_cg, s_cgK, s_rng3, s_rng3K, s_lcB, s_lcS, wipeD, Pat.bind, seqOf, rg, s_dict0, s_sortSet, s_sortSetK, q_is_tuple, q_is_str, q_is_int, q_is_bool, q_is_list, q_isR, ofS_inj, String.reduceEq, q_eqI, q_neI, q_eqS, q_neS, decide_true, decide_false, Int.reduceEq, reduceCtorEq, i_NoneType_tuple, i_NoneType_str, i_NoneType_int, i_NoneType_bool, i_NoneType_list, i_bool_tuple, i_bool_str, i_bool_int, i_bool_bool, i_bool_list, i_int_tuple, i_int_str, i_int_int, i_int_bool, i_int_list, i_str_tuple, i_str_str, i_str_int, i_str_bool, i_str_list, i_tuple_tuple, i_tuple_str, i_tuple_int, i_tuple_bool, i_tuple_list, i_list_tuple, i_list_str, i_list_int, i_list_bool, i_list_list, i_dict_tuple, i_dict_str, i_dict_int, i_dict_bool, i_dict_list, tyN, startD, mupd_same, mupd_ne, ne_eq, not_false_eq_true, List.map_cons, List.map_nil, List.length_cons, List.length_nil, List.replicate_succ, List.replicate_zero, Nat.zero_add, Nat.reduceAdd, Nat.reduceSub, Int.cast_ofNat_Int, List.cons_append, List.nil_append, List.getElem?_cons_zero, List.getElem?_cons_succ, List.set_cons_zero, List.set_cons_succ, opIx, atI_cons, ixN, opPut, opAdd, opSub, opMul, opFdiv, opMod, opPow, opLt, opLe, opGt, opGe, opIs, opIsNot, D.isNon, truth, bLen, bAbs, bInt, bTuple, bList, isTy, mAppend, mExtend, mPop, Int.reduceLE, Int.reduceLT, Int.reduceToNat, Int.reduceNeg, Int.reduceNe, Option.bind_some, if_true, if_false, ite_true, ite_false, true_and, and_true, Bool.not_true, Bool.not_false, opIadd, Nat.reduceLT, Nat.reduceLeDiff, Int.ofNat_lt, s_lc2, s_lc2J, s_lc2B, s_lc2T, s_lc2E, s_raiseF, s_raiseFK, s_tryF, s_xf, s_xfK, s_xfAt, s_lenSet, s_lenSetK, opMulT, mInsert, s_zip, s_zipKL, s_zipKT, zipD, s_dpNil, s_dpCons, s_dpK1, s_dpK2, s_dpK3, s_disp, s_dispK, s_optKV, kvOf, s_dc, s_dcK, s_keys, s_lockK, s_sortIt, mGet, mDPop, dgetR, bDictC, bTupC, opEqD, opNeD, eqDR, D.key, merge_one, optKV, id, opEqL, opNeL, eqLR, $ls,*])
/-! drawn statements -/
abbrev Hd := Str × Nat
abbrev hD (h : Hd) : D := .tup [.str h.1, .int (h.2 : Int)]
theorem seq_mid {t u : DS} {Z : DEnds} {env : DEnv} {M : Mem} (R : DEnv → Mem → Prop) (h1 : ∀ N, (∀ e M', R e M' → N e M') → t (Z.to N) env M) (h2 : ∀ e M', R e M' → u Z e M') : dSeq t u Z env M := h1 _ h2
structure NmAt (M : Mem) (a b l c : Addr) (xs : List Str) (hs : List Hd) : Prop where
  st : StAt M a b
  lm : M l = some (.lst (xs.map D.str))
  cm : M c = some (.lst (hs.map hD))
  la : l ≠ a
  ca : c ≠ a
  ne : xs ≠ []
  few : xs.length < 100
  fewh : hs.length < 100
theorem NmAt.keep {M M' : Mem} {a b l c : Addr} {xs : List Str} {hs : List Hd} (h : NmAt M a b l c xs hs) (st : StAt M' a b) (k : Keep [a] M M') : NmAt M' a b l c xs hs := ⟨st, k _ _ h.lm (by simpa using h.la), k _ _ h.cm (by simpa using h.ca), h.la, h.ca, h.ne, h.few, h.fewh⟩
theorem NmAt.new {M : Mem} {a b l c r : Addr} {o : Ob} {xs : List Str} {hs : List Hd} (h : NmAt M a b l c xs hs) (hr : M r = none) : NmAt (mupd M r o) a b l c xs hs := h.keep (h.st.new hr) (Keep.new hr)
theorem NmAt.ask {M : Mem} {a b l c : Addr} {xs : List Str} {hs : List Hd} (h : NmAt M a b l c xs hs) {Q : DK} {E : DX} (hQ : ∀ x M', x ∈ xs → NmAt M' a b l c xs hs → Keep [a] M M' → Q (.str x) M') : sp_one_of [.ob a, .ob l] M Q E := by
  refine ⟨a, b, .ob l, xs.map D.str, rfl, h.st, by simp [seqI, h.lm], by simp [ofA, h.la], by have := h.ne; cases xs <;> simp at this ⊢, by rw [List.length_map]; have := h.few; omega, fun x M2 hx hs2 k2 => ?_⟩
  obtain ⟨y, hy, rfl⟩ := List.mem_map.mp hx
  exact hQ y M2 hy (h.keep hs2 k2) k2
theorem NmAt.pick {M : Mem} {a b l c : Addr} {xs : List Str} {hs : List Hd} (h : NmAt M a b l c xs hs) (ne : hs ≠ []) {Q : DK} {E : DX} (hQ : ∀ x M', x ∈ hs → NmAt M' a b l c xs hs → Keep [a] M M' → Q (hD x) M') : sp_one_of [.ob a, .ob c] M Q E := by
  refine ⟨a, b, .ob c, hs.map hD, rfl, h.st, by simp [seqI, h.cm], by simp [ofA, h.ca], by cases hs <;> simp at ne ⊢, by rw [List.length_map]; have := h.fewh; omega, fun x M2 hx hs2 k2 => ?_⟩
  obtain ⟨y, hy, rfl⟩ := List.mem_map.mp hx
  exact hQ y M2 hy (h.keep hs2 k2) k2
theorem NmAt.place {M : Mem} {a b l c : Addr} {xs : List Str} {hs : List Hd} (h : NmAt M a b l c xs hs) {Q : DK} {E : DX} (hQ : ∀ x M', x ∈ nil_ :: xs → NmAt M' a b l c xs hs → Keep [a] M M' → Q (.str x) M') : sp_place [.ob a, .ob l] M Q E := by
  refine ⟨a, b, l, xs, rfl, h.st, h.lm, h.la, h.ne, by have := h.few; omega, fun x M2 hx hs2 k2 => ?_⟩
  exact hQ x M2 (by simpa using hx) (h.keep hs2 k2) k2
def sp_stm (n : Nat) : DSp := fun ds M Q E => ∃ (a b l c : Addr) (xs : List Str) (hs : List Hd) (d : Nat) (sg : Sig) (cr : Str → Nat) (R : Nat), ds = [.ob a, .ob l, .int (d : Int), .ob c] ∧ NmAt M a b l c xs hs ∧ d < n ∧ (∀ h ∈ hs, sg h.1 = some h.2 ∧ cr h.1 + 1 ≤ R) ∧
  ∀ (s : St) M', s.vl sg (nil_ :: xs) → s.rk cr ≤ d + R → NmAt M' a b l c xs hs → Keep [a] M M' → Q s.enc M'
theorem mono_stm {n : Nat} : MonoSp (sp_stm n) := by
  rintro ds M Q Q' E E' hQ hE ⟨a, b, l, c, xs, hs, d, sg, cr, R, h1, h2, h3, h4, h⟩
  exact ⟨a, b, l, c, xs, hs, d, sg, cr, R, h1, h2, h3, h4, fun x M' z1 z2 z3 z4 => hQ _ _ (h x M' z1 z2 z3 z4)⟩
def sp_blk (n : Nat) : DSp := fun ds M Q E => ∃ (a b l c : Addr) (xs : List Str) (hs : List Hd) (d : Nat) (sg : Sig) (cr : Str → Nat) (R : Nat), ds = [.ob a, .ob l, .int (d : Int), .ob c] ∧ NmAt M a b l c xs hs ∧ d < n ∧ (∀ h ∈ hs, sg h.1 = some h.2 ∧ cr h.1 + 1 ≤ R) ∧
  ∀ (bk : List St) M', vlL sg (nil_ :: xs) bk → rkL cr bk ≤ d + R → bk.length ≤ 3 → NmAt M' a b l c xs hs → Keep [a] M M' → Q (.tup (encL bk)) M'
theorem mono_blk {n : Nat} : MonoSp (sp_blk n) := by
  rintro ds M Q Q' E E' hQ hE ⟨a, b, l, c, xs, hs, d, sg, cr, R, h1, h2, h3, h4, h⟩
  exact ⟨a, b, l, c, xs, hs, d, sg, cr, R, h1, h2, h3, h4, fun x M' z1 z2 z3 z4 z5 => hQ _ _ (h x M' z1 z2 z3 z4 z5)⟩
theorem fn_stm {n : Nat} (S0 : Src K mg "_law_statement" s__law_statement ["state", "names", "deep", "callees"]) (G : GF K mg C_Stop C_Run) (F__law_draw : Fn P w K mg base 1 "_law_draw" sp_draw []) (F__law_one_of : Fn P w K mg base 2 "_law_one_of" sp_one_of []) (F__law_shuffled : Fn P w K mg base 2 "_law_shuffled" sp_shuf []) (F__law_place : Fn P w K mg base 3 "_law_place" sp_place []) (F__law_block : Fn P w K mg base (2 * n + 4) "_law_block" (sp_blk n) []) : Fn P w K mg base (2 * n + 5) "_law_statement" (sp_stm (n + 1)) [] := by
  refine S0.fn mono_stm fun g fd F => fn_ok F sc__law_statement (fun ds M Q E h => by obtain ⟨a, b, l, c, xs, hs, d, sg, cr, R, rfl, _⟩ := h; rfl) ⟨_, fun cdv A outer s H E hr => have hu := hr.u200
    (xss_cons (xs_set 4 sc__law_statement.nd (xe_call F__law_one_of (hr.mono (by first | decide | omega)) bx_takes (by rfl) (xa_cons (xe_var 0) (xa_cons (xe_var 1) xa_nil))))
 (xss_cons (xs_set 5 sc__law_statement.nd (xe_call F__law_one_of (hr.mono (by first | decide | omega)) bx_takes (by rfl) (xa_cons (xe_var 0) (xa_cons (xe_var 1) xa_nil))))
 (xss_cons (xs_set 6 sc__law_statement.nd (xe_call F__law_draw (hr.mono (by first | decide | omega)) bx_takes (by rfl) (xa_cons (xe_var 0) (xa_cons xe_int xa_nil))))
 (xss_cons (xs_if (xt_cmp x_lt (xe_var 6) xe_int (nomark _) bl_lt)
 (xss_one (xs_ret (xe_tup (n := 3) (xa_cons xe_str (xa_cons (xe_var 4) (xa_cons (xe_var 5) xa_nil))))))
 xss_nil)
 (xss_cons (xs_if (xt_cmp (x_eq hu) (xe_var 6) xe_int (nomark _) bl_eq)
 (xss_one (xs_ret (xe_tup (n := 3) (xa_cons xe_str (xa_cons (xe_var 4) (xa_cons (xe_call F__law_place (hr.mono (by first | decide | omega)) bx_takes (by rfl) (xa_cons (xe_var 0) (xa_cons (xe_var 1) xa_nil))) xa_nil))))))
 xss_nil)
 (xss_cons (xs_if (xt_cmp (x_eq hu) (xe_var 6) xe_int (nomark _) bl_eq)
 (xss_one (xs_ret (xe_tup (n := 2) (xa_cons xe_str (xa_cons (xe_var 4) xa_nil)))))
 xss_nil)
 (xss_cons (xs_if (xt_wh (xw_and (xt_cmp (x_eq hu) (xe_var 6) xe_int (nomark _) bl_eq) (xw_and1 (xt_cmp (x_eq hu) (xe_call F__law_draw (hr.mono (by first | decide | omega)) bx_takes (by rfl) (xa_cons (xe_var 0) (xa_cons xe_int xa_nil))) xe_int (nomark _) bl_eq))))
 (xss_one (xs_ret (xe_tup (n := 2) (xa_cons xe_str (xa_cons (xe_var 4) xa_nil)))))
 xss_nil)
 (xss_cons (xs_if (xt_wh (xw_and (xt_cmp (x_eq hu) (xe_var 6) xe_int (nomark _) bl_eq) (xw_and1 (xt_cmp (x_neL hu) (xe_var 3) (xe_lst (n := 0) xa_nil) (nomark _) bl_neL))))
 (xss_cons (xs_asg (p := .tp [.nm 7, .nm 8]) (xe_call F__law_one_of (hr.mono (by first | decide | omega)) bx_takes (by rfl) (xa_cons (xe_var 0) (xa_cons (xe_var 3) xa_nil))) (xg_tup rfl (xgs_cons (xg_name 7 sc__law_statement.nd) (xgs_cons (xg_name 8 sc__law_statement.nd) xgs_nil))))
 (xss_one (xs_if (xt_cmp x_le (xe_var 8) (xe_callB c_len (by rfl) G.len (by decide +kernel) (xa_cons (xe_var 1) xa_nil)) (nomark _) bl_le)
 (xss_one (xs_ret (xe_tup (n := 3) (xa_cons xe_str (xa_cons (xe_var 7) (xa_cons (xe_callTy c_tuple (by rfl) G.tuple (by decide +kernel) (xa_cons (xe_sl (xe_call F__law_shuffled (hr.mono (by first | decide | omega)) bx_takes (by rfl) (xa_cons (xe_var 0) (xa_cons (xe_var 1) xa_nil))) xo_none (xo_some (xe_var 8))) xa_nil)) xa_nil))))))
 xss_nil)))
 xss_nil)
 (xss_cons (xs_set 9 sc__law_statement.nd (xe_tup (n := 3) (xa_cons (xe_ix hu (xe_lst (n := 2) (xa_cons xe_str (xa_cons xe_str xa_nil))) (xe_call F__law_draw (hr.mono (by first | decide | omega)) bx_takes (by rfl) (xa_cons (xe_var 0) (xa_cons xe_int xa_nil)))) (xa_cons (xe_var 4) (xa_cons (xe_call F__law_place (hr.mono (by first | decide | omega)) bx_takes (by rfl) (xa_cons (xe_var 0) (xa_cons (xe_var 1) xa_nil))) xa_nil)))))
 (xss_cons (xs_if (xt_wh (xw_and (xt_cmp (x_eq hu) (xe_var 6) xe_int (nomark _) bl_eq) (xw_and1 (xt_cmp x_gt (xe_var 2) xe_int (nomark _) bl_gt))))
 (xss_one (xs_ret (xe_tup (n := 3) (xa_cons xe_str (xa_cons (xe_var 9) (xa_cons (xe_call F__law_block (hr.mono (by first | decide | omega)) bx_takes (by rfl) (xa_cons (xe_var 0) (xa_cons (xe_var 1) (xa_cons (xe_bin x_sub (xe_var 2) xe_int) (xa_cons (xe_var 3) xa_nil))))) xa_nil))))))
 xss_nil)
 (xss_cons (xs_if (xt_wh (xw_and (xt_cmp x_lt (xe_var 6) xe_int (nomark _) bl_lt) (xw_and1 (xt_cmp x_gt (xe_var 2) xe_int (nomark _) bl_gt))))
 (xss_cons (xs_set 10 sc__law_statement.nd (xe_call F__law_block (hr.mono (by first | decide | omega)) bx_takes (by rfl) (xa_cons (xe_var 0) (xa_cons (xe_var 1) (xa_cons (xe_bin x_sub (xe_var 2) xe_int) (xa_cons (xe_var 3) xa_nil))))))
 (xss_one (xs_ret (xe_tup (n := 4) (xa_cons xe_str (xa_cons (xe_var 9) (xa_cons (xe_var 10) (xa_cons (xe_call F__law_block (hr.mono (by first | decide | omega)) bx_takes (by rfl) (xa_cons (xe_var 0) (xa_cons (xe_var 1) (xa_cons (xe_bin x_sub (xe_var 2) xe_int) (xa_cons (xe_var 3) xa_nil))))) xa_nil))))))))
 xss_nil)
 (xss_one (xs_ret (xe_tup (n := 3) (xa_cons xe_str (xa_cons (xe_var 4) (xa_cons (xe_call F__law_place (hr.mono (by first | decide | omega)) bx_takes (by rfl) (xa_cons (xe_var 0) (xa_cons (xe_var 1) xa_nil))) xa_nil))))))))))))))))), fun ds M Q E h => ?_⟩
  obtain ⟨a, b, l, c, xs, hs, d, sg, cr, R, rfl, hn, hd, hh, h⟩ := h
  have sz : (16777216 : Nat) = sizeLine := sizeLine_eq.symm
  simp! []
  refine hn.ask fun x M1 hx hn1 k1 => ?_
  simp! []
  refine hn1.ask fun y M2 hy hn2 k2 => ?_
  simp! []
  refine ⟨a, b, 10, rfl, hn2.st, by decide, by decide, fun pk M3 p0 p1 hs3 k3 => ?_⟩
  have hn3 := hn2.keep hs3 k3
  have k03 := (k1.trans k2).trans k3
  have xin : x ∈ nil_ :: xs := List.mem_cons_of_mem _ hx
  have yin : y ∈ nil_ :: xs := List.mem_cons_of_mem _ hy
  generalize hT : dSeq (dIfS (dAnd _ _) _ _) _ = T
  simp! []
  refine bif_dec (fun z => ?_) fun z => ?_
  · simp! []
    have := h (.read x y) M3 (by rw [St.vl]; exact ⟨xin, yin⟩) (by rw [St.rk]; omega) hn3 k03
    rw [St.enc] at this
    exact this
  simp! []
  refine bif_dec (fun z => ?_) fun z => ?_
  · simp! []
    refine hn3.place fun y2 M4 hy2 hn4 k4 => ?_
    simp! []
    have := h (.link x y2) M4 (by rw [St.vl]; exact ⟨xin, hy2⟩) (by rw [St.rk]; omega) hn4 (k03.trans k4)
    rw [St.enc] at this
    exact this
  simp! []
  refine bif_dec (fun z => ?_) fun z => ?_
  · simp! []
    have := h (.new x) M3 (by rw [St.vl]; exact xin) (by rw [St.rk]; omega) hn3 k03
    rw [St.enc] at this
    exact this
  simp! []
  rw [← hT]
  clear hT
  refine seq_mid (fun e M' => e = [some (.ob a), some (.ob l), some (.int (d : Int)), some (.ob c), some (.str x), some (.str y), some (.int pk), none, none, none, none] ∧ NmAt M' a b l c xs hs ∧ Keep [a] M M') (fun N hN => ?_) ?_
  · simp! []
    refine bif_dec (fun z => ?_) fun z => ?_
    · simp! []
      refine ⟨a, b, 2, rfl, hn3.st, by decide, by decide, fun r M4 _ _ hs4 k4 => ?_⟩
      have hn4 := hn3.keep hs4 k4
      simp! []
      refine bif_dec (fun z => ?_) fun z => ?_
      · simp! []
        have := h (.free x) M4 (by rw [St.vl]; exact xin) (by rw [St.rk]; omega) hn4 (k03.trans k4)
        rw [St.enc] at this
        exact this
      · simp! []
        exact hN _ _ ⟨rfl, hn4, k03.trans k4⟩
    · simp! []
      exact hN _ _ ⟨rfl, hn3, k03⟩
  rintro _ M4 ⟨rfl, hn4, k4⟩
  clear hn1 hn2 hn3 k1 k2 k3 k03 hs3
  refine seq_mid (fun e M' => ∃ d7 d8, e = [some (.ob a), some (.ob l), some (.int (d : Int)), some (.ob c), some (.str x), some (.str y), some (.int pk), d7, d8, none, none] ∧ NmAt M' a b l c xs hs ∧ Keep [a] M M') (fun N hN => ?_) ?_
  · have cne : M4 c = some (.lst (hs.map hD)) := hn4.cm
    simp! []
    refine bif_dec (fun z => ?_) fun z => ?_
    · simp! [cne]
      intro p hp
      have hn4' := hn4.new (o := .lst []) hp
      have k4' := k4.trans (Keep.new (o := .lst []) hp)
      simp! [mupd_ne (ne_new cne hp), cne, List.length_map]
      refine ⟨.inr trivial, ?_⟩
      refine bif_of (fun z => ?_) fun z => ?_
      · have ne : hs ≠ [] := by rintro rfl; simp at z
        generalize mupd M4 p _ = M4 at hn4' k4' ⊢
        simp! []
        refine hn4'.pick ne fun hd1 M5 hm hn5 k5 => ?_
        obtain ⟨nm, m⟩ := hd1
        simp! [hD, hn5.lm, List.length_map]
        refine bif_dec (fun z => ?_) fun z => ?_
        · simp! []
          refine ⟨a, b, l, xs, rfl, hn5.st, hn5.lm, hn5.la, by have := hn5.few; omega, fun qs r M6 pm hr hm6 hs6 k6 => ?_⟩
          have hn6 := hn5.keep hs6 k6
          have et : List.take m (qs.map D.str) = (qs.take m).map D.str := by rw [List.map_take]
          simp! [opSl, hm6, cut_take, et]
          intro q hq
          have lm : (qs.take m).length = m := by
            have := pm.length_eq
            rw [List.length_take]; omega
          have := h (.call nm (qs.take m)) (mupd M6 q (.lst ((qs.take m).map D.str))) (by rw [St.vl, lm]; exact ⟨(hh _ hm).1, fun w hw => List.mem_cons_of_mem _ (pm.mem_iff.mp (List.mem_of_mem_take hw))⟩) (by rw [St.rk]; have := (hh _ hm).2; simp only at this; omega) (hn6.new hq) (((k4'.trans k5).trans k6).trans (Keep.new hq))
          rw [St.enc] at this
          exact this
        · simp! []
          exact hN _ _ ⟨_, _, rfl, hn5, k4'.trans k5⟩
      · simp! []
        exact hN _ _ ⟨_, _, rfl, hn4', k4'⟩
    · simp! []
      exact hN _ _ ⟨_, _, rfl, hn4, k4⟩
  rintro _ M5 ⟨d7, d8, rfl, hn5, k5⟩
  simp! []
  intro p hp
  have hn5' := hn5.new (o := .lst [.str (Str.ofString "same"), .str (Str.ofString "unlike")]) hp
  have k5' := k5.trans (Keep.new (o := .lst [.str (Str.ofString "same"), .str (Str.ofString "unlike")]) hp)
  have p5 : mupd M5 p (.lst [.str (Str.ofString "same"), .str (Str.ofString "unlike")]) p = _ := mupd_same
  have pa := (hn5.st.ne hp).1
  generalize mupd M5 p _ = M5 at hn5' k5' p5 ⊢
  refine ⟨a, b, 2, rfl, hn5'.st, by decide, by decide, fun r M6 r0 r1 hs6 k6 => ?_⟩
  have hn6 := hn5'.keep hs6 k6
  have p6 := k6 _ _ p5 (by simpa using pa)
  obtain ⟨t, et⟩ : ∃ t, atI [D.str (Str.ofString "same"), D.str (Str.ofString "unlike")] r = some (.str (kind t)) := by
    rcases (show r = 0 ∨ r = 1 by omega) with rfl | rfl
    · exact ⟨true, rfl⟩
    · exact ⟨false, rfl⟩
  simp! [p6, et]
  refine hn6.place fun v M7 vin hn7 k7 => ?_
  have k07 := (k5'.trans k6).trans k7
  generalize hT : dSeq (dIfS (dAnd (dTruth (dBin opLt _ _)) _) _ _) _ = T
  have dm : 0 < d → (d : Int) - 1 = ((d - 1 : Nat) : Int) := fun _ => by omega
  have rest : T (retEnds Q E) [some (D.ob a), some (D.ob l), some (D.int ↑d), some (D.ob c), some (D.str x), some (D.str y), some (D.int pk), d7, d8, some (D.tup [D.str (kind t), D.str x, D.str v]), none] M7 := by
    rw [← hT]
    clear hT
    simp! []
    have cp : ∀ u M8, u ∈ nil_ :: xs → NmAt M8 a b l c xs hs → Keep [a] M7 M8 → Q (.tup [.str (Str.ofString "copy"), .str x, .str u]) M8 := fun u M8 hu hn8 k8 => by
      have := h (.copy x u) M8 (by rw [St.vl]; exact ⟨xin, hu⟩) (by rw [St.rk]; omega) hn8 (k07.trans k8)
      rw [St.enc] at this
      exact this
    refine bif_dec (fun z => ?_) fun z => ?_
    · simp! []
      refine bif_dec (fun z2 => ?_) fun z2 => ?_
      · simp! [dm (by omega)]
        refine ⟨a, b, l, c, xs, hs, d - 1, sg, cr, R, rfl, hn7, by omega, hh, fun b1 M8 v1 v2 v3 hn8 k8 => ?_⟩
        simp! [dm (by omega)]
        refine ⟨a, b, l, c, xs, hs, d - 1, sg, cr, R, rfl, hn8, by omega, hh, fun b2 M9 w1 w2 w3 hn9 k9 => ?_⟩
        simp! []
        have := h (.ite t x v b1 b2) M9 (by rw [St.vl]; exact ⟨xin, vin, v1, w1⟩) (by rw [St.rk]; omega) hn9 ((k07.trans k8).trans k9)
        rw [St.enc] at this
        exact this
      · simp! []
        refine hn7.place fun u M8 hu hn8 k8 => ?_
        simp! []
        exact cp u M8 hu hn8 k8
    · simp! []
      refine hn7.place fun u M8 hu hn8 k8 => ?_
      simp! []
      exact cp u M8 hu hn8 k8
  simp! []
  refine bif_dec (fun z => ?_) fun z => ?_
  · simp! []
    refine bif_dec (fun z2 => ?_) fun z2 => ?_
    · simp! [dm (by omega)]
      refine ⟨a, b, l, c, xs, hs, d - 1, sg, cr, R, rfl, hn7, by omega, hh, fun b1 M8 v1 v2 v3 hn8 k8 => ?_⟩
      simp! []
      have := h (.wh t x v b1) M8 (by rw [St.vl]; exact ⟨xin, vin, v1⟩) (by rw [St.rk]; omega) hn8 (k07.trans k8)
      rw [St.enc] at this
      exact this
    · simp! []
      exact rest
  · simp! []
    exact rest
theorem outs_st {sg : Sig} {ks : List Str} {cr : Str → Nat} {m : Nat} : ∀ {is : List Nat} {ds : List D}, Outs (fun _ o => ∃ s : St, (s.vl sg ks ∧ s.rk cr ≤ m) ∧ o = some s.enc) is ds → ∃ b : List St, ds = encL b ∧ vlL sg ks b ∧ rkL cr b ≤ m ∧ b.length = is.length
  | [], _, .nil => ⟨[], by rw [encL], by rw [vlL]; trivial, by rw [rkL]; omega, rfl⟩
  | i :: r, _, .yes hR ho => by
    obtain ⟨s, ⟨hx, hr⟩, e⟩ := hR
    cases e
    obtain ⟨b, rfl, h2, h3, h4⟩ := outs_st ho
    exact ⟨s :: b, by rw [encL], by rw [vlL]; exact ⟨hx, h2⟩, by rw [rkL]; omega, by simp [h4]⟩
  | i :: r, _, .no hR ho => by
    obtain ⟨s, _, e⟩ := hR
    cases e
theorem fn_blk {n : Nat} (S0 : Src K mg "_law_block" s__law_block ["state", "names", "deep", "callees"]) (G : GF K mg C_Stop C_Run) (F__law_draw : Fn P w K mg base 1 "_law_draw" sp_draw []) (F__law_statement : Fn P w K mg base (2 * n + 5) "_law_statement" (sp_stm (n + 1)) []) : Fn P w K mg base (2 * n + 6) "_law_block" (sp_blk (n + 1)) [] := by
  refine S0.fn mono_blk fun g fd F => fn_ok F sc__law_block (fun ds M Q E h => by obtain ⟨a, b, l, c, xs, hs, d, sg, cr, R, rfl, _⟩ := h; rfl) ⟨_, fun cdv A outer s H E hr => have hu := hr.u200
    (xss_one (xs_ret (xe_callTy c_tuple (by rfl) G.tuple (by decide +kernel) (xa_cons (xe_lc (own := [("k", 4)]) (p := .nm 4) rfl sc__law_block.nd (xi_range1 (by rfl) G.range (xa_cons (xe_call F__law_draw (hr.mono (by first | decide | omega)) bx_takes (by rfl) (xa_cons (xe_var 0) (xa_cons xe_int xa_nil))) xa_nil)) (blkOk_by (by first | (show blkC ["state", "names", "deep", "callees", "k"] (defScope s__law_block) _ _ = true; decide +kernel) | kernel_rfl | rfl)) (fun _ _ _ _ _ => (xg_name 4 sc__law_block.nd)) (fun _ _ _ _ _ => xts_nil) (fun _ _ _ _ _ => (xe_call F__law_statement (hr.mono (by first | decide | omega)) takes0 (by rfl) (xa_cons (xe_var 0) (xa_cons (xe_var 1) (xa_cons (xe_var 2) (xa_cons (xe_var 3) xa_nil))))))) xa_nil)))), fun ds M Q E h => ?_⟩
  obtain ⟨a, b, l, c, xs, hs, d, sg, cr, R, rfl, hn, hd, hh, h⟩ := h
  have sz : (16777216 : Nat) = sizeLine := sizeLine_eq.symm
  simp! []
  refine ⟨a, b, 4, rfl, hn.st, by decide, by decide, fun r M1 r0 r1 hs1 k1 => ?_⟩
  have hn1 := hn.keep hs1 k1
  simp! []
  refine ⟨by omega, fun p hp => ?_⟩
  have hpa := (hn1.st.ne hp)
  refine lc_rule (fun i : Nat => D.int (0 + (i : Int))) (fun _ o => ∃ s : St, (s.vl sg (nil_ :: xs) ∧ s.rk cr ≤ d + R) ∧ o = some s.enc) (fun M => NmAt M a b l c xs hs) [a] (List.range _) hp (by simpa using hpa.1) hn1 (fun M' o hj => ⟨hj.st.put hpa.1 hpa.2, by rw [mupd_ne (ne_new hn1.lm hp)]; exact hj.lm, by rw [mupd_ne (ne_new hn1.cm hp)]; exact hj.cm, hj.la, hj.ca, hj.ne, hj.few, hj.fewh⟩) (fun _ _ => trivial) (by rw [List.length_range]; omega) (fun i hi M2 N sk j2 k2 hy _ => ?_) fun M2 out ho j2 k2 e2 => ?_
  · simp! []
    refine ⟨a, b, l, c, xs, hs, d, sg, cr, R, rfl, j2, hd, hh, fun s M3 v1 v2 hn3 k3 => ?_⟩
    exact hy _ M3 ⟨s, ⟨v1, v2⟩, rfl⟩ hn3 k3
  · obtain ⟨bk, rfl, v1, v2, v3⟩ := outs_st ho
    simp! [e2]
    exact h bk M2 v1 v2 (by rw [v3, List.length_range]; omega) j2 (k1.trans k2)
end K10

set_option maxHeartbeats 4000000
namespace K10
open PySem PySem.Spec PyProof.Rows L2 PL SX
variable {P : Program} {w : World} {K : PySem.W.Frag} {mg : Str → Option Value} {base : Heap} {C_Stop C_Run : Addr}
local macro_rules | `(tactic| simp! [$ls,*]) => `(tactic| simp only [s_fld, s_fldK, s_insAt, s_optD, s_obAt, s_fput, s_fputK1, s_fputK2, s_faug, s_faugK1, s_faugK2, s_faugK3, s_meth, s_methK1, s_methK2, s_make, s_makeK, s_makeK2, s_dead, s_tryN, noX_nx, noX_rt, noX_bk, noX_ct, mSplit, opMulS, s_enum, s_enumK, s_sortBy, s_sortByK, look_nil, look_cons, putFD_nil, putFD_cons, List.append_nil, to_nx, to_rt, to_bk, to_ct, to_ex, lp_nx, lp_rt, lp_bk, lp_ct, lp_ex, ret_nx, ret_rt, ret_ex, s_exK, s_bif1, s_bif0, s_optB, s_optE, s_nxD, s_ifK, s_asgN, s_asgT, s_asgL, b_nil, b_nm, b_tp, s_next, s_seq, s_drop, s_ret, s_retN, s_ifS, s_asg, s_brk, s_cont, s_put, s_put1, s_put2, s_put3, s_aug, s_augV, s_augK, s_augK2, s_bin, s_bin1, s_bin2, s_var, s_varK, s_C, s_cb, s_cbK, s_call, s_callK, s_m, s_m1, s_m2, s_nil, s_cons, s_cons1, s_cons2, s_tup, s_tupK, s_lst, s_lstK, s_truth, s_trK, s_tK, s_eK, s_cK, s_and, s_andK, s_or, s_orK, s_not, s_notK, s_ife, s_ifeK, s_andV, s_orV, s_andvK, s_orvK, s_andvK2, s_orvK2, s_notV, s_notvK, s_blK, s_neg, s_negK, s_sl, s_sl1, s_sl2, s_sl3, s_noPart, s_part, s_partK, s_rev, s_revK, s_for, s_forK, s_lc, s_lcK, s_yes, s_walk, s_walkT, s_walkS, s_walkA, s_walkL, s_walkR, s_rng1, s_rng2, s_rng1K, s_rng2K, s_callL, s_callLK, s_callLO, s_clK, s_raise, r_val, r_new, r_put, s_whK, s_lcY, s_lcT, s_lcE, s_cg, s_cgK, s_rng3, s_rng3K, s_lcB, s_lcS, wipeD, Pat.bind, seqOf, rg, s_dict0, s_sortSet, s_sortSetK, q_is_tuple, q_is_str, q_is_int, q_is_bool, q_is_list, q_isR, ofS_inj, String.reduceEq, q_eqI, q_neI, q_eqS, q_neS, decide_true, decide_false, Int.reduceEq, reduceCtorEq, i_NoneType_tuple, i_NoneType_str, i_NoneType_int, i_NoneType_bool, i_NoneType_list, i_bool_tuple, i_bool_str, i_bool_int, i_bool_bool, i_bool_list, i_int_tuple, i_int_str, i_int_int, i_int_bool, i_int_list, i_str_tuple, i_str_str, i_str_int, i_str_bool, i_str_list, i_tuple_tuple, i_tuple_str, i_tuple_int, i_tuple_bool, i_tuple_list, i_list_tuple, i_list_str, i_list_int, i_list_bool, i_list_list, i_dict_tuple, i_dict_str, i_dict_int, i_dict_bool, i_dict_list, tyN, startD, mupd_same, mupd_ne, ne_eq, not_false_eq_true, List.map_cons, List.map_nil, List.length_cons, List.length_nil, List.replicate_succ, List.replicate_zero, Nat.zero_add, Nat.reduceAdd, Nat.reduceSub, Int.cast_ofNat_Int, List.cons_append, List.nil_append, List.getElem?_cons_zero, List.getElem?_cons_succ, List.set_cons_zero, List.set_cons_succ, opIx, atI_cons, ixN, opPut, opAdd, opSub, opMul, opFdiv, opMod, opPow, opLt, opLe, opGt, opGe, opIs, opIsNot, D.isNon, truth, bLen, bAbs, bInt, bTuple, bList, isTy, mAppend, mExtend, mPop, Int.reduceLE, Int.reduceLT, Int.reduceToNat, Int.reduceNeg, Int.reduceNe, Option.bind_some, if_true, if_false, ite_true, ite_false, true_and, and_true, Bool.not_true, Bool.not_false, opIadd, Nat.reduceLT, Nat.reduceLeDiff, Int.ofNat_lt, s_lc2, s_lc2J, s_lc2B, s_lc2T, s_lc2E, s_raiseF, s_raiseFK, s_tryF, s_xf, s_xfK, s_xfAt, s_lenSet, s_lenSetK, opMulT, mInsert, s_zip, s_zipKL, s_zipKT, zipD, s_dpNil, s_dpCons, s_dpK1, s_dpK2, s_dpK3, s_disp, s_dispK, s_optKV, kvOf, s_dc, s_dcK, s_keys, s_lockK, s_sortIt, mGet, mDPop, dgetR, bDictC, bTupC, opEqD, opNeD, eqDR, D.key, merge_one, optKV, id, opEqL, opNeL, eqLR, $ls,*])
theorem fn_blks (S_statement : Src K mg "_law_statement" s__law_statement ["state", "names", "deep", "callees"]) (S_block : Src K mg "_law_block" s__law_block ["state", "names", "deep", "callees"]) (G : GF K mg C_Stop C_Run) (F__law_draw : Fn P w K mg base 1 "_law_draw" sp_draw []) (F__law_one_of : Fn P w K mg base 2 "_law_one_of" sp_one_of []) (F__law_shuffled : Fn P w K mg base 2 "_law_shuffled" sp_shuf []) (F__law_place : Fn P w K mg base 3 "_law_place" sp_place []) : ∀ n, Fn P w K mg base (2 * n + 4) "_law_block" (sp_blk n) [] := by
  intro n
  induction n with
  | zero => exact S_block.fn mono_blk fun f fd F => fn_none fun ds M Q E h => by obtain ⟨_, _, _, _, _, _, _, _, _, _, _, _, h, _⟩ := h; omega
  | succ n F__law_block => exact fn_blk S_block G F__law_draw (fn_stm S_statement G F__law_draw F__law_one_of F__law_shuffled F__law_place F__law_block)
structure SrcG (src : List Pr) : Prop where
  ok : SrcOk src.reverse
  nd : (src.map Pr.nm).Nodup
  each : ∀ p ∈ src, p.ps.length ≤ 2 ∧ p.ls.length ≤ 2 ∧ p.body.length ≤ 3
  rk : ∀ l e p, src.reverse = l ++ p :: e → rkL (rkOf e) p.body ≤ 4 * e.length + 3
theorem SrcG.nil : SrcG [] := ⟨trivial, List.nodup_nil, (fun p h => absurd h List.not_mem_nil), (fun l e p h => by cases l <;> simp at h)⟩
theorem rk_le : ∀ {e : List Pr}, (∀ l e' p, e = l ++ p :: e' → rkL (rkOf e') p.body ≤ 4 * e'.length + 3) → ∀ n, rkOf e n ≤ 4 * e.length
  | [], _, n => Nat.le_refl _
  | p :: e, h, n => by
    unfold rkOf
    split
    · have := h [] e p rfl
      simp only [List.length_cons]; omega
    · have := rk_le (e := e) (fun l e' q z => h (p :: l) e' q (by rw [z]; rfl)) n
      simp only [List.length_cons]; omega
theorem sg_mem : ∀ {e : List Pr} {p : Pr}, (e.map Pr.nm).Nodup → p ∈ e → sgOf e p.nm = some p.ps.length
  | [], _, _, h => by cases h
  | q :: e, p, nd, h => by
    obtain ⟨n1, n2⟩ := List.nodup_cons.mp nd
    unfold sgOf
    rcases List.mem_cons.mp h with rfl | h
    · rw [if_pos rfl]
    · rw [if_neg (fun z => n1 (by rw [z]; exact List.mem_map_of_mem h))]
      exact sg_mem n2 h
theorem ok_tail : ∀ {l e : List Pr}, SrcOk (l ++ e) → SrcOk e
  | [], _, h => h
  | _ :: l, _, h => ok_tail (l := l) h.2.2
theorem SrcG.env {src : List Pr} (h : SrcG src) (few : src.length ≤ 3) {p : Pr} (hp : p ∈ src) : ∃ e, Env src (p :: e) ∧ rkL (rkOf e) p.body < 12 := by
  obtain ⟨l, e, hle⟩ := List.append_of_mem (List.mem_reverse.mpr hp)
  refine ⟨e, ⟨⟨l, hle⟩, h.nd, ok_tail (l := l) (by rw [← hle]; exact h.ok), by omega, fun q hq => by have := h.each q hq; omega⟩, ?_⟩
  have := h.rk l e p hle
  have len := congrArg List.length hle
  rw [List.length_reverse, List.length_append, List.length_cons] at len
  omega
theorem SrcG.add {src : List Pr} (h : SrcG src) {p : Pr} (hn : p.nm ∉ src.map Pr.nm) (hv : vlL (sgOf src.reverse) (nil_ :: (p.ps ++ p.ls)) p.body) (nd : (nil_ :: (p.ps ++ p.ls)).Nodup) (h1 : p.ps.length ≤ 2 ∧ p.ls.length ≤ 2 ∧ p.body.length ≤ 3) (hr : rkL (rkOf src.reverse) p.body ≤ 4 * src.length + 3) : SrcG (src ++ [p]) := by
  refine ⟨by rw [List.reverse_append]; exact ⟨hv, nd, h.ok⟩, ?_, fun q hq => ?_, fun l e q z => ?_⟩
  · rw [List.map_append, List.nodup_append]
    exact ⟨h.nd, by simp, fun x hx y hy => by rw [List.map_cons, List.map_nil, List.mem_singleton] at hy; rw [hy]; exact fun z => hn (z ▸ hx)⟩
  · rcases List.mem_append.mp hq with hq | hq
    · exact h.each q hq
    · rw [List.mem_singleton.mp hq]; exact h1
  · rw [List.reverse_append] at z
    cases l with
    | nil =>
      have z : p :: src.reverse = q :: e := z
      obtain ⟨rfl, rfl⟩ := List.cons.inj z
      rw [List.length_reverse]; exact hr
    | cons x l =>
      have z : p :: src.reverse = x :: (l ++ q :: e) := z
      exact h.rk l e q (List.cons.inj z).2
abbrev hdOf (p : Pr) : Hd := (p.nm, p.ps.length)
theorem SrcG.heads {src : List Pr} (h : SrcG src) : ∀ x ∈ src.map hdOf, sgOf src.reverse x.1 = some x.2 ∧ rkOf src.reverse x.1 + 1 ≤ 4 * src.length + 1 := by
  intro x hx
  obtain ⟨p, hp, rfl⟩ := List.mem_map.mp hx
  have nd : (src.reverse.map Pr.nm).Nodup := by rw [List.map_reverse]; exact (List.reverse_perm _).nodup_iff.mpr h.nd
  have := rk_le h.rk p.nm
  rw [List.length_reverse] at this
  exact ⟨sg_mem nd (List.mem_reverse.mpr hp), Nat.succ_le_succ this⟩
abbrev vx : Str := Str.ofString "x"
abbrev vy : Str := Str.ofString "y"
abbrev vt : Str := Str.ofString "t"
abbrev vu : Str := Str.ofString "u"
abbrev na_ : Str := Str.ofString "p_a"
abbrev nb_ : Str := Str.ofString "p_b"
abbrev nc_ : Str := Str.ofString "p_c"
theorem nd_names (i j : Nat) : (nil_ :: ([vx, vy].take i ++ [vt, vu].take j)).Nodup := by
  have : (nil_ :: ([vx, vy] ++ [vt, vu])).Nodup := by decide +kernel
  exact this.sublist (List.Sublist.cons₂ _ (List.Sublist.append (List.take_sublist _ _) (List.take_sublist _ _)))
structure LsAt (M : Mem) (a b : Addr) (ls : List (Addr × List D)) : Prop where
  st : StAt M a b
  ls : ∀ p ∈ ls, M p.1 = some (.lst p.2) ∧ p.1 ≠ a
theorem LsAt.keep {M M' : Mem} {a b : Addr} {ls : List (Addr × List D)} (h : LsAt M a b ls) (st : StAt M' a b) (k : Keep [a] M M') : LsAt M' a b ls := ⟨st, fun p hp => ⟨k _ _ (h.ls p hp).1 (by simpa using (h.ls p hp).2), (h.ls p hp).2⟩⟩
theorem LsAt.new {M : Mem} {a b r : Addr} {xs : List D} {ls : List (Addr × List D)} (h : LsAt M a b ls) (hr : M r = none) : LsAt (mupd M r (.lst xs)) a b ((r, xs) :: ls) := by
  refine ⟨h.st.new hr, fun p hp => ?_⟩
  rcases List.mem_cons.mp hp with rfl | hp
  · exact ⟨mupd_same, (h.st.ne hr).1⟩
  · exact (h.keep (h.st.new hr) (Keep.new hr)).ls p hp
theorem LsAt.new0 {M : Mem} {a b r : Addr} {o : Ob} {ls : List (Addr × List D)} (h : LsAt M a b ls) (hr : M r = none) : LsAt (mupd M r o) a b ls := h.keep (h.st.new hr) (Keep.new hr)
theorem LsAt.sub {M : Mem} {a b : Addr} {ls ls' : List (Addr × List D)} (h : LsAt M a b ls) (hs : ∀ p ∈ ls', p ∈ ls) : LsAt M a b ls' := ⟨h.st, fun p hp => h.ls p (hs p hp)⟩
theorem LsAt.get {M : Mem} {a b r : Addr} {xs : List D} {ls : List (Addr × List D)} (h : LsAt M a b ls) (hm : (r, xs) ∈ ls) : M r = some (.lst xs) := (h.ls _ hm).1
theorem LsAt.na {M : Mem} {a b r : Addr} {xs : List D} {ls : List (Addr × List D)} (h : LsAt M a b ls) (hm : (r, xs) ∈ ls) : r ≠ a := (h.ls _ hm).2
theorem LsAt.put {M M0 : Mem} {a b r : Addr} {o : Ob} {ls : List (Addr × List D)} (h : LsAt M a b ls) (h0 : LsAt M0 a b ls) (hr : M0 r = none) : LsAt (mupd M r o) a b ls :=
  ⟨h.st.put (h0.st.ne hr).1 (h0.st.ne hr).2, fun p hp => ⟨by rw [mupd_ne (ne_new (h0.ls p hp).1 hr)]; exact (h.ls p hp).1, (h.ls p hp).2⟩⟩
theorem LsAt.g0 {M : Mem} {a b r : Addr} {xs : List D} {ls : List (Addr × List D)} (h : LsAt M a b ((r, xs) :: ls)) : M r = some (.lst xs) := h.get (by simp)
theorem LsAt.n0 {M : Mem} {a b r : Addr} {xs : List D} {ls : List (Addr × List D)} (h : LsAt M a b ((r, xs) :: ls)) : r ≠ a := h.na (xs := xs) (by simp)
theorem LsAt.g1 {M : Mem} {a b r : Addr} {xs : List D} {ls : List (Addr × List D)} {p0 : Addr × List D} (h : LsAt M a b (p0 :: (r, xs) :: ls)) : M r = some (.lst xs) := h.get (by simp)
theorem LsAt.n1 {M : Mem} {a b r : Addr} {xs : List D} {ls : List (Addr × List D)} {p0 : Addr × List D} (h : LsAt M a b (p0 :: (r, xs) :: ls)) : r ≠ a := h.na (xs := xs) (by simp)
theorem LsAt.g2 {M : Mem} {a b r : Addr} {xs : List D} {ls : List (Addr × List D)} {p0 p1 : Addr × List D} (h : LsAt M a b (p0 :: p1 :: (r, xs) :: ls)) : M r = some (.lst xs) := h.get (by simp)
theorem LsAt.n2 {M : Mem} {a b r : Addr} {xs : List D} {ls : List (Addr × List D)} {p0 p1 : Addr × List D} (h : LsAt M a b (p0 :: p1 :: (r, xs) :: ls)) : r ≠ a := h.na (xs := xs) (by simp)
theorem LsAt.g3 {M : Mem} {a b r : Addr} {xs : List D} {ls : List (Addr × List D)} {p0 p1 p2 : Addr × List D} (h : LsAt M a b (p0 :: p1 :: p2 :: (r, xs) :: ls)) : M r = some (.lst xs) := h.get (by simp)
theorem LsAt.n3 {M : Mem} {a b r : Addr} {xs : List D} {ls : List (Addr × List D)} {p0 p1 p2 : Addr × List D} (h : LsAt M a b (p0 :: p1 :: p2 :: (r, xs) :: ls)) : r ≠ a := h.na (xs := xs) (by simp)
theorem LsAt.g4 {M : Mem} {a b r : Addr} {xs : List D} {ls : List (Addr × List D)} {p0 p1 p2 p3 : Addr × List D} (h : LsAt M a b (p0 :: p1 :: p2 :: p3 :: (r, xs) :: ls)) : M r = some (.lst xs) := h.get (by simp)
theorem LsAt.n4 {M : Mem} {a b r : Addr} {xs : List D} {ls : List (Addr × List D)} {p0 p1 p2 p3 : Addr × List D} (h : LsAt M a b (p0 :: p1 :: p2 :: p3 :: (r, xs) :: ls)) : r ≠ a := h.na (xs := xs) (by simp)
theorem LsAt.g5 {M : Mem} {a b r : Addr} {xs : List D} {ls : List (Addr × List D)} {p0 p1 p2 p3 p4 : Addr × List D} (h : LsAt M a b (p0 :: p1 :: p2 :: p3 :: p4 :: (r, xs) :: ls)) : M r = some (.lst xs) := h.get (by simp)
theorem LsAt.n5 {M : Mem} {a b r : Addr} {xs : List D} {ls : List (Addr × List D)} {p0 p1 p2 p3 p4 : Addr × List D} (h : LsAt M a b (p0 :: p1 :: p2 :: p3 :: p4 :: (r, xs) :: ls)) : r ≠ a := h.na (xs := xs) (by simp)
theorem LsAt.g6 {M : Mem} {a b r : Addr} {xs : List D} {ls : List (Addr × List D)} {p0 p1 p2 p3 p4 p5 : Addr × List D} (h : LsAt M a b (p0 :: p1 :: p2 :: p3 :: p4 :: p5 :: (r, xs) :: ls)) : M r = some (.lst xs) := h.get (by simp)
theorem LsAt.n6 {M : Mem} {a b r : Addr} {xs : List D} {ls : List (Addr × List D)} {p0 p1 p2 p3 p4 p5 : Addr × List D} (h : LsAt M a b (p0 :: p1 :: p2 :: p3 :: p4 :: p5 :: (r, xs) :: ls)) : r ≠ a := h.na (xs := xs) (by simp)
theorem LsAt.g7 {M : Mem} {a b r : Addr} {xs : List D} {ls : List (Addr × List D)} {p0 p1 p2 p3 p4 p5 p6 : Addr × List D} (h : LsAt M a b (p0 :: p1 :: p2 :: p3 :: p4 :: p5 :: p6 :: (r, xs) :: ls)) : M r = some (.lst xs) := h.get (by simp)
theorem LsAt.n7 {M : Mem} {a b r : Addr} {xs : List D} {ls : List (Addr × List D)} {p0 p1 p2 p3 p4 p5 p6 : Addr × List D} (h : LsAt M a b (p0 :: p1 :: p2 :: p3 :: p4 :: p5 :: p6 :: (r, xs) :: ls)) : r ≠ a := h.na (xs := xs) (by simp)
theorem LsAt.g8 {M : Mem} {a b r : Addr} {xs : List D} {ls : List (Addr × List D)} {p0 p1 p2 p3 p4 p5 p6 p7 : Addr × List D} (h : LsAt M a b (p0 :: p1 :: p2 :: p3 :: p4 :: p5 :: p6 :: p7 :: (r, xs) :: ls)) : M r = some (.lst xs) := h.get (by simp)
theorem LsAt.n8 {M : Mem} {a b r : Addr} {xs : List D} {ls : List (Addr × List D)} {p0 p1 p2 p3 p4 p5 p6 p7 : Addr × List D} (h : LsAt M a b (p0 :: p1 :: p2 :: p3 :: p4 :: p5 :: p6 :: p7 :: (r, xs) :: ls)) : r ≠ a := h.na (xs := xs) (by simp)
theorem LsAt.g9 {M : Mem} {a b r : Addr} {xs : List D} {ls : List (Addr × List D)} {p0 p1 p2 p3 p4 p5 p6 p7 p8 : Addr × List D} (h : LsAt M a b (p0 :: p1 :: p2 :: p3 :: p4 :: p5 :: p6 :: p7 :: p8 :: (r, xs) :: ls)) : M r = some (.lst xs) := h.get (by simp)
theorem LsAt.n9 {M : Mem} {a b r : Addr} {xs : List D} {ls : List (Addr × List D)} {p0 p1 p2 p3 p4 p5 p6 p7 p8 : Addr × List D} (h : LsAt M a b (p0 :: p1 :: p2 :: p3 :: p4 :: p5 :: p6 :: p7 :: p8 :: (r, xs) :: ls)) : r ≠ a := h.na (xs := xs) (by simp)
def sp_src : DSp := fun ds M Q E => ∃ (a b : Addr), ds = [.ob a, .int 3] ∧ StAt M a b ∧ ∀ (src : List Pr) M', SrcG src → src ≠ [] → src.length ≤ 3 → StAt M' a b → Keep [a] M M' → Q (.tup (src.map Pr.enc)) M'
theorem mono_src : MonoSp sp_src := by
  rintro ds M Q Q' E E' hQ hE ⟨a, b, h1, h2, h⟩
  exact ⟨a, b, h1, h2, fun src M' z1 z2 z3 z4 z5 => hQ _ _ (h src M' z1 z2 z3 z4 z5)⟩
theorem fn_src (S0 : Src K mg "_law_source" s__law_source ["state", "most"]) (G : GF K mg C_Stop C_Run) (F__law_draw : Fn P w K mg base 1 "_law_draw" sp_draw []) (F__law_picture : Fn P w K mg base 5 "_law_picture" sp_picture []) (F__law_block : Fn P w K mg base 10 "_law_block" (sp_blk 3) []) : Fn P w K mg base 11 "_law_source" sp_src [] := by
  refine S0.fn mono_src fun g fd F => fn_ok F sc__law_source (fun ds M Q E h => by obtain ⟨a, b, rfl, _⟩ := h; rfl) ⟨_, fun cdv A outer s H E hr => have hu := hr.u200
    (xss_cons (xs_set 2 sc__law_source.nd (xe_lst (n := 0) xa_nil))
 (xss_cons (xs_set 3 sc__law_source.nd (xe_lst (n := 0) xa_nil))
 (xss_cons (xs_for (p := .nm 4) bx_passes rfl (xi_walk (xe_sl (xe_lst (n := 3) (xa_cons xe_str (xa_cons xe_str (xa_cons xe_str xa_nil)))) xo_none (xo_some (xe_bin x_add xe_int (xe_call F__law_draw (hr.mono (by first | decide | omega)) bx_takes (by rfl) (xa_cons (xe_var 0) (xa_cons (xe_var 1) xa_nil))))))) (xg_name 4 sc__law_source.nd)
 (xss_cons (xs_set 5 sc__law_source.nd (xe_sl (xe_lst (n := 2) (xa_cons xe_str (xa_cons xe_str xa_nil))) xo_none (xo_some (xe_bin x_add xe_int (xe_call F__law_draw (hr.mono (by first | decide | omega)) bx_takes (by rfl) (xa_cons (xe_var 0) (xa_cons xe_int xa_nil)))))))
 (xss_cons (xs_set 6 sc__law_source.nd (xe_sl (xe_lst (n := 2) (xa_cons xe_str (xa_cons xe_str xa_nil))) xo_none (xo_some (xe_call F__law_draw (hr.mono (by first | decide | omega)) bx_takes (by rfl) (xa_cons (xe_var 0) (xa_cons xe_int xa_nil))))))
 (xss_cons (xs_set 7 sc__law_source.nd (xe_call F__law_picture (hr.mono (by first | decide | omega)) bx_takes (by rfl) (xa_cons (xe_var 0) (xa_cons (xe_var 5) (xa_cons xe_int xa_nil)))))
 (xss_cons (xs_set 8 sc__law_source.nd (xe_callTy c_tuple (by rfl) G.tuple (by decide +kernel) (xa_cons (xe_lc (own := [("k", 10)]) (p := .nm 10) rfl sc__law_source.nd (xi_range1 (by rfl) G.range (xa_cons (xe_call F__law_draw (hr.mono (by first | decide | omega)) bx_takes (by rfl) (xa_cons (xe_var 0) (xa_cons xe_int xa_nil))) xa_nil)) (blkOk_by (by first | (show blkC ["state", "most", "procs", "callees", "name", "parameters", "places", "need", "ensures", "body", "k"] (defScope s__law_source) _ _ = true; decide +kernel) | kernel_rfl | rfl)) (fun _ _ _ _ _ => (xg_name 10 sc__law_source.nd)) (fun _ _ _ _ _ => xts_nil) (fun _ _ _ _ _ => (xe_call F__law_picture (hr.mono (by first | decide | omega)) takes0 (by rfl) (xa_cons (xe_var 0) (xa_cons (xe_bin x_add (xe_var 5) (xe_var 6)) (xa_cons xe_int xa_nil)))))) xa_nil)))
 (xss_cons (xs_set 9 sc__law_source.nd (xe_call F__law_block (hr.mono (by first | decide | omega)) bx_takes (by rfl) (xa_cons (xe_var 0) (xa_cons (xe_bin x_add (xe_var 5) (xe_var 6)) (xa_cons xe_int (xa_cons (xe_var 3) xa_nil))))))
 (xss_cons (xs_expr (xe_bm PySem.F.plainAttrs_list PySem.F.slot_list_append PySem.F.type_list_append m_append (xe_var 2) (xa_cons (xe_tup (n := 6) (xa_cons (xe_var 4) (xa_cons (xe_callTy c_tuple (by rfl) G.tuple (by decide +kernel) (xa_cons (xe_var 5) xa_nil)) (xa_cons (xe_callTy c_tuple (by rfl) G.tuple (by decide +kernel) (xa_cons (xe_var 6) xa_nil)) (xa_cons (xe_var 7) (xa_cons (xe_var 8) (xa_cons (xe_var 9) xa_nil))))))) xa_nil)))
 (xss_one (xs_expr (xe_bm PySem.F.plainAttrs_list PySem.F.slot_list_append PySem.F.type_list_append m_append (xe_var 3) (xa_cons (xe_tup (n := 2) (xa_cons (xe_var 4) (xa_cons (xe_callB c_len (by rfl) G.len (by decide +kernel) (xa_cons (xe_var 5) xa_nil)) xa_nil))) xa_nil)))))))))))
 (xss_one (xs_ret (xe_callTy c_tuple (by rfl) G.tuple (by decide +kernel) (xa_cons (xe_var 2) xa_nil))))))), fun ds M Q E h => ?_⟩
  obtain ⟨a, b, rfl, hst, h⟩ := h
  have sz : (16777216 : Nat) = sizeLine := sizeLine_eq.symm
  simp! []
  intro q hq c hc n0 hn0
  have cq : c ≠ q := fun e => by rw [e, mupd_same] at hc; cases hc
  have nq : n0 ≠ q := fun e => by rw [e] at hn0; by_cases z : q = c <;> simp [mupd, z] at hn0
  have nc : n0 ≠ c := fun e => by rw [e, mupd_same] at hn0; cases hn0
  have st1 := ((hst.new (o := .lst []) hq).new (o := .lst []) hc).new (o := .lst [.str na_, .str nb_, .str nc_]) hn0
  have k1 := ((Keep.new (S := [a]) (o := .lst []) hq).trans (Keep.new (o := .lst []) hc)).trans (Keep.new (o := .lst [.str na_, .str nb_, .str nc_]) hn0)
  have q1 : mupd (mupd (mupd M q (.lst [])) c (.lst [])) n0 (.lst [.str na_, .str nb_, .str nc_]) q = some (.lst []) := by rw [mupd_ne nq.symm, mupd_ne cq.symm, mupd_same]
  have c1 : mupd (mupd (mupd M q (.lst [])) c (.lst [])) n0 (.lst [.str na_, .str nb_, .str nc_]) c = some (.lst []) := by rw [mupd_ne nc.symm, mupd_same]
  have n1 : mupd (mupd (mupd M q (.lst [])) c (.lst [])) n0 (.lst [.str na_, .str nb_, .str nc_]) n0 = some (.lst [.str na_, .str nb_, .str nc_]) := mupd_same
  have qa := (hst.ne hq).1
  have ca := ((hst.new (o := .lst []) hq).ne hc).1
  have na := (((hst.new (o := .lst []) hq).new (o := .lst []) hc).ne hn0).1
  have hcM : M c = none := by rwa [mupd_ne cq] at hc
  generalize mupd (mupd (mupd M q _) c _) n0 _ = M1 at st1 k1 q1 c1 n1 ⊢
  refine ⟨a, b, 3, rfl, st1, by decide, by decide, fun k M2 k0 k3 st2 k2 => ?_⟩
  have q2 := k2 _ _ q1 (by simpa using qa)
  have c2 := k2 _ _ c1 (by simpa using ca)
  have n2 := k2 _ _ n1 (by simpa using na)
  have k02 := k1.trans k2
  obtain ⟨kk, rfl⟩ : ∃ kk : Nat, k = (kk : Int) := ⟨k.toNat, by omega⟩
  have e1 : (1 : Int) + (kk : Int) = ((1 + kk : Nat) : Int) := by omega
  have et : List.take (1 + kk) [D.str na_, D.str nb_, D.str nc_] = ([na_, nb_, nc_].take (1 + kk)).map D.str := by rw [List.map_take]; rfl
  simp! [n2, opSl, e1, cut_take, et]
  intro n4 hn4
  generalize hnms : [na_, nb_, nc_].take (1 + kk) = nms
  have nml : nms.length = 1 + kk := by rw [← hnms, List.length_take]; simp only [List.length_cons, List.length_nil]; omega
  have nmd : nms.Nodup := by
    have : [na_, nb_, nc_].Nodup := by decide +kernel
    rw [← hnms]
    exact this.sublist (List.take_sublist _ _)
  have n4q := ne_new q2 hn4
  have n4c := ne_new c2 hn4
  refine loop_inv D.str (fun rest env M' => ∃ (src : List Pr) (d4 d5 d6 d7 d8 d9 d10 : Option D), nms = src.map Pr.nm ++ rest ∧ env = [some (.ob a), some (.int 3), some (.ob q), some (.ob c), d4, d5, d6, d7, d8, d9, d10] ∧ LsAt M' a b [(q, src.map Pr.enc), (c, (src.map hdOf).map hD), (n4, nms.map D.str)] ∧ Keep [q, c, a] M M' ∧ SrcG src) (fun _ _ _ ⟨_, _, _, _, _, _, _, _, _, _, z, _⟩ => .inl z.g2) ?_ ?_ nms _ _ ⟨[], none, none, none, none, none, none, none, rfl, rfl, ⟨st2.new hn4, fun p hp => ?_⟩, (k02.trans (Keep.new hn4)).weaken (by simp), .nil⟩
  · rintro nm rest env M4 N ⟨src, d4, d5, d6, d7, d8, d9, d10, e2, rfl, ls4, k4, gs⟩ hN
    have sl : src.length < 3 := by
      have := congrArg List.length e2
      rw [List.length_append, List.length_map, List.length_cons] at this; omega
    simp! []
    intro r1 hr1
    have ls5 := ls4.new (xs := [.str vx, .str vy]) hr1
    have f1q : r1 ≠ q := (ne_new ls4.g0 hr1).symm
    generalize hM5 : mupd M4 r1 _ = M5 at ls5 ⊢
    refine ⟨a, b, 2, rfl, ls5.st, by decide, by decide, fun i M6 i0 i2 st6 k6 => ?_⟩
    have ls6 := ls5.keep st6 k6
    obtain ⟨ii, rfl⟩ : ∃ ii : Nat, i = (ii : Int) := ⟨i.toNat, by omega⟩
    have ei : (1 : Int) + (ii : Int) = ((1 + ii : Nat) : Int) := by omega
    have eti : List.take (1 + ii) [D.str vx, D.str vy] = ([vx, vy].take (1 + ii)).map D.str := by rw [List.map_take]; rfl
    simp! [ls6.g0, opSl, ei, cut_take, eti]
    generalize hPa : [vx, vy].take (1 + ii) = Pa
    have Pal : Pa.length = 1 + ii := by rw [← hPa, List.length_take]; simp only [List.length_cons, List.length_nil]; omega
    have Pan : Pa ≠ [] := by rintro rfl; simp only [List.length_nil] at Pal; omega
    intro r2 hr2 r3 hr3
    have r2q := (ne_new ls6.g1 hr2).symm
    have r2c := (ne_new ls6.g2 hr2).symm
    have ls7 := (ls6.new (xs := Pa.map D.str) hr2).new (xs := [.str vt, .str vu]) hr3
    generalize hM7 : mupd (mupd M6 r2 _) r3 _ = M7 at ls7 ⊢
    refine ⟨a, b, 3, rfl, ls7.st, by decide, by decide, fun j M8 j0 j3 st8 k8 => ?_⟩
    have ls8 := ls7.keep st8 k8
    obtain ⟨jj, rfl⟩ : ∃ jj : Nat, j = (jj : Int) := ⟨j.toNat, by omega⟩
    have etj : List.take jj [D.str vt, D.str vu] = ([vt, vu].take jj).map D.str := by rw [List.map_take]; rfl
    simp! [ls8.g0, opSl, cut_take, etj]
    generalize hLa : [vt, vu].take jj = La
    have Lal : La.length ≤ 2 := by rw [← hLa, List.length_take]; simp only [List.length_cons, List.length_nil]; omega
    have nd : (nil_ :: (Pa ++ La)).Nodup := by rw [← hPa, ← hLa]; exact nd_names _ _
    intro r4 hr4
    have ls9 := ls8.new (xs := La.map D.str) hr4
    generalize hM9 : mupd M8 r4 _ = M9 at ls9 ⊢
    refine ⟨a, b, r2, Pa, 2, rfl, ls9.st, ls9.g2, ls9.n2, Pan, by omega, by decide, fun need M10 st10 k10 => ?_⟩
    have lsA := ls9.keep st10 k10
    simp! []
    refine ⟨a, b, 3, rfl, lsA.st, by decide, by decide, fun t M11 t0 t3 st11 k11 => ?_⟩
    have lsB := lsA.keep st11 k11
    simp! []
    refine ⟨by omega, fun r5 hr5 => ?_⟩
    refine lc_rule (fun i : Nat => D.int (0 + (i : Int))) (fun _ _ => True) (fun M => LsAt M a b _) [a] (List.range _) hr5 (by simpa using (lsB.st.ne hr5).1) lsB (fun M' o hj => hj.put lsB hr5) (fun _ _ => trivial) (by rw [List.length_range]; omega) (fun i hi M12 N2 sk j12 k12 hy _ => ?_) fun M12 out ho ls12 k12 e12 => ?_
    · simp! [j12.g0, j12.g2]
      refine ⟨by simp only [List.length_map]; omega, fun r6 hr6 => ?_⟩
      rw [← List.map_append]
      have j13 := j12.new (xs := (Pa ++ La).map D.str) hr6
      have k13 := Keep.new (S := [a]) (o := .lst ((Pa ++ La).map D.str)) hr6
      refine ⟨a, b, r6, Pa ++ La, 2, rfl, j13.st, j13.g0, j13.n0, by simp [Pan], by rw [List.length_append]; omega, by decide, fun d M14 st14 k14 => ?_⟩
      exact hy _ M14 trivial (j12.keep st14 (k13.trans k14)) (k13.trans k14)
    simp! [e12, ls12.g0, ls12.g2]
    refine ⟨by simp only [List.length_map]; omega, fun r7 hr7 => ?_⟩
    rw [← List.map_append]
    have ls13 := ls12.new (xs := (Pa ++ La).map D.str) hr7
    generalize hM13 : mupd M12 r7 _ = M13 at ls13 ⊢
    refine ⟨a, b, r7, c, Pa ++ La, src.map hdOf, 2, sgOf src.reverse, rkOf src.reverse, 4 * src.length + 1, rfl, ⟨ls13.st, ls13.g0, ls13.g6, ls13.n0, ls13.n6, by simp [Pan], by rw [List.length_append]; omega, by rw [List.length_map]; omega⟩, by decide, gs.heads, fun bk M14 v1 v2 v3 hn14 k14 => ?_⟩
    have ls14 := ls13.keep hn14.st k14
    simp! [ls14.g3, ls14.g1, ls14.g5, ls14.g6, mupd_ne cq, mupd_ne r2q, List.length_map]
    refine ⟨by omega, by omega, ?_⟩
    have nmn : nm ∉ src.map Pr.nm := fun z => by
      rw [e2] at nmd
      exact (List.nodup_append.mp nmd).2.2 nm z nm (by simp) rfl
    have good := gs.add (p := ⟨nm, Pa, La, need, .tup out, bk⟩) nmn v1 nd ⟨by show Pa.length ≤ 2; omega, Lal, v3⟩ (by show rkL _ bk ≤ _; omega)
    have n4q' : n4 ≠ q := n4q.symm
    have n4c' : n4 ≠ c := n4c.symm
    have k45 : Keep [a] M4 M5 := by rw [← hM5]; exact Keep.new hr1
    have k67 : Keep [a] M6 M7 := by rw [← hM7]; exact (Keep.new hr2).trans (Keep.new hr3)
    have k89 : Keep [a] M8 M9 := by rw [← hM9]; exact Keep.new hr4
    have k1213 : Keep [a] M12 M13 := by rw [← hM13]; exact Keep.new hr7
    have kA : Keep [a] M4 M14 := ((((((((k45.trans k6).trans k67).trans k8).trans k89).trans k10).trans k11).trans k12).trans k1213).trans k14
    have stf := (ls14.st.put (o := .lst ((src ++ [Pr.mk nm Pa La need (.tup out) bk]).map Pr.enc)) ls14.n5 (hst.ne hq).2).put (o := .lst (((src ++ [Pr.mk nm Pa La need (.tup out) bk]).map hdOf).map hD)) ls14.n6 (hst.ne hcM).2
    have ee1 : src.map Pr.enc ++ [D.tup [D.str nm, D.tup (Pa.map D.str), D.tup (La.map D.str), need, D.tup out, D.tup (encL bk)]] = (src ++ [Pr.mk nm Pa La need (.tup out) bk]).map Pr.enc := by rw [List.map_append]; rfl
    have ee2 : (src.map hdOf).map hD ++ [D.tup [D.str nm, D.int (Pa.length : Int)]] = ((src ++ [Pr.mk nm Pa La need (.tup out) bk]).map hdOf).map hD := by rw [List.map_append, List.map_append]; rfl
    rw [ee1, ee2]
    refine hN _ _ ⟨src ++ [Pr.mk nm Pa La need (.tup out) bk], _, _, _, _, _, _, _, by rw [e2, List.map_append]; simp, rfl, ⟨stf, fun x hx => ?_⟩, (k4.trans (kA.weaken (by simp))).trans ((Keep.put (by simp)).trans (Keep.put (by simp))), good⟩
    simp only [List.mem_cons, List.not_mem_nil, or_false] at hx
    rcases hx with rfl | rfl | rfl
    · exact ⟨by rw [mupd_ne cq.symm, mupd_same], ls14.n5⟩
    · exact ⟨mupd_same, ls14.n6⟩
    · exact ⟨by rw [mupd_ne n4c', mupd_ne n4q']; exact ls14.g7, ls14.n7⟩
  · rintro env M4 ⟨src, d4, d5, d6, d7, d8, d9, d10, e2, rfl, ls4, k4, gs⟩
    simp! [ls4.g0]
    rw [List.append_nil] at e2
    have sl : src.length = 1 + kk := by rw [← nml, e2, List.length_map]
    exact h src M4 gs (by rintro rfl; simp at sl; omega) (by omega) ls4.st (fun b' o hb hn => k4 _ _ hb (by simp [ne_new hb hq, ne_new hb hcM]; simpa using hn))
  · simp only [List.mem_cons, List.not_mem_nil, or_false] at hp
    rcases hp with rfl | rfl | rfl
    · exact ⟨by rw [mupd_ne (ne_new q2 hn4)]; exact q2, qa⟩
    · exact ⟨by rw [mupd_ne (ne_new c2 hn4)]; exact c2, ca⟩
    · exact ⟨mupd_same, (st2.ne hn4).1⟩
end K10

set_option maxHeartbeats 4000000
namespace K10
open PySem PySem.Spec PyProof.Rows L2 PL SX
variable {P : Program} {w : World} {K : PySem.W.Frag} {mg : Str → Option Value} {base : Heap} {C_Stop C_Run : Addr}
local macro_rules | `(tactic| simp! [$ls,*]) => `(tactic| simp only [s_fld, s_fldK, s_insAt, s_optD, s_obAt, s_fput, s_fputK1, s_fputK2, s_faug, s_faugK1, s_faugK2, s_faugK3, s_meth, s_methK1, s_methK2, s_make, s_makeK, s_makeK2, s_dead, s_tryN, noX_nx, noX_rt, noX_bk, noX_ct, mSplit, opMulS, s_enum, s_enumK, s_sortBy, s_sortByK, look_nil, look_cons, putFD_nil, putFD_cons, List.append_nil, to_nx, to_rt, to_bk, to_ct, to_ex, lp_nx, lp_rt, lp_bk, lp_ct, lp_ex, ret_nx, ret_rt, ret_ex, s_exK, s_bif1, s_bif0, s_optB, s_optE, s_nxD, s_ifK, s_asgN, s_asgT, s_asgL, b_nil, b_nm, b_tp, s_next, s_seq, s_drop, s_ret, s_retN, s_ifS, s_asg, s_brk, s_cont, s_put, s_put1, s_put2, s_put3, s_aug, s_augV, s_augK, s_augK2, s_bin, s_bin1, s_bin2, s_var, s_varK, s_C, s_cb, s_cbK, s_call, s_callK, s_m, s_m1, s_m2, s_nil, s_cons, s_cons1, s_cons2, s_tup, s_tupK, s_lst, s_lstK, s_truth, s_trK, s_tK, s_eK, s_cK, s_and, s_andK, s_or, s_orK, s_not, s_notK, s_ife, s_ifeK, s_andV, s_orV, s_andvK, s_orvK, s_andvK2, s_orvK2, s_notV, s_notvK, s_blK, s_neg, s_negK, s_sl, s_sl1, s_sl2, s_sl3, s_noPart, s_part, s_partK, s_rev, s_revK, s_for, s_forK, s_lc, s_lcK, s_yes, s_walk, s_walkT, s_walkS, s_walkA, s_walkL, s_walkR, s_rng1, s_rng2, s_rng1K, s_rng2K, s_callL, s_callLK, s_callLO, s_clK, s_raise, r_val, r_new, r_put, s_whK, s_lcY, s_lcT, s_lcE, s_cg, s_cgK, s_rng3, s_rng3K, s_lcB, s_lcS, wipeD, Pat.bind, seqOf, rg, s_dict0, s_sortSet, s_sortSetK, q_is_tuple, q_is_str, q_is_int, q_is_bool, q_is_list, q_isR, ofS_inj, String.reduceEq, q_eqI, q_neI, q_eqS, q_neS, decide_true, decide_false, Int.reduceEq, reduceCtorEq, i_NoneType_tuple, i_NoneType_str, i_NoneType_int, i_NoneType_bool, i_NoneType_list, i_bool_tuple, i_bool_str, i_bool_int, i_bool_bool, i_bool_list, i_int_tuple, i_int_str, i_int_int, i_int_bool, i_int_list, i_str_tuple, i_str_str, i_str_int, i_str_bool, i_str_list, i_tuple_tuple, i_tuple_str, i_tuple_int, i_tuple_bool, i_tuple_list, i_list_tuple, i_list_str, i_list_int, i_list_bool, i_list_list, i_dict_tuple, i_dict_str, i_dict_int, i_dict_bool, i_dict_list, tyN, startD, mupd_same, mupd_ne, ne_eq, not_false_eq_true, List.map_cons, List.map_nil, List.length_cons, List.length_nil, List.replicate_succ, List.replicate_zero, Nat.zero_add, Nat.reduceAdd, Nat.reduceSub, Int.cast_ofNat_Int, List.cons_append, List.nil_append, List.getElem?_cons_zero, List.getElem?_cons_succ, List.set_cons_zero, List.set_cons_succ, opIx, atI_cons, ixN, opPut, opAdd, opSub, opMul, opFdiv, opMod, opPow, opLt, opLe, opGt, opGe, opIs, opIsNot, D.isNon, truth, bLen, bAbs, bInt, bTuple, bList, isTy, mAppend, mExtend, mPop, Int.reduceLE, Int.reduceLT, Int.reduceToNat, Int.reduceNeg, Int.reduceNe, Option.bind_some, if_true, if_false, ite_true, ite_false, true_and, and_true, Bool.not_true, Bool.not_false, opIadd, Nat.reduceLT, Nat.reduceLeDiff, Int.ofNat_lt, s_lc2, s_lc2J, s_lc2B, s_lc2T, s_lc2E, s_raiseF, s_raiseFK, s_tryF, s_xf, s_xfK, s_xfAt, s_lenSet, s_lenSetK, opMulT, mInsert, s_zip, s_zipKL, s_zipKT, zipD, s_dpNil, s_dpCons, s_dpK1, s_dpK2, s_dpK3, s_disp, s_dispK, s_optKV, kvOf, s_dc, s_dcK, s_keys, s_lockK, s_sortIt, mGet, mDPop, dgetR, bDictC, bTupC, opEqD, opNeD, eqDR, D.key, merge_one, optKV, id, opEqL, opNeL, eqLR, $ls,*])
def sp_law (K : PySem.W.Frag) : DSp := fun ds M Q E => ∃ (a : Addr) (ns : List Int), ds = [.ob a] ∧ Scr K M a ns ∧ ∀ M', Q (.bl true) M'
theorem mono_law : MonoSp (sp_law K) := by
  rintro ds M Q Q' E E' hQ hE ⟨a, ns, h1, h2, h⟩
  exact ⟨a, ns, h1, h2, fun M' => hQ _ _ (h M')⟩
theorem fn_same (S : Src K mg "_law_same" s__law_same ["x", "y"]) (G : GF K mg C_Stop C_Run) (F__law_is_int : Fn P w K mg base 1 "_law_is_int" sp_is_int []) : ∀ n, Fn P w K mg base (n + 2) "_law_same" (sp_same n) [] := by
  intro n
  induction n with
  | zero => exact S.fn mono_same fun f fd F => fn_none fun ds M Q E ⟨d, _, _, h, _⟩ => by omega
  | succ n F__law_same =>
  refine S.fn mono_same fun f fd F => fn_ok F sc__law_same (fun ds M Q E h => by obtain ⟨d, rfl, _⟩ := h; rfl) ⟨_, fun cdv A outer s H E hr => have hu := hr.u200
    (xss_cons (xs_if (xt_val (xe_callB c_isi (by rfl) G.isinstance (by decide +kernel) (xa_cons (xe_var 1) (xa_cons (xe_bltn (v := .ty "tuple") (by rfl) G.tuple (by decide +kernel) rfl) xa_nil))))
 (xss_cons (xs_if (xt_wh (xw_or (xt_not (xt_val (xe_callB c_isi (by rfl) G.isinstance (by decide +kernel) (xa_cons (xe_var 0) (xa_cons (xe_bltn (v := .ty "tuple") (by rfl) G.tuple (by decide +kernel) rfl) xa_nil))))) (xw_or1 (xt_cmp (x_ne hu) (xe_callB c_len (by rfl) G.len (by decide +kernel) (xa_cons (xe_var 0) xa_nil)) (xe_callB c_len (by rfl) G.len (by decide +kernel) (xa_cons (xe_var 1) xa_nil)) (nomark _) bl_ne))))
 (xss_one (xs_ret xe_bl))
 xss_nil)
 (xss_one (xs_ret (xe_callB (c_all rfl) (by rfl) G.all (by decide +kernel) (xa_cons (xe_lc (own := [("k", 2)]) (p := .nm 2) rfl sc__law_same.nd (xi_range1 (by rfl) G.range (xa_cons (xe_callB c_len (by rfl) G.len (by decide +kernel) (xa_cons (xe_var 1) xa_nil)) xa_nil)) (blkOk_by (by first | (show blkC ["x", "y", "k"] (defScope s__law_same) _ _ = true; decide +kernel) | kernel_rfl | rfl)) (fun _ _ _ _ _ => (xg_name 2 sc__law_same.nd)) (fun _ _ _ _ _ => xts_nil) (fun _ _ _ _ _ => (xe_call F__law_same (hr.mono (by first | decide | omega)) takes0 (by rfl) (xa_cons (xe_ix hu (xe_var 0) (xe_var 2)) (xa_cons (xe_ix hu (xe_var 1) (xe_var 2)) xa_nil))))) xa_nil)))))
 xss_nil)
 (xss_cons (xs_if (xt_val (xe_callB c_isi (by rfl) G.isinstance (by decide +kernel) (xa_cons (xe_var 1) (xa_cons (xe_bltn (v := .ty "str") (by rfl) G.str (by decide +kernel) rfl) xa_nil))))
 (xss_one (xs_ret (xe_and (xe_callB c_isi (by rfl) G.isinstance (by decide +kernel) (xa_cons (xe_var 0) (xa_cons (xe_bltn (v := .ty "str") (by rfl) G.str (by decide +kernel) rfl) xa_nil))) (xe_one (xe_cmp (x_eq hu) (xe_var 0) (xe_var 1) (nomark _))))))
 xss_nil)
 (xss_one (xs_ret (xe_and (xe_call F__law_is_int (hr.mono (by first | decide | omega)) bx_takes (by rfl) (xa_cons (xe_var 0) xa_nil)) (xe_one (xe_cmp (x_eq hu) (xe_var 0) (xe_var 1) (nomark _)))))))), fun ds M Q E h => ?_⟩
  obtain ⟨d, rfl, hd, hn, h⟩ := h
  match d, hd with
  | .v (.int i), hd =>
    simp! []
    refine ⟨i, rfl, ?_⟩
    simp! []
    exact h _ Keep.refl
  | .v (.str x), hd =>
    simp! []
    exact h _ Keep.refl
  | .tup es, hd =>
    simp only [D.dat, Bool.and_eq_true, decide_eq_true_eq] at hd
    simp only [D.dp] at hn
    simp! []
    refine ⟨by omega, fun a ha => ?_⟩
    refine lc_pure (fun i : Nat => D.int (0 + (i : Int))) (fun _ => D.bl true) (fun _ => true) (List.range _) ha (fun _ _ => trivial) (by rw [List.length_range, sizeLine_eq]; omega) (fun i hi M' N sk k hy _ => ?_) fun M' k e => ?_
    · have hi := List.mem_range.mp hi
      have hi2 : i < es.length := by omega
      simp! [atI_nat' hi2]
      refine ⟨es[i], rfl, datL_mem hd.2 _ (List.getElem_mem hi2), dpL_mem (n := n - 1) (by omega) _ (List.getElem_mem hi2) |> fun z => by omega, fun M'' k2 => hy rfl M'' k2⟩
    · simp! []
      exact run_all (g := fun _ => true) e (by rw [show (List.all _ fun _ => true) = true by simp]; exact h M' k)
theorem datL_of {ds : List D} (h : ∀ d ∈ ds, d.dat = true) : datL ds = true := by
  induction ds with
  | nil => rfl
  | cons d r ih => simp only [datL, h d List.mem_cons_self, ih fun e he => h e (List.mem_cons_of_mem _ he), Bool.and_self]
theorem dpL_of {ds : List D} {n : Nat} (h : ∀ d ∈ ds, d.dp ≤ n) : dpL ds ≤ n := by
  induction ds with
  | nil => exact Nat.zero_le _
  | cons d r ih =>
    simp only [dpL]
    exact Nat.max_le.mpr ⟨h d List.mem_cons_self, ih fun e he => h e (List.mem_cons_of_mem _ he)⟩
theorem dat_tup {ds : List D} (hl : ds.length < 1000000) (h : ∀ d ∈ ds, d.dat = true) : (D.tup ds).dat = true := by
  simp only [D.dat, datL_of h, Bool.and_true, decide_eq_true_eq]
  exact hl
theorem dp_tup {ds : List D} {n : Nat} (h : ∀ d ∈ ds, d.dp ≤ n) : (D.tup ds).dp ≤ n + 1 := by
  have := dpL_of h
  simp only [D.dp]
  omega
theorem stop_dat {w : Bool} : (D.tup [.str (word w)]).dat = true ∧ (D.tup [.str (word w)]).dp < 6 := ⟨rfl, (by decide : (1 : Nat) < 6)⟩
theorem done_dat {I : Pl} {ys : Hq} (h1 : I.length < 1000) (h2 : ys.length < 1000) : (D.tup [.str wDone, .tup (stackD I), .tup (ys.map pairI)]).dat = true ∧ (D.tup [.str wDone, .tup (stackD I), .tup (ys.map pairI)]).dp < 6 := by
  have s1 : ∀ d ∈ stackD I, d.dat = true ∧ d.dp ≤ 1 := fun d hd => by
    obtain ⟨x, _, rfl⟩ := List.mem_map.mp (List.mem_mergeSort.mp hd)
    exact ⟨rfl, Nat.le_refl 1⟩
  have s2 : ∀ d ∈ ys.map pairI, d.dat = true ∧ d.dp ≤ 1 := fun d hd => by
    obtain ⟨x, _, rfl⟩ := List.mem_map.mp hd
    exact ⟨rfl, Nat.le_refl 1⟩
  have l1 : (stackD I).length < 1000 := by
    unfold stackD
    rw [List.length_mergeSort, List.length_map]
    have := List.length_filter_le (fun p : Str × Int => decide (p.1 ≠ nil_)) I
    omega
  have all : ∀ d ∈ [D.str wDone, .tup (stackD I), .tup (ys.map pairI)], d.dat = true ∧ d.dp ≤ 2 := fun d hd => by
    simp only [List.mem_cons, List.not_mem_nil, or_false] at hd
    rcases hd with rfl | rfl | rfl
    · exact ⟨rfl, by decide⟩
    · exact ⟨dat_tup (by omega) fun d hd => (s1 d hd).1, dp_tup fun d hd => (s1 d hd).2⟩
    · exact ⟨dat_tup (by rw [List.length_map]; omega) fun d hd => (s2 d hd).1, dp_tup fun d hd => (s2 d hd).2⟩
  refine ⟨dat_tup (by simp) fun d hd => (all d hd).1, ?_⟩
  have := dp_tup fun d hd => (all d hd).2
  omega
theorem outs_ints : ∀ {xs : List Str} {ds : List D}, Outs (fun _ o => ∃ v : Int, o = some (.int v)) xs ds → ∃ vs : List Int, ds = vs.map D.int ∧ vs.length = xs.length
  | [], _, .nil => ⟨[], rfl, rfl⟩
  | x :: r, _, .yes hR ho => by
    obtain ⟨v, e⟩ := hR
    cases e
    obtain ⟨vs, rfl, h2⟩ := outs_ints ho
    exact ⟨v :: vs, rfl, by simp [h2]⟩
  | x :: r, _, .no hR ho => by
    obtain ⟨v, e⟩ := hR
    cases e
theorem ok_law {f : Addr} {fd : FuncData} (F : Fun K "law" "law" s_law f fd) (G : GF K mg C_Stop C_Run) (F__law_start : Fn P w K mg base 1 "_law_start" (sp_start K) []) (F__law_draw : Fn P w K mg base 1 "_law_draw" sp_draw []) (F__law_one_of : Fn P w K mg base 2 "_law_one_of" sp_one_of [])
    (F__law_source : Fn P w K mg base 11 "_law_source" sp_src []) (F_run : Fn P w K mg base 57 "run" (sp_top 12) []) (F__law_run : Fn P w K mg base 57 "_law_run" (sp_lrun 12) []) (F__law_same : Fn P w K mg base 8 "_law_same" (sp_same 6) []) : FnOk P w K mg base (L2.CX P w) 60 f fd ["script"] (liftSp K (sp_law K)) := by
  refine fn_ok F sc_law (fun ds M Q E h => by obtain ⟨a, m, rfl, _⟩ := h; rfl) ⟨_, fun cdv A outer s H E hr => have hu := hr.u200
    (xss_cons (xs_set 1 sc_law.nd (xe_call F__law_start (hr.mono (by first | decide | omega)) bx_takes (by rfl) (xa_cons (xe_var 0) xa_nil)))
 (xss_cons (xs_for (p := .nm 2) bx_passes rfl (xi_range1 (by rfl) G.range (xa_cons xe_int xa_nil)) (xg_name 2 sc_law.nd)
 (xss_cons (xs_set 3 sc_law.nd (xe_call F__law_source (hr.mono (by first | decide | omega)) bx_takes (by rfl) (xa_cons (xe_var 1) (xa_cons xe_int xa_nil))))
 (xss_cons (xs_asg (p := .tp [.nm 4, .nm 5, .nm 6, .nm 7, .nm 8, .nm 9]) (xe_call F__law_one_of (hr.mono (by first | decide | omega)) bx_takes (by rfl) (xa_cons (xe_var 1) (xa_cons (xe_var 3) xa_nil))) (xg_tup rfl (xgs_cons (xg_name 4 sc_law.nd) (xgs_cons (xg_name 5 sc_law.nd) (xgs_cons (xg_name 6 sc_law.nd) (xgs_cons (xg_name 7 sc_law.nd) (xgs_cons (xg_name 8 sc_law.nd) (xgs_cons (xg_name 9 sc_law.nd) xgs_nil))))))))
 (xss_one (xs_for (p := .nm 10) bx_passes rfl (xi_range1 (by rfl) G.range (xa_cons xe_int xa_nil)) (xg_name 10 sc_law.nd)
 (xss_cons (xs_setLc 11 (own := [("x", 16)]) (p := .nm 16) rfl sc_law.nd rfl (sw_true rfl rfl rfl (by decide +kernel)) (xi_walk (xe_var 5)) (blkOk_by (by first | (show blkC ["script", "state", "turn", "source", "name", "parameters", "places", "need", "ensures", "body", "again", "addresses", "heap", "k", "cells", "fuel", "x"] (defScope s_law) _ _ = true; decide +kernel) | kernel_rfl | rfl)) (fun _ _ _ _ _ => (xg_name 16 sc_law.nd)) (fun _ _ _ _ _ => xts_nil) (fun _ _ _ _ _ => (xe_call F__law_draw (hr.mono (by first | decide | omega)) takes0 (by rfl) (xa_cons (xe_var 1) (xa_cons xe_int xa_nil)))))
 (xss_cons (xs_set 12 sc_law.nd xe_dict0)
 (xss_cons (xs_for (p := .nm 13) bx_passes rfl (xi_range1 (by rfl) G.range (xa_cons (xe_call F__law_draw (hr.mono (by first | decide | omega)) bx_takes (by rfl) (xa_cons (xe_var 1) (xa_cons xe_int xa_nil))) xa_nil)) (xg_name 13 sc_law.nd)
 (xss_one (xs_put hu (xe_call F__law_draw (hr.mono (by first | decide | omega)) bx_takes (by rfl) (xa_cons (xe_var 1) (xa_cons xe_int xa_nil))) (xe_var 12) (xe_bin x_add xe_int (xe_call F__law_draw (hr.mono (by first | decide | omega)) bx_takes (by rfl) (xa_cons (xe_var 1) (xa_cons xe_int xa_nil)))))))
 (xss_cons (xs_set 14 sc_law.nd (xe_callTy c_tupC (by rfl) G.tuple (by decide +kernel) (xa_cons (xe_lc (own := [("k", 13)]) (p := .nm 13) rfl sc_law.nd (xi_walk (xe_callG bSortD_mono (c_sortD rfl) (by rfl) G.sorted (by decide +kernel) (xa_cons (xe_var 12) xa_nil))) (blkOk_by (by first | (show blkC ["script", "state", "turn", "source", "name", "parameters", "places", "need", "ensures", "body", "again", "addresses", "heap", "k", "cells", "fuel", "x"] (defScope s_law) _ _ = true; decide +kernel) | kernel_rfl | rfl)) (fun _ _ _ _ _ => (xg_name 13 sc_law.nd)) (fun _ _ _ _ _ => xts_nil) (fun _ _ _ _ _ => (xe_tup (n := 2) (xa_cons (xe_var 13) (xa_cons (xe_ix hu (xe_var 12) (xe_var 13)) xa_nil))))) xa_nil)))
 (xss_cons (xs_set 15 sc_law.nd (xe_call F__law_draw (hr.mono (by first | decide | omega)) bx_takes (by rfl) (xa_cons (xe_var 1) (xa_cons xe_int xa_nil))))
 (xss_one (xs_if (xt_not (xt_val (xe_call F__law_same (hr.mono (by first | decide | omega)) bx_takes (by rfl) (xa_cons (xe_call F_run (hr.mono (by first | decide | omega)) bx_takes (by rfl) (xa_cons (xe_var 3) (xa_cons (xe_var 4) (xa_cons (xe_var 11) (xa_cons (xe_var 14) (xa_cons (xe_var 15) xa_nil)))))) (xa_cons (xe_call F__law_run (hr.mono (by first | decide | omega)) bx_takes (by rfl) (xa_cons (xe_var 3) (xa_cons (xe_var 4) (xa_cons (xe_var 11) (xa_cons (xe_var 12) (xa_cons (xe_var 15) xa_nil)))))) xa_nil)))))
 (xss_one (xs_ret xe_bl))
 xss_nil))))))))))))
 (xss_one (xs_ret xe_bl)))), fun ds M Q E h => ?_⟩
  obtain ⟨a, ns, rfl, hs, h⟩ := h
  have sz : (16777216 : Nat) = sizeLine := sizeLine_eq.symm
  simp! []
  refine ⟨a, ns, rfl, hs, fun s b M1 _ _ hs1 k1 => ?_⟩
  simp! []
  refine ⟨by decide, ?_⟩
  refine loop_inv (fun i : Nat => D.int (0 + (i : Int))) (fun rest env M' => ∃ (d2 d3 d4 d5 d6 d7 d8 d9 d10 d11 d12 d13 d14 d15 d16 : Option D), env = [some (.ob a), some (.ob s), d2, d3, d4, d5, d6, d7, d8, d9, d10, d11, d12, d13, d14, d15, d16] ∧ StAt M' s b) (fun _ _ _ _ => trivial) ?_ ?_ (List.range 3) _ _ ⟨none, none, none, none, none, none, none, none, none, none, none, none, none, none, none, rfl, hs1⟩
  · rintro turn rest env M2 N ⟨d2, d3, d4, d5, d6, d7, d8, d9, d10, d11, d12, d13, d14, d15, d16, rfl, hs2⟩ hN
    simp! []
    refine ⟨s, b, rfl, hs2, fun src M3 good ne few hs3 k3 => ?_⟩
    simp! []
    refine ⟨s, b, .tup (src.map Pr.enc), src.map Pr.enc, rfl, hs3, rfl, rfl, by simpa using ne, by rw [List.length_map]; omega, fun x M4 hx hs4 k4 => ?_⟩
    obtain ⟨p, hp, rfl⟩ := List.mem_map.mp hx
    obtain ⟨e, hE, rk⟩ := good.env few hp
    have pe := good.each p hp
    simp! [Pr.enc]
    refine ⟨by decide, ?_⟩
    refine loop_inv (fun i : Nat => D.int (0 + (i : Int))) (fun rest env M' => ∃ (d10 d11 d12 d13 d14 d15 d16 : Option D), env = [some (.ob a), some (.ob s), some (.int (0 + (turn : Int))), some (.tup (src.map Pr.enc)), some (.str p.nm), some (.tup (p.ps.map D.str)), some (.tup (p.ls.map D.str)), some p.need, some p.ens, some (.tup (encL p.body)), d10, d11, d12, d13, d14, d15, d16] ∧ StAt M' s b) (fun _ _ _ _ => trivial) ?_ ?_ (List.range 6) _ _ ⟨d10, d11, d12, d13, d14, d15, d16, rfl, hs4⟩
    · rintro again rest env M5 N5 ⟨d10, d11, d12, d13, d14, d15, d16, rfl, hs5⟩ hN5
      simp! []
      intro ad had
      refine lc_rule D.str (fun _ o => ∃ v : Int, o = some (.int v)) (fun M => StAt M s b) [s] p.ps had (by simpa using (hs5.ne had).1) hs5 (fun M' o hj => hj.put (hs5.ne had).1 (hs5.ne had).2) (fun _ _ => trivial) (by omega) (fun i hi M6 N2 sk j6 k6 hy _ => ?_) fun M6 out ho j6 k6 e6 => ?_
      · simp! []
        refine ⟨s, b, 5, rfl, j6, by decide, by decide, fun v M7 _ _ hs7 k7 => ?_⟩
        exact hy _ M7 ⟨v, rfl⟩ hs7 k7
      obtain ⟨vs, rfl, vl⟩ := outs_ints ho
      simp! []
      intro hd hhd
      have ads : ad ≠ s := (hs5.ne had).1
      have hda : ad ≠ hd := ne_new e6 hhd
      have hds := j6.ne hhd
      refine ⟨s, b, 5, rfl, j6.new hhd, by decide, by decide, fun r M7 r0 r5 hs7 k7 => ?_⟩
      have e7 : M7 ad = some (.lst (vs.map D.int)) := k7 _ _ (by rw [mupd_ne hda]; exact e6) (by simpa using ads)
      have h7 : HeapAt M7 hd [] := k7 _ _ mupd_same (by simpa using hds.1)
      simp! []
      refine ⟨by omega, ?_⟩
      refine loop_inv (fun i : Nat => D.int (0 + (i : Int))) (fun rest env M' => ∃ (H : Hq) (d13 : Option D), env = [some (.ob a), some (.ob s), some (.int (0 + (turn : Int))), some (.tup (src.map Pr.enc)), some (.str p.nm), some (.tup (p.ps.map D.str)), some (.tup (p.ls.map D.str)), some p.need, some p.ens, some (.tup (encL p.body)), some (.int (0 + (again : Int))), some (.ob ad), some (.ob hd), d13, d14, d15, d16] ∧ HeapAt M' hd H ∧ (keys H).Nodup ∧ H.length + rest.length ≤ 4 ∧ M' ad = some (.lst (vs.map D.int)) ∧ StAt M' s b) (fun _ _ _ _ => trivial) ?_ ?_ (List.range r.toNat) _ _ ⟨[], d13, rfl, h7, List.nodup_nil, by rw [List.length_range]; simp only [List.length_nil]; omega, e7, hs7⟩
      · rintro kk rest2 env M8 N8 ⟨H, d13, rfl, h8, nd8, l8, e8, hs8⟩ hN8
        simp! []
        refine ⟨s, b, 6, rfl, hs8, by decide, by decide, fun v M9 v0 v6 hs9 k9 => ?_⟩
        have h9 : M9 hd = some (.dk (H.map entD)) := k9 _ _ h8 (by simpa using hds.1)
        have e9 := k9 _ _ e8 (by simpa using ads)
        simp! []
        refine ⟨s, b, 5, rfl, hs9, by decide, by decide, fun u M10 u0 u5 hs10 k10 => ?_⟩
        have h10 : M10 hd = some (.dk (H.map entD)) := k10 _ _ h9 (by simpa using hds.1)
        have e10 := k10 _ _ e9 (by simpa using ads)
        simp! [h10, D.key]
        refine ⟨by rw [List.length_map]; simp only [List.length_cons] at l8; omega, ?_⟩
        rw [show putD (H.map entD) (Sum.inl (1 + u)) (D.int v) = (setL H (1 + u) v).map entD from put_h H (1 + u) v]
        refine hN8 _ _ ⟨setL H (1 + u) v, _, rfl, mupd_same, set_nodup nd8, ?_, by rw [mupd_ne hda]; exact e10, hs10.put hds.1 hds.2⟩
        have := set_len (P := H) (k := 1 + u) (v := v)
        simp only [List.length_cons] at l8
        omega
      · rintro env M8 ⟨H, d13, rfl, h8, nd8, l8, e8, hs8⟩
        have h8' : M8 hd = some (.dk (H.map entD)) := h8
        simp only [List.length_nil] at l8
        simp! []
        refine ⟨hd, H.map entD, rfl, .inl h8, .inr ⟨keys H, ?_, ?_, fun ks l1 kp pw hl1 => ?_⟩⟩
        · show (H.map entD).map (·.1) = (keys H).map Sum.inl
          rw [List.map_map, List.map_map]; rfl
        · rw [List.length_map]; omega
        have a9 : mupd M8 l1 (.lst (ks.map D.int)) ad = _ := (mupd_ne (ne_new e8 hl1)).trans e8
        have h9 : mupd M8 l1 (.lst (ks.map D.int)) hd = some (.dk (H.map entD)) := (mupd_ne (ne_new h8 hl1)).trans h8
        have s9 : StAt (mupd M8 l1 (.lst (ks.map D.int))) s b := hs8.new hl1
        have r9 : mupd M8 l1 (.lst (ks.map D.int)) l1 = _ := mupd_same
        generalize mupd M8 l1 _ = M9 at a9 h9 s9 r9 ⊢
        simp! [r9]
        intro l2 hl2
        have kl := kp.length_eq
        rw [List.length_map] at kl
        have kmem : ∀ k ∈ ks, k ∈ keys H := fun k hk => kp.mem_iff.mp hk
        refine lc_pure D.int (fun k => pairI (k, (look H k).getD 0)) (fun _ => true) ks hl2 (fun M' k => .inl (k _ _ r9 (by simp))) (by omega) (fun k hk M10 N10 sk k10 hy _ => ?_) fun M10 k10 e10 => ?_
        · have h10 := k10 _ _ h9 (by simp)
          obtain ⟨v, ev⟩ := Option.isSome_iff_exists.mp (look_mem.mpr (kmem k hk))
          have el : look (H.map entD) (Sum.inl k : Key) = some (.int ((look H k).getD 0)) := by rw [look_h, ev]; rfl
          simp! [h10, D.key, el]
          exact hy rfl _ Keep.refl
        rw [filter_tt] at e10
        generalize hms : (ks.map fun k => (k, (look H k).getD 0)) = ms
        have e10 : M10 l2 = some (.lst (ms.map pairI)) := by rw [e10, ← hms, List.map_map]; rfl
        have gH : (keys H).map (fun k => (k, (look H k).getD 0)) = H := by
          rw [List.map_map]
          conv => rhs; rw [← List.map_id H]
          refine List.map_congr_left fun q hq => ?_
          simp only [Function.comp, look_in nd8 hq]
          rfl
        have pm : ms.Perm H := by
          have := kp.map fun k => (k, (look H k).getD 0)
          rw [gH, hms] at this
          exact this
        have ndm : (keys ms).Nodup := (perm_keys pm).nodup_iff.mpr nd8
        have mlen := pm.length_eq
        have a10 := k10 _ _ a9 (by simp)
        have h10 := k10 _ _ h9 (by simp)
        have s10 := s9.keep k10
        simp! [e10]
        intro ct hct
        have a11 := (mupd_ne (o := .ctp (ms.map pairI)) (ne_new a10 hct)).trans a10
        have h11 := (mupd_ne (o := .ctp (ms.map pairI)) (ne_new h10 hct)).trans h10
        have s11 : StAt (mupd M10 ct (.ctp (ms.map pairI))) s b := s10.new hct
        have c11 : mupd M10 ct (.ctp (ms.map pairI)) ct = some (.ctp (ms.map pairI)) := mupd_same
        have cts := (s10.ne hct).1
        generalize mupd M10 ct _ = M11 at a11 h11 s11 c11 ⊢
        refine ⟨s, b, 61, rfl, s11, by decide, by decide, fun fu M12 f0 f1 s12 k12 => ?_⟩
        have a12 := k12 _ _ a11 (by simpa using ads)
        have h12 := k12 _ _ h11 (by simpa using hds.1)
        have c12 := k12 _ _ c11 (by simpa using cts)
        obtain ⟨fn, rfl⟩ : ∃ n : Nat, fu = (n : Int) := ⟨fu.toNat, by omega⟩
        simp! []
        refine ⟨ad, ct, src, e, p, vs, ms, fn, rfl, hE, a12, c12, vl, ndm, by omega, by omega, rk, fun M13 k13 => ?_⟩
        have a13 := k13 _ _ a12 fun fs z => by cases z
        have h13 := k13 _ _ h12 fun fs z => by cases z
        have s13 : StAt M13 s b := by
          obtain ⟨p1, p2, p3, p4, p5, p6, p7⟩ := s12
          exact ⟨p1, p2, p3, p4, k13 _ _ p5 (fun fs z => by cases z), k13 _ _ p6 (fun fs z => by cases z), p7⟩
        have rel := run_perm hE vl (f := fn) pm ndm
        have bd := bdL (cf_ok hE.ok.2.2) p.body hE.ok.1 (start p vs) ms fn (start_keys vl hE.ok.2.1) ndm
        cases e1 : runP (callOf e) p vs ms fn with
        | stop x =>
          cases e2 : runP (callOf e) p vs H fn with
          | ok _ _ _ => rw [e1, e2] at rel; exact rel.elim
          | stop y =>
            rw [e1, e2] at rel
            have rel : x = y := rel
            subst rel
            simp! []
            refine ⟨ad, hd, src, e, p, vs, H, fn, rfl, hE, a13, h13, vl, nd8, by omega, by omega, pe.2.2, rk, fun M14 k14 => ?_⟩
            rw [e2]
            simp! []
            refine ⟨_, rfl, stop_dat.1, stop_dat.2, fun M15 k15 => ?_⟩
            simp! []
            exact hN5 _ _ ⟨_, _, _, _, _, _, _, rfl, (s13.keep k14).keep k15⟩
        | ok I H1 g1 =>
          cases e2 : runP (callOf e) p vs H fn with
          | stop _ => rw [e1, e2] at rel; exact rel.elim
          | ok I2 H2 g2 =>
            rw [e1, e2] at rel
            obtain ⟨rfl, ph, rfl⟩ := rel
            have e1' : exL (callOf e) p.body (start p vs) ms fn = .ok I H1 g1 := e1
            rw [e1'] at bd
            obtain ⟨kI, ndH, lH, _⟩ := bd
            have Il : I.length < 1000 := by
              have := congrArg List.length kI
              simp only [List.length_map, List.length_cons, List.length_append] at this
              omega
            intro ys py wy
            have yl := py.length_eq
            simp! []
            refine ⟨ad, hd, src, e, p, vs, H, fn, rfl, hE, a13, h13, vl, nd8, by omega, by omega, pe.2.2, rk, fun M14 k14 => ?_⟩
            rw [e2]
            intro zs pz wz
            have ez : ys = zs := asc_one ((py.trans ph).trans pz.symm) ((perm_keys py).nodup_iff.mpr ndH) wy wz
            subst ez
            simp! []
            refine ⟨_, rfl, (done_dat Il (by omega)).1, (done_dat Il (by omega)).2, fun M15 k15 => ?_⟩
            simp! []
            exact hN5 _ _ ⟨_, _, _, _, _, _, _, rfl, (s13.keep k14).keep k15⟩
    · rintro env M5 ⟨d10, d11, d12, d13, d14, d15, d16, rfl, hs5⟩
      exact hN _ _ ⟨_, _, _, _, _, _, _, _, _, _, _, _, _, _, _, rfl, hs5⟩
  · rintro env M2 ⟨d2, d3, d4, d5, d6, d7, d8, d9, d10, d11, d12, d13, d14, d15, d16, rfl, hs2⟩
    simp! []
    exact h M2
end K10

set_option maxHeartbeats 4000000
namespace K10
open PySem PySem.Spec PyProof.Rows L2 PL SX
variable {P : Program} {w : World} {K : PySem.W.Frag} {mg : Str → Option Value} {base : Heap} {C_Stop C_Run : Addr}
theorem law_script {K : PySem.W.Frag} {M : Mem} {a : Addr} {ns : List Int} (hl : ns.length ≤ 63) (h : Scr K M a ns) : sp_law K [.ob a] M (fun d _ => d = .bl true) fun _ _ _ => False := ⟨a, ns, rfl, h, fun _ => rfl⟩
theorem all_ok {f : Addr} {fd : FuncData} (G : GF K mg C_Stop C_Run) (R_Stop : FClsG P w K mg base 1 "Stop" C_Stop "word") (S_Run___init__ : KSrc K mg "Run" C_Run "Run.__init__" s_Run___init__ ["self", "source", "heap", "fuel"]) (S_Run_spend : MSrc K C_Run "spend" "Run.spend" s_Run_spend ["self"] []) (S_Run_cell : MSrc K C_Run "cell" "Run.cell" s_Run_cell ["self", "address"] []) (S_Run_simple : MSrc K C_Run "simple" "Run.simple" s_Run_simple ["self", "statement", "places"] []) (S_Run_new : MSrc K C_Run "new" "Run.new" s_Run_new ["self"] []) (S_Run_call : MSrc K C_Run "call" "Run.call" s_Run_call ["self", "proc", "args", "places"] []) (S_Run_is_true : MSrc K C_Run "is_true" "Run.is_true" s_Run_is_true ["self", "test", "places"] []) (S_Run_body : MSrc K C_Run "body" "Run.body" s_Run_body ["self", "body", "places"] []) (S_Run_run : MSrc K C_Run "run" "Run.run" s_Run_run ["self", "proc", "addresses"] []) (S_proc_named : Src K mg "proc_named" s_proc_named ["source", "name"]) (S_run : Src K mg "run" s_run ["source", "name", "addresses", "heap", "fuel"]) (S__law_start : Src K mg "_law_start" s__law_start ["script"]) (S__law_draw : Src K mg "_law_draw" s__law_draw ["state", "most"]) (S__law_one_of : Src K mg "_law_one_of" s__law_one_of ["state", "items"]) (S__law_shuffled : Src K mg "_law_shuffled" s__law_shuffled ["state", "items"]) (S__law_is_int : Src K mg "_law_is_int" s__law_is_int ["x"]) (S__law_same : Src K mg "_law_same" s__law_same ["x", "y"]) (S__law_place : Src K mg "_law_place" s__law_place ["state", "names"]) (S__law_pairs : Src K mg "_law_pairs" s__law_pairs ["state", "names", "many"]) (S__law_picture : Src K mg "_law_picture" s__law_picture ["state", "names", "most"]) (S__law_statement : Src K mg "_law_statement" s__law_statement ["state", "names", "deep", "callees"]) (S__law_block : Src K mg "_law_block" s__law_block ["state", "names", "deep", "callees"]) (S__law_source : Src K mg "_law_source" s__law_source ["state", "most"]) (S__law_stop : Src K mg "_law_stop" s__law_stop ["world", "word"]) (S__law_spent : Src K mg "_law_spent" s__law_spent ["world"]) (S__law_step : Src K mg "_law_step" s__law_step ["world", "s", "places"]) (S__law_is_met : Src K mg "_law_is_met" s__law_is_met ["test", "places"]) (S__law_body : Src K mg "_law_body" s__law_body ["world", "body", "places"]) (S__law_proc : Src K mg "_law_proc" s__law_proc ["world", "proc", "addresses"]) (S__law_run : Src K mg "_law_run" s__law_run ["source", "name", "addresses", "heap", "fuel"]) (F : Fun K "law" "law" s_law f fd) : FnOk P w K mg base (L2.CX P w) 60 f fd ["script"] (liftSp K (sp_law K)) := by
  have F__law_start := fn_start (P := P) (w := w) (base := base) S__law_start G
  have F__law_draw := fn_draw (P := P) (w := w) (base := base) S__law_draw G
  have F__law_one_of := fn_one_of S__law_one_of G F__law_draw
  have F__law_is_int := fn_is_int (P := P) (w := w) (base := base) S__law_is_int G
  have F__law_same := fn_same (P := P) (w := w) (base := base) S__law_same G F__law_is_int 6
  have K_Run := fn_rinit (P := P) (w := w) (base := base) S_Run___init__ G
  have M_spend := fn_spend (P := P) (w := w) (base := base) S_Run_spend G R_Stop
  have M_cell := fn_cell (P := P) (w := w) (base := base) S_Run_cell G R_Stop
  have M_new := fn_new (P := P) (w := w) (base := base) S_Run_new G
  have M_is_true := fn_is_true (P := P) (w := w) (base := base) S_Run_is_true G
  have F_named := fn_named (P := P) (w := w) (base := base) S_proc_named G
  have M_body := fn_bodies (P := P) (w := w) (base := base) S_Run_run S_Run_call S_Run_simple S_Run_body G M_spend M_is_true M_cell M_new F_named 12
  have M_run := fn_run (n := 12) S_Run_run G M_body
  have F_run := fn_top (n := 12) S_run G F_named K_Run M_run
  have F_stop := fn_lstop (P := P) (w := w) (base := base) S__law_stop G
  have F_spent := fn_spent (P := P) (w := w) (base := base) S__law_spent G
  have F_met := fn_met (P := P) (w := w) (base := base) S__law_is_met G
  have F_lbody := fn_lbodies (P := P) (w := w) (base := base) S__law_proc S__law_step S__law_body G F_stop F_spent F_met 12
  have F_lproc := fn_lproc (n := 12) S__law_proc G F_lbody
  have F_lrun := fn_lrun (n := 12) S__law_run G F_lproc
  have F_shuf := fn_shuf S__law_shuffled G F__law_draw
  have F_place := fn_place S__law_place G F__law_draw F__law_one_of
  have F_pairs := fn_pairs S__law_pairs G F_place
  have F_picture := fn_picture S__law_picture G F__law_draw F_pairs
  have F_block := fn_blks S__law_statement S__law_block G F__law_draw F__law_one_of F_shuf F_place 3
  have F_source := fn_src S__law_source G F__law_draw F_picture F_block
  exact ok_law F G F__law_start F__law_draw F__law_one_of F_source F_run F_lrun F__law_same
end K10

set_option maxHeartbeats 4000000
namespace K10
open PySem PySem.Spec PyProof.Rows L2 PL SX
theorem all_mk {l : PySem.W.OpenLaw} {w : World} {K : PySem.W.Frag} {h : Heap} {mg : Str → Option Value} {fa f1 f2 f3 f4 f5 f6 f7 f8 f9 f10 f11 f12 f13 f14 f15 f16 f17 f18 f19 f20 f21 f22 C_Stop C_Run f23 f24 f25 f26 f27 f28 f29 f30 f31 : Addr} (X : K.In h) (G : h.Ns mainGlobals mg) (hfa : mg "law" = some (.ref fa))
    {od1 an1 od2 an2 od3 an3 od4 an4 od5 an5 od6 an6 od7 an7 od8 an8 od9 an9 od10 an10 od11 an11 od12 an12 od13 an13 od14 an14 od15 an15 od16 an16 od17 an17 od18 an18 od19 an19 od20 an20 od21 an21 od22 an22 od23 an23 od24 an24 od25 an25 od26 an26 od27 an27 od28 an28 od29 an29 od30 an30 od31 an31 : Option Addr} {sl1 sl2 sl3 sl4 sl5 sl6 sl7 sl8 sl9 sl10 sl11 sl12 sl13 sl14 sl15 sl16 sl17 sl18 sl19 sl20 sl21 sl22 sl23 sl24 sl25 sl26 sl27 sl28 sl29 sl30 sl31 : Array (Option Value)} {oc1 kV1 dc1 pm1 cd1 ct1 oc2 kV2 dc2 pm2 cd2 ct2 oc3 kV3 dc3 pm3 cd3 ct3 oc4 kV4 dc4 pm4 cd4 ct4 oc5 kV5 dc5 pm5 cd5 ct5 oc6 kV6 dc6 pm6 cd6 ct6 oc7 kV7 dc7 pm7 cd7 ct7 oc8 kV8 dc8 pm8 cd8 ct8 oc9 kV9 dc9 pm9 cd9 ct9 oc10 kV10 dc10 pm10 cd10 ct10 oc11 kV11 dc11 pm11 cd11 ct11 oc12 kV12 dc12 pm12 cd12 ct12 oc13 kV13 dc13 pm13 cd13 ct13 oc14 kV14 dc14 pm14 cd14 ct14 oc15 kV15 dc15 pm15 cd15 ct15 oc16 kV16 dc16 pm16 cd16 ct16 oc17 kV17 dc17 pm17 cd17 ct17 oc18 kV18 dc18 pm18 cd18 ct18 oc19 kV19 dc19 pm19 cd19 ct19 oc20 kV20 dc20 pm20 cd20 ct20 oc21 kV21 dc21 pm21 cd21 ct21 oc22 kV22 dc22 pm22 cd22 ct22 oc23 kV23 dc23 pm23 cd23 ct23 oc24 kV24 dc24 pm24 cd24 ct24 oc25 kV25 dc25 pm25 cd25 ct25 oc26 kV26 dc26 pm26 cd26 ct26 oc27 kV27 dc27 pm27 cd27 ct27 oc28 kV28 dc28 pm28 cd28 ct28 oc29 kV29 dc29 pm29 cd29 ct29 oc30 kV30 dc30 pm30 cd30 ct30 oc31 kV31 dc31 pm31 cd31 ct31 : Value}
    (a1 : PySem.W.nsIn K mainGlobals "proc_named" = some (some (.ref f1))) (l1 : K.lookup f1 = some ⟨oc1, od1, .func (PySem.W.fnOf "proc_named" "proc_named" (defArgs s_proc_named) (defBody s_proc_named) (defScope s_proc_named) .none kV1 dc1 pm1 an1 cd1 ct1), sl1⟩) (c1 : PySem.W.codeIn K cd1 "proc_named" = true) (k1 : PySem.W.keepIn K (.ref f1) = true)
    (a2 : PySem.W.nsIn K mainGlobals "run" = some (some (.ref f2))) (l2 : K.lookup f2 = some ⟨oc2, od2, .func (PySem.W.fnOf "run" "run" (defArgs s_run) (defBody s_run) (defScope s_run) .none kV2 dc2 pm2 an2 cd2 ct2), sl2⟩) (c2 : PySem.W.codeIn K cd2 "run" = true) (k2 : PySem.W.keepIn K (.ref f2) = true)
    (a3 : PySem.W.nsIn K mainGlobals "_law_start" = some (some (.ref f3))) (l3 : K.lookup f3 = some ⟨oc3, od3, .func (PySem.W.fnOf "_law_start" "_law_start" (defArgs s__law_start) (defBody s__law_start) (defScope s__law_start) .none kV3 dc3 pm3 an3 cd3 ct3), sl3⟩) (c3 : PySem.W.codeIn K cd3 "_law_start" = true) (k3 : PySem.W.keepIn K (.ref f3) = true)
    (a4 : PySem.W.nsIn K mainGlobals "_law_draw" = some (some (.ref f4))) (l4 : K.lookup f4 = some ⟨oc4, od4, .func (PySem.W.fnOf "_law_draw" "_law_draw" (defArgs s__law_draw) (defBody s__law_draw) (defScope s__law_draw) .none kV4 dc4 pm4 an4 cd4 ct4), sl4⟩) (c4 : PySem.W.codeIn K cd4 "_law_draw" = true) (k4 : PySem.W.keepIn K (.ref f4) = true)
    (a5 : PySem.W.nsIn K mainGlobals "_law_one_of" = some (some (.ref f5))) (l5 : K.lookup f5 = some ⟨oc5, od5, .func (PySem.W.fnOf "_law_one_of" "_law_one_of" (defArgs s__law_one_of) (defBody s__law_one_of) (defScope s__law_one_of) .none kV5 dc5 pm5 an5 cd5 ct5), sl5⟩) (c5 : PySem.W.codeIn K cd5 "_law_one_of" = true) (k5 : PySem.W.keepIn K (.ref f5) = true)
    (a6 : PySem.W.nsIn K mainGlobals "_law_shuffled" = some (some (.ref f6))) (l6 : K.lookup f6 = some ⟨oc6, od6, .func (PySem.W.fnOf "_law_shuffled" "_law_shuffled" (defArgs s__law_shuffled) (defBody s__law_shuffled) (defScope s__law_shuffled) .none kV6 dc6 pm6 an6 cd6 ct6), sl6⟩) (c6 : PySem.W.codeIn K cd6 "_law_shuffled" = true) (k6 : PySem.W.keepIn K (.ref f6) = true)
    (a7 : PySem.W.nsIn K mainGlobals "_law_is_int" = some (some (.ref f7))) (l7 : K.lookup f7 = some ⟨oc7, od7, .func (PySem.W.fnOf "_law_is_int" "_law_is_int" (defArgs s__law_is_int) (defBody s__law_is_int) (defScope s__law_is_int) .none kV7 dc7 pm7 an7 cd7 ct7), sl7⟩) (c7 : PySem.W.codeIn K cd7 "_law_is_int" = true) (k7 : PySem.W.keepIn K (.ref f7) = true)
    (a8 : PySem.W.nsIn K mainGlobals "_law_same" = some (some (.ref f8))) (l8 : K.lookup f8 = some ⟨oc8, od8, .func (PySem.W.fnOf "_law_same" "_law_same" (defArgs s__law_same) (defBody s__law_same) (defScope s__law_same) .none kV8 dc8 pm8 an8 cd8 ct8), sl8⟩) (c8 : PySem.W.codeIn K cd8 "_law_same" = true) (k8 : PySem.W.keepIn K (.ref f8) = true)
    (a9 : PySem.W.nsIn K mainGlobals "_law_place" = some (some (.ref f9))) (l9 : K.lookup f9 = some ⟨oc9, od9, .func (PySem.W.fnOf "_law_place" "_law_place" (defArgs s__law_place) (defBody s__law_place) (defScope s__law_place) .none kV9 dc9 pm9 an9 cd9 ct9), sl9⟩) (c9 : PySem.W.codeIn K cd9 "_law_place" = true) (k9 : PySem.W.keepIn K (.ref f9) = true)
    (a10 : PySem.W.nsIn K mainGlobals "_law_pairs" = some (some (.ref f10))) (l10 : K.lookup f10 = some ⟨oc10, od10, .func (PySem.W.fnOf "_law_pairs" "_law_pairs" (defArgs s__law_pairs) (defBody s__law_pairs) (defScope s__law_pairs) .none kV10 dc10 pm10 an10 cd10 ct10), sl10⟩) (c10 : PySem.W.codeIn K cd10 "_law_pairs" = true) (k10 : PySem.W.keepIn K (.ref f10) = true)
    (a11 : PySem.W.nsIn K mainGlobals "_law_picture" = some (some (.ref f11))) (l11 : K.lookup f11 = some ⟨oc11, od11, .func (PySem.W.fnOf "_law_picture" "_law_picture" (defArgs s__law_picture) (defBody s__law_picture) (defScope s__law_picture) .none kV11 dc11 pm11 an11 cd11 ct11), sl11⟩) (c11 : PySem.W.codeIn K cd11 "_law_picture" = true) (k11 : PySem.W.keepIn K (.ref f11) = true)
    (a12 : PySem.W.nsIn K mainGlobals "_law_statement" = some (some (.ref f12))) (l12 : K.lookup f12 = some ⟨oc12, od12, .func (PySem.W.fnOf "_law_statement" "_law_statement" (defArgs s__law_statement) (defBody s__law_statement) (defScope s__law_statement) .none kV12 dc12 pm12 an12 cd12 ct12), sl12⟩) (c12 : PySem.W.codeIn K cd12 "_law_statement" = true) (k12 : PySem.W.keepIn K (.ref f12) = true)
    (a13 : PySem.W.nsIn K mainGlobals "_law_block" = some (some (.ref f13))) (l13 : K.lookup f13 = some ⟨oc13, od13, .func (PySem.W.fnOf "_law_block" "_law_block" (defArgs s__law_block) (defBody s__law_block) (defScope s__law_block) .none kV13 dc13 pm13 an13 cd13 ct13), sl13⟩) (c13 : PySem.W.codeIn K cd13 "_law_block" = true) (k13 : PySem.W.keepIn K (.ref f13) = true)
    (a14 : PySem.W.nsIn K mainGlobals "_law_source" = some (some (.ref f14))) (l14 : K.lookup f14 = some ⟨oc14, od14, .func (PySem.W.fnOf "_law_source" "_law_source" (defArgs s__law_source) (defBody s__law_source) (defScope s__law_source) .none kV14 dc14 pm14 an14 cd14 ct14), sl14⟩) (c14 : PySem.W.codeIn K cd14 "_law_source" = true) (k14 : PySem.W.keepIn K (.ref f14) = true)
    (a15 : PySem.W.nsIn K mainGlobals "_law_stop" = some (some (.ref f15))) (l15 : K.lookup f15 = some ⟨oc15, od15, .func (PySem.W.fnOf "_law_stop" "_law_stop" (defArgs s__law_stop) (defBody s__law_stop) (defScope s__law_stop) .none kV15 dc15 pm15 an15 cd15 ct15), sl15⟩) (c15 : PySem.W.codeIn K cd15 "_law_stop" = true) (k15 : PySem.W.keepIn K (.ref f15) = true)
    (a16 : PySem.W.nsIn K mainGlobals "_law_spent" = some (some (.ref f16))) (l16 : K.lookup f16 = some ⟨oc16, od16, .func (PySem.W.fnOf "_law_spent" "_law_spent" (defArgs s__law_spent) (defBody s__law_spent) (defScope s__law_spent) .none kV16 dc16 pm16 an16 cd16 ct16), sl16⟩) (c16 : PySem.W.codeIn K cd16 "_law_spent" = true) (k16 : PySem.W.keepIn K (.ref f16) = true)
    (a17 : PySem.W.nsIn K mainGlobals "_law_step" = some (some (.ref f17))) (l17 : K.lookup f17 = some ⟨oc17, od17, .func (PySem.W.fnOf "_law_step" "_law_step" (defArgs s__law_step) (defBody s__law_step) (defScope s__law_step) .none kV17 dc17 pm17 an17 cd17 ct17), sl17⟩) (c17 : PySem.W.codeIn K cd17 "_law_step" = true) (k17 : PySem.W.keepIn K (.ref f17) = true)
    (a18 : PySem.W.nsIn K mainGlobals "_law_is_met" = some (some (.ref f18))) (l18 : K.lookup f18 = some ⟨oc18, od18, .func (PySem.W.fnOf "_law_is_met" "_law_is_met" (defArgs s__law_is_met) (defBody s__law_is_met) (defScope s__law_is_met) .none kV18 dc18 pm18 an18 cd18 ct18), sl18⟩) (c18 : PySem.W.codeIn K cd18 "_law_is_met" = true) (k18 : PySem.W.keepIn K (.ref f18) = true)
    (a19 : PySem.W.nsIn K mainGlobals "_law_body" = some (some (.ref f19))) (l19 : K.lookup f19 = some ⟨oc19, od19, .func (PySem.W.fnOf "_law_body" "_law_body" (defArgs s__law_body) (defBody s__law_body) (defScope s__law_body) .none kV19 dc19 pm19 an19 cd19 ct19), sl19⟩) (c19 : PySem.W.codeIn K cd19 "_law_body" = true) (k19 : PySem.W.keepIn K (.ref f19) = true)
    (a20 : PySem.W.nsIn K mainGlobals "_law_proc" = some (some (.ref f20))) (l20 : K.lookup f20 = some ⟨oc20, od20, .func (PySem.W.fnOf "_law_proc" "_law_proc" (defArgs s__law_proc) (defBody s__law_proc) (defScope s__law_proc) .none kV20 dc20 pm20 an20 cd20 ct20), sl20⟩) (c20 : PySem.W.codeIn K cd20 "_law_proc" = true) (k20 : PySem.W.keepIn K (.ref f20) = true)
    (a21 : PySem.W.nsIn K mainGlobals "_law_run" = some (some (.ref f21))) (l21 : K.lookup f21 = some ⟨oc21, od21, .func (PySem.W.fnOf "_law_run" "_law_run" (defArgs s__law_run) (defBody s__law_run) (defScope s__law_run) .none kV21 dc21 pm21 an21 cd21 ct21), sl21⟩) (c21 : PySem.W.codeIn K cd21 "_law_run" = true) (k21 : PySem.W.keepIn K (.ref f21) = true)
    (a22 : PySem.W.nsIn K mainGlobals "law" = some (some (.ref f22))) (l22 : K.lookup f22 = some ⟨oc22, od22, .func (PySem.W.fnOf "law" "law" (defArgs s_law) (defBody s_law) (defScope s_law) .none kV22 dc22 pm22 an22 cd22 ct22), sl22⟩) (c22 : PySem.W.codeIn K cd22 "law" = true) (k22 : PySem.W.keepIn K (.ref f22) = true)
    {fI cc cda : Addr} {ocI kVI dcI pmI ctI ccl cl2 : Value} {odI anI cdd cld : Option Addr} {slI ccs csl : Array (Option Value)} {cvs : Array Value} {cfile : Str} {ctf : Tok}
    (lI : K.lookup fI = some ⟨ocI, odI, .func (PySem.W.fnX "__init__" "Stop.__init__" (defArgs s_Stop___init__) (defBody s_Stop___init__) (defScope s_Stop___init__) [("__class__", cc)] .none kVI dcI pmI anI (.ref cda) ctI), slI⟩) (cI : PySem.W.codeIn K (.ref cda) "Stop.__init__" = true) (gI : K.lookup cda = some ⟨ccl, cdd, .fields cvs, ccs⟩) (hI : cvs[2]? = some (.str cfile ctf)) (jI : ((l.prog.main.file : Str) == cfile) = true)
    (eI : K.lookup cc = some ⟨cl2, cld, .cell (some (.ref C_Stop)), csl⟩) (tI : (l.prog.main.scope.names.lookup ("super" : Str)).isSome = false) (sI : PySem.W.nsIn K mainGlobals "super" = some none) (pI : PySem.W.nsIn K cStatics "thirdparty.any" = some none) (yI : PySem.W.typeIn K (.ref fI) = some (.type "function"))
    (ca_Stop : PySem.W.nsIn K mainGlobals "Stop" = some (some (.ref C_Stop)))
    {nm_Stop q_Stop : Str} {N_Stop : Addr} {bs_Stop : List Value} {sn_Stop : List Str} {sub_Stop : List Value} {ab_Stop : Bool} {col_Stop : Option Bool} {dd_Stop : Option Addr} {k0_Stop k1_Stop k2_Stop k3_Stop k5_Stop : Option Value}
    (oc_Stop : K.lookup C_Stop = some (excClassObj nm_Stop q_Stop C_Stop N_Stop bs_Stop [.type "Exception", .type "BaseException", .type "object"] true sn_Stop sub_Stop ab_Stop col_Stop dd_Stop k0_Stop k1_Stop k2_Stop k3_Stop k5_Stop "Exception.__new__"))
    (sa_Stop : PySem.W.findIn K (.ref C_Stop) "__setattr__" = some (some (.builtin "object.__setattr__"))) (cb_Stop : PySem.W.subIn K (.ref C_Stop) (.type "BaseException") = some true) (ct_Stop : PySem.W.typeIn K (.ref C_Stop) = some (.type "type")) (ck_Stop : PySem.W.keepIn K (.ref C_Stop) = true)
    (if_Stop : PySem.W.findIn K (.ref C_Stop) "__init__" = some (some (.ref fI))) (no_Stop : PySem.W.findIn K (.ref C_Stop) "word" = some none) (ms_Stop : PySem.W.mroIn K C_Stop (.ref C_Stop) = some true) (su_Stop : PySem.W.ks_superIn K C_Stop C_Stop "__init__" = some (some (.builtin "Exception.__init__"))) (vb_Stop : PySem.W.subIn K (.ref C_Stop) (.type "Exception") = some true) (mx_Stop : PySem.W.subIn K (.ref C_Stop) (.ref C_Stop) = some true)
    (c1_Stop : PySem.W.findIn K (.ref C_Stop) "__getattribute__" = some (some (.builtin "BaseException.__getattribute__"))) (c2_Stop : PySem.W.findIn K (.ref C_Stop) "__getattr__" = some none) (c4_Stop : PySem.W.hasDictIn K C_Stop = true) (c5_Stop : PySem.W.findIn K (.ref C_Stop) "__class__" = some (some (.builtin "object.__class__"))) (c6_Stop : PySem.W.specialIn K (.builtin "object.__class__") "__get__" = some (some (.builtin "getset_descriptor.__get__"))) (c7_Stop : PySem.W.takesIn K (.builtin "object.__class__") = some true) (c8_Stop : PySem.W.mroIn K C_Stop (.type "object") = some true)
    (ca_Run : PySem.W.nsIn K mainGlobals "Run" = some (some (.ref C_Run))) (pg_Run : PySem.W.plainGet K C_Run Str.empty = true) (hd_Run : PySem.W.hasDictIn K C_Run = true) (po_Run : PySem.W.plainOver K C_Run = true) (sa_Run : PySem.W.findIn K (.ref C_Run) "__setattr__" = some (some (.builtin "object.__setattr__"))) (mk_Run : PySem.W.makesIn K C_Run = true) (kc_Run : PySem.W.keepIn K (.ref C_Run) = true)
    (n_Run_source : PySem.W.findIn K (.ref C_Run) "source" = some none) (n_Run_heap : PySem.W.findIn K (.ref C_Run) "heap" = some none) (n_Run_fuel : PySem.W.findIn K (.ref C_Run) "fuel" = some none)
    (a23 : PySem.W.findIn K (.ref C_Run) "__init__" = some (some (.ref f23))) (i23 : PySem.W.isFn K (.ref f23) = true) (l23 : K.lookup f23 = some ⟨oc23, od23, .func (PySem.W.fnOf "__init__" "Run.__init__" (defArgs s_Run___init__) (defBody s_Run___init__) (defScope s_Run___init__) .none kV23 dc23 pm23 an23 cd23 ct23), sl23⟩) (c23 : PySem.W.codeIn K cd23 "Run.__init__" = true) (k23 : PySem.W.keepIn K (.ref f23) = true)
    (a24 : PySem.W.findIn K (.ref C_Run) "spend" = some (some (.ref f24))) (i24 : PySem.W.isFn K (.ref f24) = true) (l24 : K.lookup f24 = some ⟨oc24, od24, .func (PySem.W.fnOf "spend" "Run.spend" (defArgs s_Run_spend) (defBody s_Run_spend) (defScope s_Run_spend) .none kV24 dc24 pm24 an24 cd24 ct24), sl24⟩) (c24 : PySem.W.codeIn K cd24 "Run.spend" = true) (k24 : PySem.W.keepIn K (.ref f24) = true)
    (a25 : PySem.W.findIn K (.ref C_Run) "cell" = some (some (.ref f25))) (i25 : PySem.W.isFn K (.ref f25) = true) (l25 : K.lookup f25 = some ⟨oc25, od25, .func (PySem.W.fnOf "cell" "Run.cell" (defArgs s_Run_cell) (defBody s_Run_cell) (defScope s_Run_cell) .none kV25 dc25 pm25 an25 cd25 ct25), sl25⟩) (c25 : PySem.W.codeIn K cd25 "Run.cell" = true) (k25 : PySem.W.keepIn K (.ref f25) = true)
    (a26 : PySem.W.findIn K (.ref C_Run) "simple" = some (some (.ref f26))) (i26 : PySem.W.isFn K (.ref f26) = true) (l26 : K.lookup f26 = some ⟨oc26, od26, .func (PySem.W.fnOf "simple" "Run.simple" (defArgs s_Run_simple) (defBody s_Run_simple) (defScope s_Run_simple) .none kV26 dc26 pm26 an26 cd26 ct26), sl26⟩) (c26 : PySem.W.codeIn K cd26 "Run.simple" = true) (k26 : PySem.W.keepIn K (.ref f26) = true)
    (a27 : PySem.W.findIn K (.ref C_Run) "new" = some (some (.ref f27))) (i27 : PySem.W.isFn K (.ref f27) = true) (l27 : K.lookup f27 = some ⟨oc27, od27, .func (PySem.W.fnOf "new" "Run.new" (defArgs s_Run_new) (defBody s_Run_new) (defScope s_Run_new) .none kV27 dc27 pm27 an27 cd27 ct27), sl27⟩) (c27 : PySem.W.codeIn K cd27 "Run.new" = true) (k27 : PySem.W.keepIn K (.ref f27) = true)
    (a28 : PySem.W.findIn K (.ref C_Run) "call" = some (some (.ref f28))) (i28 : PySem.W.isFn K (.ref f28) = true) (l28 : K.lookup f28 = some ⟨oc28, od28, .func (PySem.W.fnOf "call" "Run.call" (defArgs s_Run_call) (defBody s_Run_call) (defScope s_Run_call) .none kV28 dc28 pm28 an28 cd28 ct28), sl28⟩) (c28 : PySem.W.codeIn K cd28 "Run.call" = true) (k28 : PySem.W.keepIn K (.ref f28) = true)
    (a29 : PySem.W.findIn K (.ref C_Run) "is_true" = some (some (.ref f29))) (i29 : PySem.W.isFn K (.ref f29) = true) (l29 : K.lookup f29 = some ⟨oc29, od29, .func (PySem.W.fnOf "is_true" "Run.is_true" (defArgs s_Run_is_true) (defBody s_Run_is_true) (defScope s_Run_is_true) .none kV29 dc29 pm29 an29 cd29 ct29), sl29⟩) (c29 : PySem.W.codeIn K cd29 "Run.is_true" = true) (k29 : PySem.W.keepIn K (.ref f29) = true)
    (a30 : PySem.W.findIn K (.ref C_Run) "body" = some (some (.ref f30))) (i30 : PySem.W.isFn K (.ref f30) = true) (l30 : K.lookup f30 = some ⟨oc30, od30, .func (PySem.W.fnOf "body" "Run.body" (defArgs s_Run_body) (defBody s_Run_body) (defScope s_Run_body) .none kV30 dc30 pm30 an30 cd30 ct30), sl30⟩) (c30 : PySem.W.codeIn K cd30 "Run.body" = true) (k30 : PySem.W.keepIn K (.ref f30) = true)
    (a31 : PySem.W.findIn K (.ref C_Run) "run" = some (some (.ref f31))) (i31 : PySem.W.isFn K (.ref f31) = true) (l31 : K.lookup f31 = some ⟨oc31, od31, .func (PySem.W.fnOf "run" "Run.run" (defArgs s_Run_run) (defBody s_Run_run) (defScope s_Run_run) .none kV31 dc31 pm31 an31 cd31 ct31), sl31⟩) (c31 : PySem.W.codeIn K cd31 "Run.run" = true) (k31 : PySem.W.keepIn K (.ref f31) = true)
    (z_tuple : PySem.W.nsIn K mainGlobals "tuple" = some none)
    (z_isinstance : PySem.W.nsIn K mainGlobals "isinstance" = some none)
    (z_str : PySem.W.nsIn K mainGlobals "str" = some none)
    (z_range : PySem.W.nsIn K mainGlobals "range" = some none)
    (z_dict : PySem.W.nsIn K mainGlobals "dict" = some none)
    (z_zip : PySem.W.nsIn K mainGlobals "zip" = some none)
    (z_sorted : PySem.W.nsIn K mainGlobals "sorted" = some none)
    (z_list : PySem.W.nsIn K mainGlobals "list" = some none)
    (z_len : PySem.W.nsIn K mainGlobals "len" = some none)
    (z_abs : PySem.W.nsIn K mainGlobals "abs" = some none)
    (z_int : PySem.W.nsIn K mainGlobals "int" = some none)
    (z_all : PySem.W.nsIn K mainGlobals "all" = some none)
    (z_bool : PySem.W.nsIn K mainGlobals "bool" = some none)
    (z_min : PySem.W.nsIn K mainGlobals "min" = some none)
    {u_NIL : Value} (z_NIL : PySem.W.nsIn K mainGlobals "NIL" = some (some u_NIL)) (r_NIL : RelV (.str "nil") u_NIL)
    {u_DONE : Value} (z_DONE : PySem.W.nsIn K mainGlobals "DONE" = some (some u_DONE)) (r_DONE : RelV (.str "done") u_DONE)
    {u_FAULT : Value} (z_FAULT : PySem.W.nsIn K mainGlobals "FAULT" = some (some u_FAULT)) (r_FAULT : RelV (.str "fault") u_FAULT)
    {u_CUT : Value} (z_CUT : PySem.W.nsIn K mainGlobals "CUT" = some (some u_CUT)) (r_CUT : RelV (.str "cut") u_CUT)
    : ∃ fd : FuncData, (∀ (s : Shared) (v : Value), BindsTo s fd ⟨[v], []⟩ [("script", v)]) ∧ ∀ base : Heap, K.In base → base.Ns mainGlobals mg → FnOk l.prog w K mg base (L2.CX l.prog w) 60 fa fd ["script"] (liftSp K (sp_law K)) := by
  have e := hfa.symm.trans (PySem.W.mg_of X G a22)
  cases e
  have GG : GF K mg C_Stop C_Run := ⟨PySem.W.mg_none_of X G z_tuple, PySem.W.mg_none_of X G z_isinstance, PySem.W.mg_none_of X G z_str, PySem.W.mg_none_of X G z_range, PySem.W.mg_none_of X G z_dict, PySem.W.mg_none_of X G z_zip, PySem.W.mg_none_of X G z_sorted, PySem.W.mg_none_of X G z_list, PySem.W.mg_none_of X G z_len, PySem.W.mg_none_of X G z_abs, PySem.W.mg_none_of X G z_int, PySem.W.mg_none_of X G z_all, PySem.W.mg_none_of X G z_bool, PySem.W.mg_none_of X G z_min, ⟨_, PySem.W.mg_of X G z_NIL, r_NIL⟩, ⟨_, PySem.W.mg_of X G z_DONE, r_DONE⟩, ⟨_, PySem.W.mg_of X G z_FAULT, r_FAULT⟩, ⟨_, PySem.W.mg_of X G z_CUT, r_CUT⟩, PySem.W.mg_of X G ca_Stop, PySem.W.exm_ref cb_Stop c4_Stop ct_Stop mx_Stop, (fun C hC => by rcases hC with rfl; exact ⟨⟨c1_Stop, c2_Stop, cb_Stop, c4_Stop⟩, ⟨c1_Stop, c2_Stop, cb_Stop, c4_Stop, c5_Stop, c6_Stop, c7_Stop, c8_Stop⟩, no_Stop⟩), ⟨⟨pg_Run, hd_Run, po_Run, sa_Run⟩, (fun f hf => by simp only [List.mem_cons, List.not_mem_nil, or_false] at hf; rcases hf with rfl | rfl | rfl; exact n_Run_source; exact n_Run_heap; exact n_Run_fuel)⟩⟩
  have F1 := fun_mk (st := s_proc_named) l1 c1 k1
  have b1 := F1.binds (ps := ["source", "name"]) fun _ _ _ _ _ _ us hl => match us, hl with | [_, _], _ => rfl
  have F2 := fun_mk (st := s_run) l2 c2 k2
  have b2 := F2.binds (ps := ["source", "name", "addresses", "heap", "fuel"]) fun _ _ _ _ _ _ us hl => match us, hl with | [_, _, _, _, _], _ => rfl
  have F3 := fun_mk (st := s__law_start) l3 c3 k3
  have b3 := F3.binds (ps := ["script"]) fun _ _ _ _ _ _ us hl => match us, hl with | [_], _ => rfl
  have F4 := fun_mk (st := s__law_draw) l4 c4 k4
  have b4 := F4.binds (ps := ["state", "most"]) fun _ _ _ _ _ _ us hl => match us, hl with | [_, _], _ => rfl
  have F5 := fun_mk (st := s__law_one_of) l5 c5 k5
  have b5 := F5.binds (ps := ["state", "items"]) fun _ _ _ _ _ _ us hl => match us, hl with | [_, _], _ => rfl
  have F6 := fun_mk (st := s__law_shuffled) l6 c6 k6
  have b6 := F6.binds (ps := ["state", "items"]) fun _ _ _ _ _ _ us hl => match us, hl with | [_, _], _ => rfl
  have F7 := fun_mk (st := s__law_is_int) l7 c7 k7
  have b7 := F7.binds (ps := ["x"]) fun _ _ _ _ _ _ us hl => match us, hl with | [_], _ => rfl
  have F8 := fun_mk (st := s__law_same) l8 c8 k8
  have b8 := F8.binds (ps := ["x", "y"]) fun _ _ _ _ _ _ us hl => match us, hl with | [_, _], _ => rfl
  have F9 := fun_mk (st := s__law_place) l9 c9 k9
  have b9 := F9.binds (ps := ["state", "names"]) fun _ _ _ _ _ _ us hl => match us, hl with | [_, _], _ => rfl
  have F10 := fun_mk (st := s__law_pairs) l10 c10 k10
  have b10 := F10.binds (ps := ["state", "names", "many"]) fun _ _ _ _ _ _ us hl => match us, hl with | [_, _, _], _ => rfl
  have F11 := fun_mk (st := s__law_picture) l11 c11 k11
  have b11 := F11.binds (ps := ["state", "names", "most"]) fun _ _ _ _ _ _ us hl => match us, hl with | [_, _, _], _ => rfl
  have F12 := fun_mk (st := s__law_statement) l12 c12 k12
  have b12 := F12.binds (ps := ["state", "names", "deep", "callees"]) fun _ _ _ _ _ _ us hl => match us, hl with | [_, _, _, _], _ => rfl
  have F13 := fun_mk (st := s__law_block) l13 c13 k13
  have b13 := F13.binds (ps := ["state", "names", "deep", "callees"]) fun _ _ _ _ _ _ us hl => match us, hl with | [_, _, _, _], _ => rfl
  have F14 := fun_mk (st := s__law_source) l14 c14 k14
  have b14 := F14.binds (ps := ["state", "most"]) fun _ _ _ _ _ _ us hl => match us, hl with | [_, _], _ => rfl
  have F15 := fun_mk (st := s__law_stop) l15 c15 k15
  have b15 := F15.binds (ps := ["world", "word"]) fun _ _ _ _ _ _ us hl => match us, hl with | [_, _], _ => rfl
  have F16 := fun_mk (st := s__law_spent) l16 c16 k16
  have b16 := F16.binds (ps := ["world"]) fun _ _ _ _ _ _ us hl => match us, hl with | [_], _ => rfl
  have F17 := fun_mk (st := s__law_step) l17 c17 k17
  have b17 := F17.binds (ps := ["world", "s", "places"]) fun _ _ _ _ _ _ us hl => match us, hl with | [_, _, _], _ => rfl
  have F18 := fun_mk (st := s__law_is_met) l18 c18 k18
  have b18 := F18.binds (ps := ["test", "places"]) fun _ _ _ _ _ _ us hl => match us, hl with | [_, _], _ => rfl
  have F19 := fun_mk (st := s__law_body) l19 c19 k19
  have b19 := F19.binds (ps := ["world", "body", "places"]) fun _ _ _ _ _ _ us hl => match us, hl with | [_, _, _], _ => rfl
  have F20 := fun_mk (st := s__law_proc) l20 c20 k20
  have b20 := F20.binds (ps := ["world", "proc", "addresses"]) fun _ _ _ _ _ _ us hl => match us, hl with | [_, _, _], _ => rfl
  have F21 := fun_mk (st := s__law_run) l21 c21 k21
  have b21 := F21.binds (ps := ["source", "name", "addresses", "heap", "fuel"]) fun _ _ _ _ _ _ us hl => match us, hl with | [_, _, _, _, _], _ => rfl
  have F22 := fun_mk (st := s_law) l22 c22 k22
  have b22 := F22.binds (ps := ["script"]) fun _ _ _ _ _ _ us hl => match us, hl with | [_], _ => rfl
  have F23 := fun_mk (st := s_Run___init__) l23 c23 k23
  have b23 := F23.binds (ps := ["self", "source", "heap", "fuel"]) fun _ _ _ _ _ _ us hl => match us, hl with | [_, _, _, _], _ => rfl
  have S23 : KSrc K mg "Run" C_Run "Run.__init__" s_Run___init__ ["self", "source", "heap", "fuel"] := ⟨PySem.W.mg_of X G ca_Run, _, _, def_fun F23, ⟨mk_Run, a23, i23, kc_Run⟩, b23⟩
  have F24 := fun_mk (st := s_Run_spend) l24 c24 k24
  have b24 := F24.binds (ps := ["self"]) fun _ _ _ _ _ _ us hl => match us, hl with | [_], _ => rfl
  have S24 : MSrc K C_Run "spend" "Run.spend" s_Run_spend ["self"] [] := ⟨⟨_, _, [], [], def_fun F24, ⟨a24, i24, k24⟩, b24, .nil, fun _ => .nil⟩⟩
  have F25 := fun_mk (st := s_Run_cell) l25 c25 k25
  have b25 := F25.binds (ps := ["self", "address"]) fun _ _ _ _ _ _ us hl => match us, hl with | [_, _], _ => rfl
  have S25 : MSrc K C_Run "cell" "Run.cell" s_Run_cell ["self", "address"] [] := ⟨⟨_, _, [], [], def_fun F25, ⟨a25, i25, k25⟩, b25, .nil, fun _ => .nil⟩⟩
  have F26 := fun_mk (st := s_Run_simple) l26 c26 k26
  have b26 := F26.binds (ps := ["self", "statement", "places"]) fun _ _ _ _ _ _ us hl => match us, hl with | [_, _, _], _ => rfl
  have S26 : MSrc K C_Run "simple" "Run.simple" s_Run_simple ["self", "statement", "places"] [] := ⟨⟨_, _, [], [], def_fun F26, ⟨a26, i26, k26⟩, b26, .nil, fun _ => .nil⟩⟩
  have F27 := fun_mk (st := s_Run_new) l27 c27 k27
  have b27 := F27.binds (ps := ["self"]) fun _ _ _ _ _ _ us hl => match us, hl with | [_], _ => rfl
  have S27 : MSrc K C_Run "new" "Run.new" s_Run_new ["self"] [] := ⟨⟨_, _, [], [], def_fun F27, ⟨a27, i27, k27⟩, b27, .nil, fun _ => .nil⟩⟩
  have F28 := fun_mk (st := s_Run_call) l28 c28 k28
  have b28 := F28.binds (ps := ["self", "proc", "args", "places"]) fun _ _ _ _ _ _ us hl => match us, hl with | [_, _, _, _], _ => rfl
  have S28 : MSrc K C_Run "call" "Run.call" s_Run_call ["self", "proc", "args", "places"] [] := ⟨⟨_, _, [], [], def_fun F28, ⟨a28, i28, k28⟩, b28, .nil, fun _ => .nil⟩⟩
  have F29 := fun_mk (st := s_Run_is_true) l29 c29 k29
  have b29 := F29.binds (ps := ["self", "test", "places"]) fun _ _ _ _ _ _ us hl => match us, hl with | [_, _, _], _ => rfl
  have S29 : MSrc K C_Run "is_true" "Run.is_true" s_Run_is_true ["self", "test", "places"] [] := ⟨⟨_, _, [], [], def_fun F29, ⟨a29, i29, k29⟩, b29, .nil, fun _ => .nil⟩⟩
  have F30 := fun_mk (st := s_Run_body) l30 c30 k30
  have b30 := F30.binds (ps := ["self", "body", "places"]) fun _ _ _ _ _ _ us hl => match us, hl with | [_, _, _], _ => rfl
  have S30 : MSrc K C_Run "body" "Run.body" s_Run_body ["self", "body", "places"] [] := ⟨⟨_, _, [], [], def_fun F30, ⟨a30, i30, k30⟩, b30, .nil, fun _ => .nil⟩⟩
  have F31 := fun_mk (st := s_Run_run) l31 c31 k31
  have b31 := F31.binds (ps := ["self", "proc", "addresses"]) fun _ _ _ _ _ _ us hl => match us, hl with | [_, _, _], _ => rfl
  have S31 : MSrc K C_Run "run" "Run.run" s_Run_run ["self", "proc", "addresses"] [] := ⟨⟨_, _, [], [], def_fun F31, ⟨a31, i31, k31⟩, b31, .nil, fun _ => .nil⟩⟩
  have SFI : SupF l.prog K C_Stop fI "Stop.__init__" s_Stop___init__ _ _ cc cda := ⟨⟨_, _, _, _, _, _, rfl⟩, ⟨_, _, _, lI⟩, cI, ⟨_, _, _, _, _, _, gI, hI, jI⟩, ⟨_, _, _, eI⟩, (by obtain ⟨cd, hc, _⟩ := PySem.W.any_some c4_Stop; exact ⟨cd, hc⟩), tI, rfl⟩
  have BI : Binds K (PySem.W.fnX "__init__" "Stop.__init__" (defArgs s_Stop___init__) (defBody s_Stop___init__) (defScope s_Stop___init__) [("__class__", cc)] .none kVI dcI pmI anI (.ref cda) ctI) ["self", "word"] [] := fun s us _ hl => match us, hl with | [_, _], _ => BindsTo.of_eq rfl
  have R_Stop : ∀ base : Heap, FClsG l.prog w K mg base 1 "Stop" C_Stop "word" := fun base => ⟨PySem.W.mg_of X G ca_Stop, no_Stop, fI, C_Stop, _, ["self", "word"], "Exception", "Exception.__init__", "Exception.__new__", _, ⟨PySem.F.excBase_Exception, ⟨_, _, _, _, _, _, _, _, _, _, _, _, _, _,  oc_Stop⟩, fun self => PySem.F.store_Exception.passes self, by decide +kernel, sa_Stop, cb_Stop, ct_Stop, ck_Stop⟩, exi_Stop SFI rfl (PySem.W.mg_none_of X G sI), ⟨PySem.W.kxs_Exception, PySem.F.excBase_Exception, ⟨_, _, _, _, _, _, _, _, _, _, _, _, _, _, _, _,  oc_Stop⟩, ms_Stop, su_Stop, vb_Stop, pI⟩, if_Stop, yI, BI⟩
  refine ⟨PySem.W.fnOf "law" "law" (defArgs s_law) (defBody s_law) (defScope s_law) .none kV22 dc22 pm22 an22 cd22 ct22, fun s v => .of_eq rfl, fun base _ _ => ?_⟩
  exact all_ok GG (R_Stop base) S23 S24 S25 S26 S27 S28 S29 S30 S31 ⟨⟨_, _, F1, PySem.W.mg_of X G a1, k1, b1⟩⟩ ⟨⟨_, _, F2, PySem.W.mg_of X G a2, k2, b2⟩⟩ ⟨⟨_, _, F3, PySem.W.mg_of X G a3, k3, b3⟩⟩ ⟨⟨_, _, F4, PySem.W.mg_of X G a4, k4, b4⟩⟩ ⟨⟨_, _, F5, PySem.W.mg_of X G a5, k5, b5⟩⟩ ⟨⟨_, _, F6, PySem.W.mg_of X G a6, k6, b6⟩⟩ ⟨⟨_, _, F7, PySem.W.mg_of X G a7, k7, b7⟩⟩ ⟨⟨_, _, F8, PySem.W.mg_of X G a8, k8, b8⟩⟩ ⟨⟨_, _, F9, PySem.W.mg_of X G a9, k9, b9⟩⟩ ⟨⟨_, _, F10, PySem.W.mg_of X G a10, k10, b10⟩⟩ ⟨⟨_, _, F11, PySem.W.mg_of X G a11, k11, b11⟩⟩ ⟨⟨_, _, F12, PySem.W.mg_of X G a12, k12, b12⟩⟩ ⟨⟨_, _, F13, PySem.W.mg_of X G a13, k13, b13⟩⟩ ⟨⟨_, _, F14, PySem.W.mg_of X G a14, k14, b14⟩⟩ ⟨⟨_, _, F15, PySem.W.mg_of X G a15, k15, b15⟩⟩ ⟨⟨_, _, F16, PySem.W.mg_of X G a16, k16, b16⟩⟩ ⟨⟨_, _, F17, PySem.W.mg_of X G a17, k17, b17⟩⟩ ⟨⟨_, _, F18, PySem.W.mg_of X G a18, k18, b18⟩⟩ ⟨⟨_, _, F19, PySem.W.mg_of X G a19, k19, b19⟩⟩ ⟨⟨_, _, F20, PySem.W.mg_of X G a20, k20, b20⟩⟩ ⟨⟨_, _, F21, PySem.W.mg_of X G a21, k21, b21⟩⟩ F22
end K10
open PySem PySem.W PyProof.Rows
set_option maxHeartbeats 0 in
theorem PySem.Challenge.cw_cellchains_k10_runs_holds : PySem.Challenge.rw_cellchains_k10_runs.Holds := by
  w_on; o_law; k_head; (case hw => w_witness2)
  k_fill
  refine L2.walk_of (l := PySem.Challenge.rw_cellchains_k10_runs) (n := 63) (k := 60) (x := "script") (CX := fun w => L2.CX PySem.Challenge.rw_cellchains_k10_runs.prog w) (sp := fun w => PL.liftSp _ (K10.sp_law _)) rfl (by decide) rfl ⟨rfl, by decide, by decide⟩ (fun w h Y => PySem.W.kIn_of Y) ?F (fun _ H a ns hl ho hS => PL.script_rep ho hS (fun M h => K10.law_script hl h) K10.mono_law) (fun _ _ _ _ _ h => PL.cx_none h)
  case F =>
    intro w mg fa h KX G hmg
    refine' K10.all_mk KX G hmg ?a1 ?l1 ?c1 ?k1 ?a2 ?l2 ?c2 ?k2 ?a3 ?l3 ?c3 ?k3 ?a4 ?l4 ?c4 ?k4 ?a5 ?l5 ?c5 ?k5 ?a6 ?l6 ?c6 ?k6 ?a7 ?l7 ?c7 ?k7 ?a8 ?l8 ?c8 ?k8 ?a9 ?l9 ?c9 ?k9 ?a10 ?l10 ?c10 ?k10 ?a11 ?l11 ?c11 ?k11 ?a12 ?l12 ?c12 ?k12 ?a13 ?l13 ?c13 ?k13 ?a14 ?l14 ?c14 ?k14 ?a15 ?l15 ?c15 ?k15 ?a16 ?l16 ?c16 ?k16 ?a17 ?l17 ?c17 ?k17 ?a18 ?l18 ?c18 ?k18 ?a19 ?l19 ?c19 ?k19 ?a20 ?l20 ?c20 ?k20 ?a21 ?l21 ?c21 ?k21 ?a22 ?l22 ?c22 ?k22 ?lI ?cI ?gI ?hI ?jI ?eI ?tI ?sI ?pI ?yI ?ca_Stop ?oc_Stop ?sa_Stop ?cb_Stop ?ct_Stop ?ck_Stop ?if_Stop ?no_Stop ?ms_Stop ?su_Stop ?vb_Stop ?mx_Stop ?c1_Stop ?c2_Stop ?c4_Stop ?c5_Stop ?c6_Stop ?c7_Stop ?c8_Stop ?ca_Run ?pg_Run ?hd_Run ?po_Run ?sa_Run ?mk_Run ?kc_Run ?n_Run_source ?n_Run_heap ?n_Run_fuel ?a23 ?i23 ?l23 ?c23 ?k23 ?a24 ?i24 ?l24 ?c24 ?k24 ?a25 ?i25 ?l25 ?c25 ?k25 ?a26 ?i26 ?l26 ?c26 ?k26 ?a27 ?i27 ?l27 ?c27 ?k27 ?a28 ?i28 ?l28 ?c28 ?k28 ?a29 ?i29 ?l29 ?c29 ?k29 ?a30 ?i30 ?l30 ?c30 ?k30 ?a31 ?i31 ?l31 ?c31 ?k31 ?z_tuple ?z_isinstance ?z_str ?z_range ?z_dict ?z_zip ?z_sorted ?z_list ?z_len ?z_abs ?z_int ?z_all ?z_bool ?z_min ?z_NIL ?r_NIL ?z_DONE ?r_DONE ?z_FAULT ?r_FAULT ?z_CUT ?r_CUT
    (case ca_Stop => k_is)
    (case if_Stop => k_is)
    (case lI => k_is)
    (case eI => k_is)
    (case gI => k_is)
    (case a1 => k_is)
    (case l1 => k_is)
    (case c1 => k_is)
    (case k1 => k_is)
    (case a2 => k_is)
    (case l2 => k_is)
    (case c2 => k_is)
    (case k2 => k_is)
    (case a3 => k_is)
    (case l3 => k_is)
    (case c3 => k_is)
    (case k3 => k_is)
    (case a4 => k_is)
    (case l4 => k_is)
    (case c4 => k_is)
    (case k4 => k_is)
    (case a5 => k_is)
    (case l5 => k_is)
    (case c5 => k_is)
    (case k5 => k_is)
    (case a6 => k_is)
    (case l6 => k_is)
    (case c6 => k_is)
    (case k6 => k_is)
    (case a7 => k_is)
    (case l7 => k_is)
    (case c7 => k_is)
    (case k7 => k_is)
    (case a8 => k_is)
    (case l8 => k_is)
    (case c8 => k_is)
    (case k8 => k_is)
    (case a9 => k_is)
    (case l9 => k_is)
    (case c9 => k_is)
    (case k9 => k_is)
    (case a10 => k_is)
    (case l10 => k_is)
    (case c10 => k_is)
    (case k10 => k_is)
    (case a11 => k_is)
    (case l11 => k_is)
    (case c11 => k_is)
    (case k11 => k_is)
    (case a12 => k_is)
    (case l12 => k_is)
    (case c12 => k_is)
    (case k12 => k_is)
    (case a13 => k_is)
    (case l13 => k_is)
    (case c13 => k_is)
    (case k13 => k_is)
    (case a14 => k_is)
    (case l14 => k_is)
    (case c14 => k_is)
    (case k14 => k_is)
    (case a15 => k_is)
    (case l15 => k_is)
    (case c15 => k_is)
    (case k15 => k_is)
    (case a16 => k_is)
    (case l16 => k_is)
    (case c16 => k_is)
    (case k16 => k_is)
    (case a17 => k_is)
    (case l17 => k_is)
    (case c17 => k_is)
    (case k17 => k_is)
    (case a18 => k_is)
    (case l18 => k_is)
    (case c18 => k_is)
    (case k18 => k_is)
    (case a19 => k_is)
    (case l19 => k_is)
    (case c19 => k_is)
    (case k19 => k_is)
    (case a20 => k_is)
    (case l20 => k_is)
    (case c20 => k_is)
    (case k20 => k_is)
    (case a21 => k_is)
    (case l21 => k_is)
    (case c21 => k_is)
    (case k21 => k_is)
    (case a22 => k_is)
    (case l22 => k_is)
    (case c22 => k_is)
    (case k22 => k_is)
    (case cI => k_is)
    (case hI => first | rfl | kernel_rfl)
    (case jI => first | rfl | decide +kernel | kernel_rfl)
    (case tI => first | rfl | decide +kernel | kernel_rfl)
    (case sI => k_is)
    (case pI => k_is)
    (case yI => k_is)
    (case oc_Stop => k_is)
    (case sa_Stop => k_is)
    (case cb_Stop => k_is)
    (case ct_Stop => k_is)
    (case ck_Stop => k_is)
    (case no_Stop => k_is)
    (case ms_Stop => k_is)
    (case su_Stop => ks_is)
    (case vb_Stop => k_is)
    (case mx_Stop => k_is)
    (case c1_Stop => k_is)
    (case c2_Stop => k_is)
    (case c4_Stop => k_is)
    (case c5_Stop => k_is)
    (case c6_Stop => k_is)
    (case c7_Stop => k_is)
    (case c8_Stop => k_is)
    (case ca_Run => k_is)
    (case pg_Run => k_is)
    (case hd_Run => k_is)
    (case po_Run => k_is)
    (case sa_Run => k_is)
    (case mk_Run => k_is)
    (case kc_Run => k_is)
    (case n_Run_source => k_is)
    (case n_Run_heap => k_is)
    (case n_Run_fuel => k_is)
    (case a23 => k_is)
    (case i23 => k_is)
    (case l23 => k_is)
    (case c23 => k_is)
    (case k23 => k_is)
    (case a24 => k_is)
    (case i24 => k_is)
    (case l24 => k_is)
    (case c24 => k_is)
    (case k24 => k_is)
    (case a25 => k_is)
    (case i25 => k_is)
    (case l25 => k_is)
    (case c25 => k_is)
    (case k25 => k_is)
    (case a26 => k_is)
    (case i26 => k_is)
    (case l26 => k_is)
    (case c26 => k_is)
    (case k26 => k_is)
    (case a27 => k_is)
    (case i27 => k_is)
    (case l27 => k_is)
    (case c27 => k_is)
    (case k27 => k_is)
    (case a28 => k_is)
    (case i28 => k_is)
    (case l28 => k_is)
    (case c28 => k_is)
    (case k28 => k_is)
    (case a29 => k_is)
    (case i29 => k_is)
    (case l29 => k_is)
    (case c29 => k_is)
    (case k29 => k_is)
    (case a30 => k_is)
    (case i30 => k_is)
    (case l30 => k_is)
    (case c30 => k_is)
    (case k30 => k_is)
    (case a31 => k_is)
    (case i31 => k_is)
    (case l31 => k_is)
    (case c31 => k_is)
    (case k31 => k_is)
    (case z_tuple => k_is)
    (case z_isinstance => k_is)
    (case z_str => k_is)
    (case z_range => k_is)
    (case z_dict => k_is)
    (case z_zip => k_is)
    (case z_sorted => k_is)
    (case z_list => k_is)
    (case z_len => k_is)
    (case z_abs => k_is)
    (case z_int => k_is)
    (case z_all => k_is)
    (case z_bool => k_is)
    (case z_min => k_is)
    (case z_NIL => k_is)
    (case r_NIL => exact ⟨_, rfl⟩)
    (case z_DONE => k_is)
    (case r_DONE => exact ⟨_, rfl⟩)
    (case z_FAULT => k_is)
    (case r_FAULT => exact ⟨_, rfl⟩)
    (case z_CUT => k_is)
    (case r_CUT => exact ⟨_, rfl⟩)
