import PyProof.Rows.All
import Wide.All
import OpenK.AllK
import Wide.FinOn
import HandS.ForMost
import HandS.ForExc
import KE.DataEq
import HandS.TupAny
import HandS.TupMul
import HandS.Wide
import HandS.Deep
import HandS.Style
import HandS.IsInst
import HandS.WideBits
import HandS.StrMore
import HandS.Flow
import HandS.CallSlots
import HandS.CallLocal
import HandS.Text
import HandS.WordsExc
import HandS.ExcOwn
import HandS.TryOnly
import HandS.Comp
import HandS.Iter
import HandS.ExcIs
import HandS.Strs
import HandS.Set
import HandS.SortInts
import HandS.SetFor
import HandS.SetKeys
import HandS.Codes
import HandS.DictComp
import HandS.DictTup
import HandS.ListItems
import KE.KDictPairs
import PyProof.NeKinds
import PyProof.EqAt
import HandS.SortOrd
import KE.KDictWalk
import HandS.Defaults
import HandS.Exc
import HandS.SortKw
import KE.SortKeyHeap
import PyProof.DictStraight
import HandS.Nested
import HandS.ExcInit
import HandS.ExcField
import KE.KExcSuper
import KE.KExcIs
import PySem.Challenge.RW_cellchains_k04_limits_of_sources
set_option Elab.async false
set_option linter.all false
set_option maxRecDepth 100000
namespace PL
open PySem PySem.Spec PyProof.Rows L2

/-! data: values, and tuples of data -/
inductive D where
  | v (x : V)
  | tup (ds : List D)

abbrev D.non : D := .v .non
abbrev D.bl (b : Bool) : D := .v (.bl b)
abbrev D.int (i : Int) : D := .v (.int i)
abbrev D.str (x : Str) : D := .v (.str x)
abbrev D.ob (a : Addr) : D := .v (.ref a)

section
variable (K : PySem.W.Frag) (H : Hp)
mutual
def RepD : D → V → Prop
  | .v x, u => u = x
  | .tup ds, u => ∃ a us, u = .ref a ∧ SqT K H a us ∧ RepL ds us
def RepL : List D → List V → Prop
  | [], us => us = []
  | d :: ds, us => ∃ u r, us = u :: r ∧ RepD d u ∧ RepL ds r
end
end

/-- tuples and locked things stay -/
structure Ext (K : PySem.W.Frag) (H H' : Hp) : Prop where
  sq : ∀ a xs, SqT K H a xs → SqT K H' a xs
  fz : ∀ a o u, H a = some (.frz o u) → H' a = some (.frz o u)
instance {K : PySem.W.Frag} {H H' : Hp} : CoeFun (Ext K H H') (fun _ => ∀ a xs, SqT K H a xs → SqT K H' a xs) := ⟨fun e => e.sq⟩
theorem Ext.refl {K : PySem.W.Frag} {H : Hp} : Ext K H H := ⟨fun _ _ h => h, fun _ _ _ h => h⟩
theorem Ext.trans {K : PySem.W.Frag} {H H1 H2 : Hp} (a : Ext K H H1) (b : Ext K H1 H2) : Ext K H H2 := ⟨fun c xs h => b.sq c xs (a.sq c xs h), fun c o u h => b.fz c o u (a.fz c o u h)⟩
theorem Ext.new {K : PySem.W.Frag} {H : Hp} {p : Addr} {o : HO} (h : H p = none) : Ext K H (upd H p o) := ⟨fun a xs q => by
  rcases q with (q | ⟨ob, q⟩) | q
  · exact .inl (.inl (by rw [upd_ne (ne_of_none q h)]; exact q))
  · exact .inl (.inr ⟨ob, by rw [upd_ne (ne_of_none q h)]; exact q⟩)
  · exact .inr q, fun a o' u q => by rw [upd_ne (ne_of_none q h)]; exact q⟩
theorem Ext.mut {K : PySem.W.Frag} {H : Hp} {p : Addr} {o o' : HO} (h : H p = some o) (m : Mut (some o)) : Ext K H (upd H p o') := ⟨fun a xs q => by
  rcases q with (q | ⟨ob, q⟩) | q
  · exact .inl (.inl (by rw [upd_ne (ne_of q h (by rintro rfl; exact m))]; exact q))
  · exact .inl (.inr ⟨ob, by rw [upd_ne (ne_of q h (by rintro rfl; exact m))]; exact q⟩)
  · exact .inr q, fun a o2 u q => by rw [upd_ne (ne_of q h (by rintro rfl; exact m))]; exact q⟩

mutual
theorem RepD.mono {K : PySem.W.Frag} {H H' : Hp} (e : Ext K H H') : ∀ (d : D) {u : V}, RepD K H d u → RepD K H' d u
  | .v _, _, h => by unfold RepD at h ⊢; exact h
  | .tup ds, _, h => by
    unfold RepD at h ⊢
    obtain ⟨a, us, e1, q, r⟩ := h
    exact ⟨a, us, e1, e _ _ q, RepL.mono e ds r⟩
theorem RepL.mono {K : PySem.W.Frag} {H H' : Hp} (e : Ext K H H') : ∀ (ds : List D) {us : List V}, RepL K H ds us → RepL K H' ds us
  | [], _, h => by unfold RepL at h ⊢; exact h
  | d :: ds, _, h => by
    unfold RepL at h ⊢
    obtain ⟨u, r, e1, q, t⟩ := h
    exact ⟨u, r, e1, RepD.mono e d q, RepL.mono e ds t⟩
end
theorem RepL.length {K : PySem.W.Frag} {H : Hp} : ∀ {ds : List D} {us : List V}, RepL K H ds us → us.length = ds.length
  | [], _, h => by unfold RepL at h; rw [h]; rfl
  | d :: ds, _, h => by
    unfold RepL at h
    obtain ⟨u, r, rfl, _, t⟩ := h
    simp [RepL.length t]
theorem RepL.get {K : PySem.W.Frag} {H : Hp} : ∀ {ds : List D} {us : List V} {i : Nat} {d : D}, RepL K H ds us → ds[i]? = some d → ∃ u, us[i]? = some u ∧ RepD K H d u
  | [], _, _, _, _, e => by simp at e
  | d :: ds, _, 0, _, h, e => by
    unfold RepL at h
    obtain ⟨u, r, rfl, q, _⟩ := h
    simp at e; subst e
    exact ⟨u, by simp, q⟩
  | d :: ds, _, i + 1, _, h, e => by
    unfold RepL at h
    obtain ⟨u, r, rfl, _, t⟩ := h
    obtain ⟨u', h1, h2⟩ := RepL.get (i := i) t (by simpa using e)
    exact ⟨u', by simpa using h1, h2⟩
theorem RepL.get' {K : PySem.W.Frag} {H : Hp} : ∀ {ds : List D} {us : List V} {i : Nat} {u : V}, RepL K H ds us → us[i]? = some u → ∃ d, ds[i]? = some d ∧ RepD K H d u
  | [], _, _, _, h, e => by unfold RepL at h; subst h; simp at e
  | d :: ds, _, 0, _, h, e => by
    unfold RepL at h
    obtain ⟨u, r, rfl, q, _⟩ := h
    simp at e; subst e
    exact ⟨d, by simp, q⟩
  | d :: ds, _, i + 1, _, h, e => by
    unfold RepL at h
    obtain ⟨u, r, rfl, _, t⟩ := h
    obtain ⟨u', h1, h2⟩ := RepL.get' (i := i) t (by simpa using e)
    exact ⟨u', by simpa using h1, h2⟩
theorem RepL.append {K : PySem.W.Frag} {H : Hp} : ∀ {ds es : List D} {us ws : List V}, RepL K H ds us → RepL K H es ws → RepL K H (ds ++ es) (us ++ ws)
  | [], _, _, _, h, g => by unfold RepL at h; subst h; exact g
  | d :: ds, _, _, _, h, g => by
    unfold RepL at h
    obtain ⟨u, r, rfl, q, t⟩ := h
    show RepL K H (d :: (ds ++ _)) _
    unfold RepL
    exact ⟨u, _, rfl, q, RepL.append t g⟩
theorem RepL.set {K : PySem.W.Frag} {H : Hp} {d' : D} {u' : V} (hd : RepD K H d' u') : ∀ {ds : List D} {us : List V} (i : Nat), RepL K H ds us → RepL K H (ds.set i d') (us.set i u')
  | [], _, _, h => by unfold RepL at h; subst h; simp [RepL]
  | d :: ds, _, 0, h => by
    unfold RepL at h
    obtain ⟨u, r, rfl, q, t⟩ := h
    simp only [List.set_cons_zero]; unfold RepL
    exact ⟨u', r, rfl, hd, t⟩
  | d :: ds, _, i + 1, h => by
    unfold RepL at h
    obtain ⟨u, r, rfl, q, t⟩ := h
    simp only [List.set_cons_succ]; unfold RepL
    exact ⟨u, _, rfl, q, RepL.set hd i t⟩
theorem RepL.drop {K : PySem.W.Frag} {H : Hp} : ∀ {ds : List D} {us : List V} (i : Nat), RepL K H ds us → RepL K H (ds.drop i) (us.drop i)
  | _, _, 0, h => by simpa using h
  | [], _, _ + 1, h => by unfold RepL at h; subst h; simp [RepL]
  | d :: ds, _, i + 1, h => by
    unfold RepL at h
    obtain ⟨u, r, rfl, q, t⟩ := h
    simpa using RepL.drop i t
theorem RepL.take {K : PySem.W.Frag} {H : Hp} : ∀ {ds : List D} {us : List V} (i : Nat), RepL K H ds us → RepL K H (ds.take i) (us.take i)
  | _, _, 0, h => by simp [RepL]
  | [], _, _ + 1, h => by unfold RepL at h; subst h; simp [RepL]
  | d :: ds, _, i + 1, h => by
    unfold RepL at h
    obtain ⟨u, r, rfl, q, t⟩ := h
    simp only [List.take_succ_cons]; unfold RepL
    exact ⟨u, _, rfl, q, RepL.take i t⟩
theorem RepL.cons {K : PySem.W.Frag} {H : Hp} {d : D} {u : V} {ds : List D} {us : List V} (h : RepD K H d u) (t : RepL K H ds us) : RepL K H (d :: ds) (u :: us) := by
  unfold RepL; exact ⟨u, us, rfl, h, t⟩
theorem RepL.nil {K : PySem.W.Frag} {H : Hp} : RepL K H [] [] := by unfold RepL; rfl
theorem RepL.ints {K : PySem.W.Frag} {H : Hp} : ∀ {ns : List Int} {us : List V}, RepL K H (ns.map D.int) us → us = ns.map V.int
  | [], _, h => by unfold RepL at h; simpa using h
  | n :: ns, _, h => by
    simp only [List.map_cons] at h; unfold RepL at h
    obtain ⟨u, r, rfl, q, t⟩ := h
    unfold RepD at q
    rw [RepL.ints t, q]; rfl
theorem RepL.of_ints {K : PySem.W.Frag} {H : Hp} : ∀ {ns : List Int}, RepL K H (ns.map D.int) (ns.map V.int)
  | [] => .nil
  | n :: ns => .cons (by unfold RepD; rfl) RepL.of_ints

/-! memory -/
inductive Ob where
  | lst (ds : List D)
  | rol (ds : List D)
  | dk (kvs : List (Key × D))
  | rdk (kvs : List (Key × D))
  | ctp (ds : List D)
  | ins (C : Addr) (fs : List (Str × D))
  | xd (fs : List (Str × D))
abbrev Mem := Addr → Option Ob
def mupd (M : Mem) (a : Addr) (o : Ob) : Mem := fun b => if b = a then some o else M b
theorem mupd_same {M : Mem} {a : Addr} {o : Ob} : mupd M a o a = some o := if_pos rfl
theorem mupd_ne {M : Mem} {a b : Addr} {o : Ob} (h : b ≠ a) : mupd M a o b = M b := if_neg h
theorem mupd_mupd {M : Mem} {a : Addr} {o u : Ob} : mupd (mupd M a o) a u = mupd M a u := by
  funext b; unfold mupd; split <;> rfl

section
variable (K : PySem.W.Frag) (H : Hp)
def RepKV {κ : Type} : List (κ × D) → List (κ × V) → Prop
  | [], us => us = []
  | (k, d) :: r, us => ∃ u t, us = (k, u) :: t ∧ RepD K H d u ∧ RepKV r t
def RepO (a : Addr) : Ob → Prop
  | .lst ds => ∃ us, H a = some (.lst us) ∧ RepL K H ds us
  | .rol ds => ∃ o us, H a = some (.frz o (.lst us)) ∧ RepL K H ds us
  | .dk kvs => ∃ us, H a = some (.dK us) ∧ RepKV K H kvs us
  | .rdk kvs => ∃ o us, H a = some (.frz o (.dK us)) ∧ RepKV K H kvs us
  | .ctp ds => ∃ o us, H a = some (.frz o (.tup us)) ∧ o.dict = none ∧ RepL K H ds us
  | .ins C fs => ∃ dx us, H a = some (.ins C dx us) ∧ RepKV K H fs us
  | .xd fs => ∃ us, H a = some (.xd us) ∧ RepKV K H fs us
def Sim (M : Mem) : Prop := ∀ a o, M a = some o → RepO K H a o
end
section
variable {K : PySem.W.Frag} {H H' : Hp} {M : Mem} {a : Addr}
theorem RepKV.mono {κ : Type} (e : Ext K H H') : ∀ {kvs : List (κ × D)} {us : List (κ × V)}, RepKV K H kvs us → RepKV K H' kvs us
  | [], _, h => h
  | (k, d) :: r, _, h => by
    obtain ⟨u, t, e1, q, z⟩ := h
    exact ⟨u, t, e1, RepD.mono e d q, RepKV.mono e z⟩
theorem RepO.mono (e : Ext K H H') (h : H' a = H a) : ∀ {o : Ob}, RepO K H a o → RepO K H' a o
  | .lst _, ⟨us, q, r⟩ => ⟨us, by rw [h]; exact q, RepL.mono e _ r⟩
  | .rol _, ⟨o, us, q, r⟩ => ⟨o, us, by rw [h]; exact q, RepL.mono e _ r⟩
  | .dk _, ⟨us, q, r⟩ => ⟨us, by rw [h]; exact q, RepKV.mono e r⟩
  | .rdk _, ⟨o, us, q, r⟩ => ⟨o, us, by rw [h]; exact q, RepKV.mono e r⟩
  | .ctp _, ⟨o, us, q, n, r⟩ => ⟨o, us, by rw [h]; exact q, n, RepL.mono e _ r⟩
  | .ins _ _, ⟨dx, us, q, r⟩ => ⟨dx, us, by rw [h]; exact q, RepKV.mono e r⟩
  | .xd _, ⟨us, q, r⟩ => ⟨us, by rw [h]; exact q, RepKV.mono e r⟩
theorem RepO.there : ∀ {o : Ob}, RepO K H a o → ∃ x, H a = some x
  | .lst _, ⟨us, q, r⟩ => ⟨_, q⟩
  | .rol _, ⟨o, us, q, r⟩ => ⟨_, q⟩
  | .dk _, ⟨us, q, r⟩ => ⟨_, q⟩
  | .rdk _, ⟨o, us, q, r⟩ => ⟨_, q⟩
  | .ctp _, ⟨o, us, q, n, r⟩ => ⟨_, q⟩
  | .ins _ _, ⟨dx, us, q, r⟩ => ⟨_, q⟩
  | .xd _, ⟨us, q, r⟩ => ⟨_, q⟩
theorem Sim.mono (s : Sim K H M) (e : Ext K H H') (h : ∀ a o, M a = some o → H' a = H a) : Sim K H' M := fun a o q => (s a o q).mono e (h a o q)
theorem Sim.free (s : Sim K H M) {p : Addr} (h : H p = none) : M p = none := by
  cases q : M p with
  | none => rfl
  | some o =>
    obtain ⟨x, e⟩ := (s p o q).there
    rw [h] at e; cases e
/-- a new object, known -/
theorem Sim.new (s : Sim K H M) {p : Addr} {o : HO} {ob : Ob} (h : H p = none) (r : RepO K (upd H p o) p ob) : Sim K (upd H p o) (mupd M p ob) := fun b o' q => by
  by_cases hb : b = p
  · subst hb
    rw [mupd_same] at q; cases q
    exact r
  · rw [mupd_ne hb] at q
    exact (s b o' q).mono (Ext.new h) (upd_ne hb)
/-- a new object, not known -/
theorem Sim.laid (s : Sim K H M) {p : Addr} {o : HO} (h : H p = none) : Sim K (upd H p o) M := fun b o' q => by
  obtain ⟨x, e⟩ := (s b o' q).there
  exact (s b o' q).mono (Ext.new h) (upd_ne (ne_of_none e h))
/-- an object changed -/
theorem Sim.put (s : Sim K H M) {p : Addr} {o o' : HO} {ob : Ob} (h : H p = some o) (m : Mut (some o)) (r : RepO K (upd H p o') p ob) : Sim K (upd H p o') (mupd M p ob) := fun b q' q => by
  by_cases hb : b = p
  · subst hb
    rw [mupd_same] at q; cases q
    exact r
  · rw [mupd_ne hb] at q
    exact (s b q' q).mono (Ext.mut h m) (upd_ne hb)
end

/-! environments -/
abbrev DEnv := List (Option D)
def RepE (K : PySem.W.Frag) (H : Hp) (env : DEnv) (σ : L2.St) : Prop := env.length = σ.length ∧ ∀ (i : Nat) (d : D), env[i]? = some (some d) → ∃ u, σ[i]? = some (some u) ∧ RepD K H d u
theorem RepE.mono {K : PySem.W.Frag} {H H' : Hp} {env : DEnv} {σ : L2.St} (r : RepE K H env σ) (e : Ext K H H') : RepE K H' env σ :=
  ⟨r.1, fun i d h => let ⟨u, h1, h2⟩ := r.2 i d h; ⟨u, h1, RepD.mono e d h2⟩⟩
theorem RepE.set {K : PySem.W.Frag} {H : Hp} {env : DEnv} {σ : L2.St} (r : RepE K H env σ) {d : D} {u : V} (h : RepD K H d u) (i : Nat) : RepE K H (env.set i (some d)) (σ.set i (some u)) := by
  refine ⟨by simp [r.1], fun j e q => ?_⟩
  by_cases hj : i = j
  · subst hj
    by_cases hi : i < env.length
    · rw [List.getElem?_set_self hi] at q
      cases q
      exact ⟨u, by rw [List.getElem?_set_self (by rw [← r.1]; exact hi)], h⟩
    · rw [List.getElem?_eq_none (by simpa using hi)] at q; cases q
  · rw [List.getElem?_set_ne hj] at q ⊢
    exact r.2 j e q

/-! readings -/
abbrev DK := D → Mem → Prop
abbrev DX := Value → List (Str × D) → Mem → Prop
abbrev DE := DEnv → Mem → DK → DX → Prop
abbrev DT := DEnv → Mem → (Bool → Mem → Prop) → DX → Prop
abbrev DA := DEnv → Mem → (List D → Mem → Prop) → DX → Prop
structure DEnds where
  nx : DEnv → Mem → Prop
  rt : DK
  bk : DEnv → Mem → Prop := fun _ _ => False
  ct : DEnv → Mem → Prop := fun _ _ => False
  ex : Value → List (Str × D) → DEnv → Mem → Prop := fun _ _ _ _ => False
abbrev DS := DEnds → DEnv → Mem → Prop

def RepX (K : PySem.W.Frag) (H : Hp) (d : Option Addr) (fs : List (Str × D)) : Prop :=
  match d with
  | none => fs = []
  | some a => fs ≠ [] ∧ ∃ us, H a = some (.xd us) ∧ RepKV K H fs us

section
variable (K : PySem.W.Frag) (W : WX)
/-- the ends as the heap sees them, from H on -/
def upK (H : Hp) (Q : VK) : DK := fun d M' => ∀ u H', Ext K H H' → Sim K H' M' → RepD K H' d u → Q u H'
def upX (H : Hp) (σ : L2.St) : DX := fun c fs M' => ∀ d H', Ext K H H' → Sim K H' M' → RepX K H' d fs → W c d σ H'
def liftE (t : DE) : TE := fun σ H Q => ∃ env M, RepE K H env σ ∧ Sim K H M ∧ t env M (upK K H Q) (upX K W H σ)
def liftT (t : DT) : TT := fun σ H Q => ∃ env M, RepE K H env σ ∧ Sim K H M ∧ t env M (fun b M' => ∀ H', Ext K H H' → Sim K H' M' → Q b H') (upX K W H σ)
def liftA (t : DA) : TA := fun σ H Q => ∃ env M, RepE K H env σ ∧ Sim K H M ∧ t env M (fun ds M' => ∀ us H', Ext K H H' → Sim K H' M' → RepL K H' ds us → Q us H') (upX K W H σ)
def upN (H : Hp) (Q : L2.St → Hp → Prop) : DEnv → Mem → Prop := fun env' M' => ∀ σ' H', Ext K H H' → Sim K H' M' → RepE K H' env' σ' → Q σ' H'
def upEnds (H : Hp) (D : Ends) : DEnds where
  nx := upN K H D.nx
  rt := upK K H D.rt
  bk := upN K H D.bk
  ct := upN K H D.ct
  ex := fun c fs env' M' => ∀ d σ' H', Ext K H H' → Sim K H' M' → RepE K H' env' σ' → RepX K H' d fs → W c d σ' H'
def liftS (t : DS) : TS := fun D σ H => ∃ env M, RepE K H env σ ∧ Sim K H M ∧ t (upEnds K W H D) env M
end

def MonoE (t : DE) : Prop := ∀ env M (Q Q' : DK) (E E' : DX), (∀ d M, Q d M → Q' d M) → (∀ c f M, E c f M → E' c f M) → t env M Q E → t env M Q' E'
def MonoT (t : DT) : Prop := ∀ env M (Q Q' : Bool → Mem → Prop) (E E' : DX), (∀ d M, Q d M → Q' d M) → (∀ c f M, E c f M → E' c f M) → t env M Q E → t env M Q' E'
def MonoA (t : DA) : Prop := ∀ env M (Q Q' : List D → Mem → Prop) (E E' : DX), (∀ d M, Q d M → Q' d M) → (∀ c f M, E c f M → E' c f M) → t env M Q E → t env M Q' E'
structure DEnds.Le (D D' : DEnds) : Prop where
  nx : ∀ e M, D.nx e M → D'.nx e M
  rt : ∀ d M, D.rt d M → D'.rt d M
  bk : ∀ e M, D.bk e M → D'.bk e M
  ct : ∀ e M, D.ct e M → D'.ct e M
  ex : ∀ c f e M, D.ex c f e M → D'.ex c f e M
def MonoS (t : DS) : Prop := ∀ (D D' : DEnds) env M, D.Le D' → t D env M → t D' env M

structure XE (X : Cx) (W : WX) (e : Expr) (t : DE) : Prop where
  mono : MonoE t
  pe : PE X e (liftE X.K W t)
structure XT (X : Cx) (W : WX) (e : Expr) (t : DT) : Prop where
  mono : MonoT t
  pt : PT X e (liftT X.K W t)
structure XW (X : Cx) (W : WX) (e : Expr) (t : DT) : Prop where
  mono : MonoT t
  pw : PW X e (liftT X.K W t)
structure XA (X : Cx) (W : WX) (es : List Expr) (t : DA) : Prop where
  mono : MonoA t
  pa : PA X es (liftA X.K W t)
structure XS (X : Cx) (W : WX) (st : Stmt) (t : DS) : Prop where
  mono : MonoS t
  ps : PS X st (liftS X.K W t)
structure XSs (X : Cx) (W : WX) (st : List Stmt) (t : DS) : Prop where
  mono : MonoS t
  ps : PSs X st (liftS X.K W t)

theorem PEw {X : Cx} {e : Expr} {t t' : TE} (h : PE X e t) (w : ∀ σ H Q, t' σ H Q → t σ H Q) : PE X e t' := ⟨fun pins s σ H Q I q => h.run pins s σ H Q I (w σ H Q q)⟩
theorem PTw {X : Cx} {e : Expr} {t t' : TT} (h : PT X e t) (w : ∀ σ H Q, t' σ H Q → t σ H Q) : PT X e t' := ⟨fun pins s σ H Q I q => h.run pins s σ H Q I (w σ H Q q)⟩
theorem PWw {X : Cx} {e : Expr} {t t' : TT} (h : PW X e t) (w : ∀ σ H Q, t' σ H Q → t σ H Q) : PW X e t' := ⟨fun wh pins s σ H Q I q => h.run wh pins s σ H Q I (w σ H Q q)⟩
theorem PAw {X : Cx} {e : List Expr} {t t' : TA} (h : PA X e t) (w : ∀ σ H Q, t' σ H Q → t σ H Q) : PA X e t' := ⟨fun pos pins s σ H Q I q => h.run pos pins s σ H Q I (w σ H Q q)⟩
theorem PSw {X : Cx} {e : Stmt} {t t' : TS} (h : PS X e t) (w : ∀ D σ H, t' D σ H → t D σ H) : PS X e t' := ⟨fun pins s σ H Q I q => h.run pins s σ H Q I (w Q σ H q)⟩
theorem PSsw {X : Cx} {e : List Stmt} {t t' : TS} (h : PSs X e t) (w : ∀ D σ H, t' D σ H → t D σ H) : PSs X e t' := ⟨fun pins s σ H Q I q => h.run pins s σ H Q I (w Q σ H q)⟩

section
variable {K : PySem.W.Frag} {W : WX}
/-- a step of evaluation: the D-reading leads to the V-reading -/
theorem stepE {t : DE} (m : MonoE t) {σ : L2.St} {H : Hp} {env : DEnv} {M : Mem} {P : VK} {Q : DK} {E : DX} (re : RepE K H env σ) (s : Sim K H M) (h : t env M Q E)
    (hq : ∀ d M1 u H1, Ext K H H1 → Sim K H1 M1 → RepE K H1 env σ → RepD K H1 d u → Q d M1 → P u H1) (he : ∀ c f M1, E c f M1 → upX K W H σ c f M1) : liftE K W t σ H P :=
  ⟨env, M, re, s, m env M _ _ _ _ (fun d M1 q u H1 e1 s1 r1 => hq d M1 u H1 e1 s1 (re.mono e1) r1 q) he h⟩
theorem stepT {t : DT} (m : MonoT t) {σ : L2.St} {H : Hp} {env : DEnv} {M : Mem} {P : Bool → Hp → Prop} {Q : Bool → Mem → Prop} {E : DX} (re : RepE K H env σ) (s : Sim K H M) (h : t env M Q E)
    (hq : ∀ d M1 H1, Ext K H H1 → Sim K H1 M1 → RepE K H1 env σ → Q d M1 → P d H1) (he : ∀ c f M1, E c f M1 → upX K W H σ c f M1) : liftT K W t σ H P :=
  ⟨env, M, re, s, m env M _ _ _ _ (fun d M1 q H1 e1 s1 => hq d M1 H1 e1 s1 (re.mono e1) q) he h⟩
theorem stepA {t : DA} (m : MonoA t) {σ : L2.St} {H : Hp} {env : DEnv} {M : Mem} {P : List V → Hp → Prop} {Q : List D → Mem → Prop} {E : DX} (re : RepE K H env σ) (s : Sim K H M) (h : t env M Q E)
    (hq : ∀ ds M1 us H1, Ext K H H1 → Sim K H1 M1 → RepE K H1 env σ → RepL K H1 ds us → Q ds M1 → P us H1) (he : ∀ c f M1, E c f M1 → upX K W H σ c f M1) : liftA K W t σ H P :=
  ⟨env, M, re, s, m env M _ _ _ _ (fun d M1 q u H1 e1 s1 r1 => hq d M1 u H1 e1 s1 (re.mono e1) r1 q) he h⟩
theorem upX_mono {H H1 : Hp} {σ : L2.St} (e : Ext K H H1) : ∀ c f M1, upX K W H σ c f M1 → upX K W H1 σ c f M1 := fun c f M1 q d H' e' s r => q d H' (e.trans e') s r
theorem upK_mono {H H1 : Hp} {Q : VK} (e : Ext K H H1) : ∀ d M1, upK K H Q d M1 → upK K H1 Q d M1 := fun c M1 q d H' e' s r => q d H' (e.trans e') s r
end
end PL

namespace PL
open PySem PySem.Spec PyProof.Rows L2

/-! results of operations by values -/
inductive Res where
  | val (c : Prop) (d : D)
  | new (c : Prop) (o : Ob)
  | put (c : Prop) (a : Addr) (o : Ob) (d : D)
  | bad
def Res.run : Res → Mem → DK → Prop
  | .val c d, M, Q => c ∧ Q d M
  | .new c o, M, Q => c ∧ ∀ p, M p = none → Q (.ob p) (mupd M p o)
  | .put c a o d, M, Q => c ∧ Q d (mupd M a o)
  | .bad, _, _ => False
theorem Res.mono {r : Res} {M : Mem} {Q Q' : DK} (h : ∀ d M, Q d M → Q' d M) (q : r.run M Q) : r.run M Q' := by
  cases r with
  | val c d => exact ⟨q.1, h _ _ q.2⟩
  | new c o => exact ⟨q.1, fun p hp => h _ _ (q.2 p hp)⟩
  | put c a o d => exact ⟨q.1, h _ _ q.2⟩
  | bad => exact q

section
variable {K : PySem.W.Frag} {H : Hp} {M : Mem} {Q : VK}
theorem fin_val {x : V} (h : upK K H Q (.v x) M) (s : Sim K H M) : Q x H := h x H Ext.refl s (by unfold RepD; rfl)
theorem fin_rep {d : D} {x : V} (h : upK K H Q d M) (s : Sim K H M) (r : RepD K H d x) : Q x H := h x H Ext.refl s r
theorem fin_new {ob : Ob} {o : HO} {p : Addr} (h : ∀ p, M p = none → upK K H Q (.ob p) (mupd M p ob)) (s : Sim K H M) (hp : H p = none) (r : RepO K (upd H p o) p ob) : Q (.ref p) (upd H p o) :=
  h p (s.free hp) _ _ (Ext.new hp) (s.new hp r) (by unfold RepD; rfl)
theorem fin_tup {ds : List D} {us : List V} {p : Addr} (h : upK K H Q (.tup ds) M) (s : Sim K H M) (hp : H p = none) (r : RepL K H ds us) : Q (.ref p) (upd H p (.tup us)) :=
  h _ _ (Ext.new hp) (s.laid hp) (by unfold RepD; exact ⟨p, us, rfl, SqT.of upd_same, RepL.mono (Ext.new hp) _ r⟩)
theorem repO_lst {p : Addr} {ds : List D} {us : List V} (e : Ext K H (upd H p (.lst us))) (r : RepL K H ds us) : RepO K (upd H p (.lst us)) p (.lst ds) := ⟨us, upd_same, RepL.mono e _ r⟩
theorem fin_lst {ds : List D} {us : List V} {p : Addr} (h : ∀ p, M p = none → upK K H Q (.ob p) (mupd M p (.lst ds))) (s : Sim K H M) (hp : H p = none) (r : RepL K H ds us) : Q (.ref p) (upd H p (.lst us)) :=
  fin_new h s hp (repO_lst (Ext.new hp) r)
theorem fin_put {ob : Ob} {o o' : HO} {a : Addr} {d : D} {x : V} (h : upK K H Q d (mupd M a ob)) (s : Sim K H M) (ha : H a = some o) (m : Mut (some o)) (r : RepO K (upd H a o') a ob) (rd : RepD K H d x) : Q x (upd H a o') :=
  h x _ (Ext.mut ha m) (s.put ha m r) (RepD.mono (Ext.mut ha m) _ rd)
theorem rep_v {x u : V} (h : RepD K H (.v x) u) : u = x := by unfold RepD at h; exact h
theorem rep_of {x : V} : RepD K H (.v x) x := by unfold RepD; rfl
theorem rep_tup {ds : List D} {u : V} (h : RepD K H (.tup ds) u) : ∃ a us, u = .ref a ∧ SqT K H a us ∧ RepL K H ds us := by unfold RepD at h; exact h
theorem Sim.lst (s : Sim K H M) {a : Addr} {ds : List D} (h : M a = some (.lst ds)) : ∃ us, H a = some (.lst us) ∧ RepL K H ds us := s a _ h
theorem Sim.seq (s : Sim K H M) {a : Addr} {ds : List D} (h : M a = some (.lst ds) ∨ M a = some (.rol ds)) : ∃ us, SqL K H a us ∧ RepL K H ds us := by
  rcases h with h | h
  · obtain ⟨us, e, r⟩ := s a _ h
    exact ⟨us, SqL.of e, r⟩
  · obtain ⟨o, us, e, r⟩ := s a _ h
    exact ⟨us, .inl (.inr ⟨o, e⟩), r⟩
end

/-! plain data -/
mutual
def D.pure : D → Bool
  | .v .non | .v (.bl _) | .v (.int _) | .v (.str _) => true
  | .v _ => false
  | .tup ds => pureL ds
def pureL : List D → Bool
  | [] => true
  | d :: ds => d.pure && pureL ds
end
mutual
def D.py : D → PyData
  | .v .non => .none
  | .v (.bl b) => .bool b
  | .v (.int i) => .int i
  | .v (.str x) => .str x
  | .v _ => .none
  | .tup ds => .tuple (pyL ds)
def pyL : List D → List PyData
  | [] => []
  | d :: ds => d.py :: pyL ds
end
mutual
def D.dp : D → Nat
  | .v _ => 0
  | .tup ds => dpL ds + 1
def dpL : List D → Nat
  | [] => 0
  | d :: ds => max d.dp (dpL ds)
end
/-- == of plain data -/
def D.eqv (d e : D) : Bool := PyData.eqv d.py e.py
def eqvL (ds es : List D) : Bool := PyData.eqvAll (pyL ds) (pyL es)
theorem pyL_map : ∀ ds : List D, pyL ds = ds.map D.py
  | [] => by simp [pyL]
  | d :: ds => by simp [pyL, pyL_map ds]
mutual
theorem plain_py : ∀ d : D, d.py.plain = true
  | .v x => by cases x <;> simp [D.py, PyData.plain]
  | .tup ds => by simp [D.py, PyData.plain, plain_pyL ds]
theorem plain_pyL : ∀ ds : List D, PyData.plainAll (pyL ds) = true
  | [] => by simp [pyL, PyData.plainAll]
  | d :: ds => by simp [pyL, PyData.plainAll, plain_py d, plain_pyL ds]
end
mutual
theorem depth_py : ∀ d : D, d.py.depth = d.dp
  | .v x => by cases x <;> simp [D.py, D.dp, PyData.depth]
  | .tup ds => by simp [D.py, D.dp, PyData.depth, depth_pyL ds]
theorem depth_pyL : ∀ ds : List D, PyData.depthAll (pyL ds) = dpL ds
  | [] => by simp [pyL, dpL, PyData.depthAll]
  | d :: ds => by simp [pyL, dpL, PyData.depthAll, depth_py d, depth_pyL ds]
end
mutual
theorem RepD.dp {K : PySem.W.Frag} {H : Hp} : ∀ (d : D) {u : V}, d.pure = true → RepD K H d u → Dp K H u d.py
  | .v x, u, hp, h => by
    have e := rep_v h; subst e
    cases u <;> first | exact .non | exact .bl _ | exact .int _ | exact .str _ | (simp [D.pure] at hp)
  | .tup ds, u, hp, h => by
    obtain ⟨a, us, rfl, q, r⟩ := rep_tup h
    unfold D.py
    exact .tup q (RepL.dp ds (by simpa [D.pure] using hp) r)
theorem RepL.dp {K : PySem.W.Frag} {H : Hp} : ∀ (ds : List D) {us : List V}, pureL ds = true → RepL K H ds us → DpAll K H us (pyL ds)
  | [], us, hp, h => by unfold RepL at h; subst h; unfold pyL; exact .nil
  | d :: ds, us, hp, h => by
    unfold RepL at h
    obtain ⟨u, r, rfl, q, t⟩ := h
    simp only [pureL, Bool.and_eq_true] at hp
    unfold pyL
    exact .cons (RepD.dp d hp.1 q) (RepL.dp ds hp.2 t)
end

/-- plain data, or a list of such -/
def pyM (M : Mem) : D → Option PyData
  | .v (.ref a) => match M a with
    | some (.lst ds) => if pureL ds = true then some (.list (pyL ds)) else none
    | some (.rol ds) => if pureL ds = true then some (.list (pyL ds)) else none
    | _ => none
  | .v x => if (D.v x).pure = true then some (D.v x).py else none
  | .tup ds => if pureL ds = true then some (.tuple (pyL ds)) else none
theorem pyM_pure {M : Mem} : ∀ {d : D}, d.pure = true → pyM M d = some d.py
  | .v x, h => by cases x <;> simp_all [pyM, D.pure]
  | .tup ds, h => by simp_all [pyM, D.pure, D.py]
theorem pyM_dp {K : PySem.W.Frag} {H : Hp} {M : Mem} (s : Sim K H M) {d : D} {u : V} {p : PyData} (h : pyM M d = some p) (r : RepD K H d u) : Dp K H u p ∧ p.plain = true := by
  cases d with
  | tup ds =>
    simp only [pyM] at h
    split at h
    · cases h
      rename_i hp
      refine ⟨?_, by simp [PyData.plain, plain_pyL ds]⟩
      have := RepD.dp (.tup ds) (by simpa [D.pure] using hp) r
      simpa [D.py] using this
    · cases h
  | v x =>
    cases x with
    | ref a =>
      simp only [pyM] at h
      have e := rep_v r; subst e
      split at h
      · split at h
        · cases h
          rename_i ds hm hp
          obtain ⟨us, e, r⟩ := s a _ hm
          exact ⟨.lst (SqL.of e) (RepL.dp ds hp r), by simp [PyData.plain, plain_pyL ds]⟩
        · cases h
      · split at h
        · cases h
          rename_i ds hm hp
          obtain ⟨o, us, e, r⟩ := s a _ hm
          exact ⟨.lst (.inl (.inr ⟨o, e⟩)) (RepL.dp ds hp r), by simp [PyData.plain, plain_pyL ds]⟩
        · cases h
      · cases h
    | _ => (first
        | (simp [pyM, D.pure, D.py] at h; subst h; have e := rep_v r; subst e; exact ⟨by constructor, by simp [PyData.plain]⟩)
        | (simp [pyM, D.pure] at h))

/-! two-place operations -/
abbrev DOp2 := D → D → Mem → Res
def upR2 (K : PySem.W.Frag) (r : DOp2) : R2 := fun x y H Q => ∃ dx dy M, RepD K H dx x ∧ RepD K H dy y ∧ Sim K H M ∧ (r dx dy M).run M (upK K H Q)
def XOp (X : Cx) (f : Value → Value → Sem Value) (r : DOp2) : Prop := OpR X f (upR2 X.K r)

def dBin (r : DOp2) (ta tb : DE) : DE := fun env M Q E => ta env M (fun x M1 => tb env M1 (fun y M2 => (r x y M2).run M2 Q) E) E
theorem dBin_mono {r : DOp2} {ta tb : DE} (ha : MonoE ta) (hb : MonoE tb) : MonoE (dBin r ta tb) := fun env M Q Q' E E' hQ hE h =>
  ha env M _ _ _ _ (fun x M1 h1 => hb env M1 _ _ _ _ (fun y M2 h2 => Res.mono hQ h2) hE h1) hE h
section
variable {X : Cx} {W : WX} {a b : Expr} {ta tb : DE} {pos : Pos} {r : DOp2}
theorem bin_up {r2 : R2} (ha : XE X W a ta) (hb : XE X W b tb) (hr : ∀ x y H Q, upR2 X.K r x y H Q → r2 x y H Q) : ∀ σ H Q, liftE X.K W (dBin r ta tb) σ H Q → tOp r2 (liftE X.K W ta) (liftE X.K W tb) σ H Q := by
  rintro σ H Q ⟨env, M, re, s, h⟩
  refine stepE ha.mono re s h (fun d M1 u H1 e1 s1 re1 r1 h1 => ?_) fun _ _ _ z => z
  refine stepE hb.mono re1 s1 h1 (fun d2 M2 u2 H2 e2 s2 re2 r2 h2 => ?_) (upX_mono e1)
  exact hr _ _ _ _ ⟨d, d2, M2, RepD.mono e2 _ r1, r2, s2, Res.mono (upK_mono (e1.trans e2)) h2⟩
theorem xe_bin {op : Operator} (ho : XOp X (binaryOp op) r) (ha : XE X W a ta) (hb : XE X W b tb) : XE X W (.BinOp a op b pos) (dBin r ta tb) :=
  ⟨dBin_mono ha.mono hb.mono, PEw (pe_op ho ha.pe hb.pe) (bin_up ha hb fun _ _ _ _ h => h)⟩
theorem xe_cmp {op : CmpOp} (ho : XOp X (compareOp op) r) (ha : XE X W a ta) (hb : XE X W b tb) (hm : behindInMarks op b = false) : XE X W (.Compare a [op] [b] pos) (dBin r ta tb) :=
  ⟨dBin_mono ha.mono hb.mono, PEw (pe_cmpR ho ha.pe hb.pe hm) (bin_up ha hb fun _ _ _ _ h => h)⟩
end


/-! arithmetic -/
def opAdd : DOp2
  | .v (.int i), .v (.int j), _ => .val True (.int (i + j))
  | .v (.str a), .v (.str b), _ => .val (a.length + b.length ≤ sizeLine) (.str (a ++ b))
  | .tup a, .tup b, _ => .val (a.length + b.length ≤ sizeLine) (.tup (a ++ b))
  | .v (.ref a), .v (.ref b), M => match M a, M b with
    | some (.lst xs), some (.lst ys) => .new (xs.length + ys.length ≤ sizeLine) (.lst (xs ++ ys))
    | _, _ => .bad
  | _, _, _ => .bad
def opSub : DOp2
  | .v (.int i), .v (.int j), _ => .val True (.int (i - j))
  | _, _, _ => .bad
def opMul : DOp2
  | .v (.int i), .v (.int j), _ => .val (IntMulOk i j) (.int (i * j))
  | .tup xs, .v (.int k), _ => .val (xs ≠ [] ∧ 2 ≤ k ∧ k ≤ 1000 ∧ xs.length ≤ 1000) (.tup (List.replicate k.toNat xs).flatten)
  | .v (.str x), .v (.int k), _ => .val (1 ≤ x.length ∧ 2 ≤ k ∧ k ≤ 1000 ∧ x.length ≤ 1000) (.str ⟨(List.replicate k.toNat x.cps.toList).flatten.toArray⟩)
  | _, _, _ => .bad
def opFdiv : DOp2
  | .v (.int i), .v (.int j), _ => .val (0 < j ∧ j < 1073741824) (.int (i / j))
  | _, _, _ => .bad
def opMod : DOp2
  | .v (.int i), .v (.int j), _ => .val (0 < j) (.int (i % j))
  | _, _, _ => .bad
def opPow : DOp2
  | .v (.int i), .v (.int j), _ => .val (0 ≤ j ∧ j ≤ 1000000 ∧ i.natAbs < 2 ^ 64) (.int (i ^ j.toNat))
  | _, _, _ => .bad
theorem fold_rep (a : Array Nat) : ∀ (n : Nat) (acc : Array Nat), (List.replicate n a).foldl (· ++ ·) acc = acc ++ (List.replicate n a.toList).flatten.toArray
  | 0, acc => by simp
  | n + 1, acc => by
    rw [List.replicate_succ, List.foldl_cons, fold_rep a n, List.replicate_succ, List.flatten_cons]
    apply Array.toList_inj.mp
    simp
section
variable {X : Cx}
theorem x_sub : XOp X (binaryOp .Sub) opSub := by
  rintro pins s σ H x y v u Q I rx ry ⟨dx, dy, M, r1, r2, sm, h⟩
  unfold opSub at h
  split at h <;> first | exact h.elim | skip
  rw [rep_v r1] at rx; rw [rep_v r2] at ry
  exact op_sub pins s σ H _ _ v u Q I rx ry ⟨_, _, rfl, rfl, fin_val h.2 sm⟩
theorem x_fdiv : XOp X (binaryOp .FloorDiv) opFdiv := by
  rintro pins s σ H x y v u Q I rx ry ⟨dx, dy, M, r1, r2, sm, h⟩
  unfold opFdiv at h
  split at h <;> first | exact h.elim | skip
  rw [rep_v r1] at rx; rw [rep_v r2] at ry
  exact op_fdiv pins s σ H _ _ v u Q I rx ry ⟨_, _, rfl, rfl, h.1, fin_val h.2 sm⟩
theorem x_mod : XOp X (binaryOp .Mod) opMod := by
  rintro pins s σ H x y v u Q I rx ry ⟨dx, dy, M, r1, r2, sm, h⟩
  unfold opMod at h
  split at h <;> first | exact h.elim | skip
  rw [rep_v r1] at rx; rw [rep_v r2] at ry
  exact op_mod pins s σ H _ _ v u Q I rx ry ⟨_, _, rfl, rfl, h.1, fin_val h.2 sm⟩
theorem x_pow : XOp X (binaryOp .Pow) opPow := by
  rintro pins s σ H x y v u Q I rx ry ⟨dx, dy, M, r1, r2, sm, h⟩
  unfold opPow at h
  split at h <;> first | exact h.elim | skip
  rw [rep_v r1] at rx; rw [rep_v r2] at ry
  exact op_pow pins s σ H _ _ v u Q I rx ry ⟨_, _, rfl, rfl, h.1, fin_val h.2 sm⟩
theorem x_add : XOp X (binaryOp .Add) opAdd := by
  rintro pins s σ H x y v u Q I rx ry ⟨dx, dy, M, r1, r2, sm, h⟩
  unfold opAdd at h
  split at h <;> first | exact h.elim | skip
  · rw [rep_v r1] at rx; rw [rep_v r2] at ry
    exact op_add pins s σ H _ _ v u Q I rx ry ⟨_, _, rfl, rfl, fin_val h.2 sm⟩
  · rw [rep_v r1] at rx; rw [rep_v r2] at ry
    exact op_add_str pins s σ H _ _ v u Q I rx ry ⟨_, _, rfl, rfl, h.1, fin_val h.2 sm⟩
  · obtain ⟨a, us, rfl, q1, l1⟩ := rep_tup r1
    obtain ⟨b, ws, rfl, q2, l2⟩ := rep_tup r2
    refine op_catA pins s σ H _ _ v u Q I rx ry ⟨_, _, _, _, rfl, rfl, q1, q2, by rw [l1.length, l2.length]; exact h.1, fun e => ?_, fun _ e => ?_, fun _ _ p hp => ?_⟩
    · refine fin_rep h.2 sm ?_
      subst e
      have := l1.length
      rw [List.eq_nil_of_length_eq_zero this.symm, List.nil_append]
      exact r2
    · refine fin_rep h.2 sm ?_
      subst e
      have := l2.length
      rw [List.eq_nil_of_length_eq_zero this.symm, List.append_nil]
      exact r1
    · exact fin_tup h.2 sm hp (RepL.append l1 l2)
  · split at h <;> first | exact h.elim | skip
    rename_i hm1 hm2
    rw [rep_v r1] at rx; rw [rep_v r2] at ry
    obtain ⟨us, e1, l1⟩ := sm.lst hm1
    obtain ⟨ws, e2, l2⟩ := sm.lst hm2
    exact op_cat pins s σ H _ _ v u Q I rx ry ⟨_, _, _, _, rfl, rfl, e1, e2, by rw [l1.length, l2.length]; exact h.1, fun p hp => fin_lst h.2 sm hp (RepL.append l1 l2)⟩
theorem RepL.rep {K : PySem.W.Frag} {H : Hp} {ds : List D} {us : List V} (h : RepL K H ds us) : ∀ k : Nat, RepL K H (List.replicate k ds).flatten (List.replicate k us).flatten
  | 0 => by simp only [List.replicate_zero, List.flatten_nil]; exact .nil
  | k + 1 => by
    simp only [List.replicate_succ, List.flatten_cons]
    exact RepL.append h (RepL.rep h k)
theorem x_mul : XOp X (binaryOp .Mult) opMul := by
  rintro pins s σ H x y v u Q I rx ry ⟨dx, dy, M, r1, r2, sm, h⟩
  unfold opMul at h
  split at h <;> first | exact h.elim | skip
  · rw [rep_v r1] at rx; rw [rep_v r2] at ry
    obtain ⟨t, rfl⟩ := rx
    obtain ⟨t', rfl⟩ := ry
    exact mul_int ⟨.int _, H, I.tok _, ⟨_, rfl⟩, fin_val h.2 sm⟩ h.1
  · obtain ⟨a, us, rfl, q1, l1⟩ := rep_tup r1
    rw [rep_v r2] at ry
    obtain ⟨h1, h2, h3, h4⟩ := h.1
    refine op_repT pins s σ H _ _ v u Q I rx ry ⟨_, _, _, rfl, rfl, q1, fun e => h1 ?_, h2, h3, by rw [l1.length]; exact h4, fun p hp => fin_tup h.2 sm hp (RepL.rep l1 _)⟩
    have := l1.length
    rw [e] at this
    exact List.eq_nil_of_length_eq_zero this.symm
  · rename_i z k
    rw [rep_v r1] at rx; rw [rep_v r2] at ry
    obtain ⟨t, rfl⟩ := rx
    obtain ⟨t', rfl⟩ := ry
    obtain ⟨h1, h2, h3, h4⟩ := h.1
    have nk : ¬ k < 1 := by omega
    have k1 : (k == 1) = false := by simp; omega
    have z1 : (z.length == 0) = false := by simp; omega
    have hk : (z.length : Int) * k ≤ 1000000 := by
      have a1 : (z.length : Int) * k ≤ 1000 * k := Int.mul_le_mul_of_nonneg_right (by omega) (by omega)
      omega
    have hn : z.length * k.toNat ≤ 1000000 := by
      have : ((z.length * k.toNat : Nat) : Int) = (z.length : Int) * k := by
        rw [Int.natCast_mul, Int.toNat_of_nonneg (by omega)]
      omega
    refine PySem.P.mul_str ?_ (fun _ _ => ?_) (fun _ _ => ?_) ?_
    · rw [decide_eq_false (by omega), decide_eq_false (by omega)]; rfl
    · have : ((2 : Int) ^ 63 - 1) / k ≥ (2 ^ 63 - 1) / 1000 := by
        have h5 : (2 ^ 63 - 1 : Int) / 1000 * k ≤ (2 ^ 63 - 1) := by
          have : (2 ^ 63 - 1 : Int) / 1000 * k ≤ (2 ^ 63 - 1 : Int) / 1000 * 1000 := Int.mul_le_mul_of_nonneg_left h3 (by decide)
          omega
        exact (Int.le_ediv_iff_mul_le (by omega)).mpr h5
      omega
    · simp only [Builtin.Str.tooLong, decide_eq_false_iff_not]
      rw [sizeLine_eq]
      omega
    · rw [if_neg nk, k1, z1]
      rw [fold_rep, Array.empty_append]
      refine ⟨?_, .str _, H, I.tok _, ⟨_, rfl⟩, fin_val h.2 sm⟩
      show (List.toArray _).size ≤ _
      rw [List.size_toArray, List.length_flatten, List.map_replicate, List.sum_replicate_nat, Nat.mul_comm, sizeLine_eq]
      show z.cps.size * k.toNat ≤ _
      have e : z.length = z.cps.size := rfl
      rw [e] at hn
      omega
end
end PL

namespace PL
open PySem PySem.Spec PyProof.Rows L2

/-! comparisons -/
def mostDeep : Nat := 150
def opEq : DOp2 := fun x y M => match pyM M x, pyM M y with
  | some p, some q => .val (min p.depth q.depth ≤ mostDeep) (.bl (PyData.eqv p q))
  | _, _ => .bad
def opNe : DOp2 := fun x y M => match pyM M x, pyM M y with
  | some p, some q => .val (min p.depth q.depth ≤ mostDeep) (.bl (!PyData.eqv p q))
  | _, _ => .bad
def opLt : DOp2
  | .v (.int i), .v (.int j), _ => .val True (.bl (decide (i < j)))
  | .v (.str a), .v (.str b), _ => .val True (.bl (decide (a.cps.toList < b.cps.toList)))
  | _, _, _ => .bad
def opLe : DOp2
  | .v (.int i), .v (.int j), _ => .val True (.bl (decide (i ≤ j)))
  | .v (.str a), .v (.str b), _ => .val True (.bl (!decide (b.cps.toList < a.cps.toList)))
  | _, _, _ => .bad
def opGt : DOp2
  | .v (.int i), .v (.int j), _ => .val True (.bl (decide (j < i)))
  | .v (.str a), .v (.str b), _ => .val True (.bl (decide (b.cps.toList < a.cps.toList)))
  | _, _, _ => .bad
def opGe : DOp2
  | .v (.int i), .v (.int j), _ => .val True (.bl (decide (j ≤ i)))
  | .v (.str a), .v (.str b), _ => .val True (.bl (!decide (a.cps.toList < b.cps.toList)))
  | _, _, _ => .bad
def D.isNon : D → Bool
  | .v .non => true
  | _ => false
def opIs : DOp2
  | d, .v .non, _ => .val True (.bl d.isNon)
  | .v (.bl a), .v (.bl b), _ => .val True (.bl (decide (a = b)))
  | _, _, _ => .bad
def opIsNot : DOp2
  | d, .v .non, _ => .val True (.bl (!d.isNon))
  | .v (.bl a), .v (.bl b), _ => .val True (.bl (!decide (a = b)))
  | _, _, _ => .bad
def D.key : D → Option Key
  | .v (.int i) => some (.inl i)
  | .v (.str x) => some (.inr x)
  | _ => none
def look {κ β : Type} [DecidableEq κ] : List (κ × β) → κ → Option β
  | [], _ => none
  | (a, d) :: r, k => if a = k then some d else look r k
/-- x in y, as a bool where it is defined -/
def isIn (x y : D) (M : Mem) : Option (Nat × Bool) := match y with
  | .v (.str b) => match x with
    | .v (.str a) => if a.cps.size = 1 then some (0, decide (a.cps.getD 0 0 ∈ b.cps.toList)) else none
    | _ => none
  | .tup ds => if pureL ds && x.pure then some (min (dpL ds) x.dp, ds.any fun d => D.eqv d x) else none
  | .v (.ref a) => match M a with
    | some (.lst ds) => if pureL ds && x.pure then some (min (dpL ds) x.dp, ds.any fun d => D.eqv d x) else none
    | some (.rol ds) => if pureL ds && x.pure then some (min (dpL ds) x.dp, ds.any fun d => D.eqv d x) else none
    | some (.dk kvs) => match x.key with
      | some k => some (0, (look kvs k).isSome)
      | none => none
    | some (.rdk kvs) => match x.key with
      | some k => some (0, (look kvs k).isSome)
      | none => none
    | _ => none
  | _ => none
def opIn : DOp2 := fun x y M => match isIn x y M with
  | some (n, b) => .val (n ≤ mostDeep) (.bl b)
  | none => .bad
def opNotIn : DOp2 := fun x y M => match isIn x y M with
  | some (n, b) => .val (n ≤ mostDeep) (.bl (!b))
  | none => .bad

theorem key_rep {K : PySem.W.Frag} {H : Hp} {d : D} {u : V} {k : Key} (h : d.key = some k) (r : RepD K H d u) : u = kV k := by
  unfold D.key at h
  split at h <;> cases h <;> exact rep_v r
theorem RepKV.look {κ : Type} [DecidableEq κ] {K : PySem.W.Frag} {H : Hp} (k : κ) : ∀ {kvs : List (κ × D)} {us : List (κ × V)}, RepKV K H kvs us →
    match PL.look kvs k, valV us k with | some d, some u => RepD K H d u | none, none => True | _, _ => False
  | [], _, h => by unfold RepKV at h; subst h; simp [PL.look, valV]
  | (k', d) :: r, _, h => by
    obtain ⟨u, t, rfl, q, z⟩ := h
    have ih := RepKV.look k z
    by_cases e : k' = k
    · simpa [PL.look, valV, e] using q
    · simpa [PL.look, valV, e] using ih
theorem RepKV.isSome {κ : Type} [DecidableEq κ] {K : PySem.W.Frag} {H : Hp} (k : κ) {kvs : List (κ × D)} {us : List (κ × V)} (h : RepKV K H kvs us) : (valV us k).isSome = (PL.look kvs k).isSome := by
  have q := h.look k
  cases e : PL.look kvs k <;> cases f : valV us k <;> simp_all
theorem any_eqv (x : D) : ∀ ds : List D, ((pyL ds).any fun y => PyData.eqv y x.py) = ds.any fun d => D.eqv d x
  | [] => by simp [pyL]
  | d :: ds => by simp [pyL, any_eqv x ds, D.eqv]

section
variable {X : Cx}
theorem rd_of {pins : List (Addr × Obj)} {σ : L2.St} {H : Hp} {s : Shared} {d : PyData} {x : V} {v : Value} (I : Inv X pins σ H s) (h : Dp X.K H x d) (r : RelV x v) : ∃ as, Reads s.heap v d as := Dp.reads I d x v h r
theorem x_eq (hu : X.A.units + 200 < cLine) : XOp X (compareOp .Eq) opEq := by
  rintro pins s σ H x y v u Q I rx ry ⟨dx, dy, M, r1, r2, sm, h⟩
  unfold opEq at h
  split at h <;> first | exact h.elim | skip
  rename_i p q hp hq
  obtain ⟨p1, n1⟩ := pyM_dp sm hp r1
  obtain ⟨p2, n2⟩ := pyM_dp sm hq r2
  obtain ⟨as, a1⟩ := rd_of I p1 rx
  obtain ⟨bs, b1⟩ := rd_of I p2 ry
  have hd := h.1
  unfold mostDeep at hd
  exact SeqAt.eq_plain a1 b1 n1 n2 (by omega) ⟨.bl _, H, I, rfl, fin_val h.2 sm⟩
theorem x_ne (hu : X.A.units + 200 < cLine) : XOp X (compareOp .NotEq) opNe := by
  rintro pins s σ H x y v u Q I rx ry ⟨dx, dy, M, r1, r2, sm, h⟩
  unfold opNe at h
  split at h <;> first | exact h.elim | skip
  rename_i p q hp hq
  obtain ⟨p1, n1⟩ := pyM_dp sm hp r1
  obtain ⟨p2, n2⟩ := pyM_dp sm hq r2
  obtain ⟨as, a1⟩ := rd_of I p1 rx
  obtain ⟨bs, b1⟩ := rd_of I p2 ry
  have hd := h.1
  unfold mostDeep at hd
  exact SeqAt.ne_plain a1 b1 n1 n2 (by omega) ⟨.bl _, H, I, rfl, fin_val h.2 sm⟩
theorem x_lt : XOp X (compareOp .Lt) opLt := by
  rintro pins s σ H x y v u Q I rx ry ⟨dx, dy, M, r1, r2, sm, h⟩
  unfold opLt at h
  split at h <;> first | exact h.elim | skip
  all_goals rw [rep_v r1] at rx; rw [rep_v r2] at ry
  · exact op_lt pins s σ H _ _ v u Q I rx ry ⟨_, _, rfl, rfl, fin_val h.2 sm⟩
  · exact op_lt_str pins s σ H _ _ v u Q I rx ry ⟨_, _, rfl, rfl, fin_val h.2 sm⟩
theorem x_le : XOp X (compareOp .LtE) opLe := by
  rintro pins s σ H x y v u Q I rx ry ⟨dx, dy, M, r1, r2, sm, h⟩
  unfold opLe at h
  split at h <;> first | exact h.elim | skip
  all_goals rw [rep_v r1] at rx; rw [rep_v r2] at ry
  · exact op_le pins s σ H _ _ v u Q I rx ry ⟨_, _, rfl, rfl, fin_val h.2 sm⟩
  · exact op_le_str pins s σ H _ _ v u Q I rx ry ⟨_, _, rfl, rfl, fin_val h.2 sm⟩
theorem x_gt : XOp X (compareOp .Gt) opGt := by
  rintro pins s σ H x y v u Q I rx ry ⟨dx, dy, M, r1, r2, sm, h⟩
  unfold opGt at h
  split at h <;> first | exact h.elim | skip
  all_goals rw [rep_v r1] at rx; rw [rep_v r2] at ry
  · exact op_gt pins s σ H _ _ v u Q I rx ry ⟨_, _, rfl, rfl, fin_val h.2 sm⟩
  · exact op_gt_str pins s σ H _ _ v u Q I rx ry ⟨_, _, rfl, rfl, fin_val h.2 sm⟩
theorem x_ge : XOp X (compareOp .GtE) opGe := by
  rintro pins s σ H x y v u Q I rx ry ⟨dx, dy, M, r1, r2, sm, h⟩
  unfold opGe at h
  split at h <;> first | exact h.elim | skip
  all_goals rw [rep_v r1] at rx; rw [rep_v r2] at ry
  · exact op_ge pins s σ H _ _ v u Q I rx ry ⟨_, _, rfl, rfl, fin_val h.2 sm⟩
  · exact op_ge_str pins s σ H _ _ v u Q I rx ry ⟨_, _, rfl, rfl, fin_val h.2 sm⟩
theorem non_rep {K : PySem.W.Frag} {H : Hp} {d : D} {u : V} (r : RepD K H d u) : decide (u = .non) = d.isNon := by
  cases d with
  | tup ds =>
    obtain ⟨a, us, rfl, _⟩ := rep_tup r
    rfl
  | v x =>
    rw [rep_v r]
    cases x <;> rfl
theorem x_is : XOp X (compareOp .Is) opIs := by
  rintro pins s σ H x y v u Q I rx ry ⟨dx, dy, M, r1, r2, sm, h⟩
  unfold opIs at h
  split at h <;> first | exact h.elim | skip
  · rw [rep_v r2] at ry
    refine op_isN pins s σ H _ _ v u Q I rx ry ⟨rfl, ?_⟩
    rw [non_rep r1]
    exact fin_val h.2 sm
  · rw [rep_v r1] at rx; rw [rep_v r2] at ry
    exact op_isBl pins s σ H _ _ v u Q I rx ry ⟨_, _, rfl, rfl, fin_val h.2 sm⟩
theorem x_isnot : XOp X (compareOp .IsNot) opIsNot := by
  rintro pins s σ H x y v u Q I rx ry ⟨dx, dy, M, r1, r2, sm, h⟩
  unfold opIsNot at h
  split at h <;> first | exact h.elim | skip
  · rw [rep_v r2] at ry
    refine op_notN pins s σ H _ _ v u Q I rx ry ⟨rfl, ?_⟩
    rw [non_rep r1]
    exact fin_val h.2 sm
  · rw [rep_v r1] at rx; rw [rep_v r2] at ry
    exact op_notBl pins s σ H _ _ v u Q I rx ry ⟨_, _, rfl, rfl, fin_val h.2 sm⟩

theorem one_sign {a : Str} (h : a.cps.size = 1) : a = ⟨#[a.cps.getD 0 0]⟩ := by
  obtain ⟨⟨l⟩⟩ := a
  match l, h with
  | [c], _ => rfl
theorem x_in (hu : X.A.units + 200 < cLine) : XOp X (compareOp .In) opIn := by
  rintro pins s σ H x y v u Q I rx ry ⟨dx, dy, M, r1, r2, sm, h⟩
  unfold opIn at h
  split at h <;> first | exact h.elim | skip
  rename_i n b hb
  have hn := h.1
  unfold mostDeep at hn
  unfold isIn at hb
  split at hb
  · -- texts
    split at hb <;> try (cases hb; done)
    split at hb <;> cases hb
    rename_i h1
    rw [rep_v r1] at rx; rw [rep_v r2] at ry
    refine op_in_sign pins s σ H _ _ v u Q I rx ry ⟨_, _, congrArg V.str (one_sign h1), rfl, fin_val h.2 sm⟩
  · -- tuples
    split at hb <;> cases hb
    rename_i ds hp
    simp only [Bool.and_eq_true] at hp
    obtain ⟨a, us, rfl, q1, l1⟩ := rep_tup r2
    obtain ⟨as, a1⟩ := rd_of I (Dp.tup q1 (RepL.dp ds hp.1 l1)) ry
    obtain ⟨bs, b1⟩ := rd_of I (RepD.dp dx hp.2 r1) rx
    refine SeqAt.in_tuple_data a1 b1 (plain_pyL ds) (plain_py dx) (by rw [depth_pyL, depth_py]; omega) ?_
    rw [any_eqv]
    exact ⟨.bl _, H, I, rfl, fin_val h.2 sm⟩
  · -- lists, dicts
    have e := rep_v r2
    subst e
    split at hb
    · split at hb <;> cases hb
      rename_i ds hm hp
      simp only [Bool.and_eq_true] at hp
      obtain ⟨us, e1, l1⟩ := sm.lst hm
      obtain ⟨as, a1⟩ := rd_of I (Dp.lst (SqL.of e1) (RepL.dp ds hp.1 l1)) ry
      obtain ⟨bs, b1⟩ := rd_of I (RepD.dp dx hp.2 r1) rx
      refine SeqAt.in_list_data a1 b1 (plain_pyL ds) (plain_py dx) (by rw [depth_pyL, depth_py]; omega) ?_
      rw [any_eqv]
      exact ⟨.bl _, H, I, rfl, fin_val h.2 sm⟩
    · split at hb <;> cases hb
      rename_i ds hm hp
      simp only [Bool.and_eq_true] at hp
      obtain ⟨us, e1, l1⟩ := sm.seq (.inr hm)
      obtain ⟨as, a1⟩ := rd_of I (Dp.lst e1 (RepL.dp ds hp.1 l1)) ry
      obtain ⟨bs, b1⟩ := rd_of I (RepD.dp dx hp.2 r1) rx
      refine SeqAt.in_list_data a1 b1 (plain_pyL ds) (plain_py dx) (by rw [depth_pyL, depth_py]; omega) ?_
      rw [any_eqv]
      exact ⟨.bl _, H, I, rfl, fin_val h.2 sm⟩
    · split at hb <;> cases hb
      rename_i kvs hm _ k hk
      obtain ⟨us, e1, l1⟩ := sm _ _ hm
      have ex := key_rep hk r1
      subst ex
      obtain rfl : u = Value.ref _ := ry
      refine d_in (o := valV us k) (by omega) I (DGet.k e1) rx fun s' I' => ⟨.bl _, H, I', rfl, ?_⟩
      rw [l1.isSome k]
      exact fin_val h.2 sm
    · split at hb <;> cases hb
      rename_i kvs hm _ k hk
      obtain ⟨ob, us, e1, l1⟩ := sm _ _ hm
      have ex := key_rep hk r1
      subst ex
      obtain rfl : u = Value.ref _ := ry
      refine d_in (o := valV us k) (by omega) I (.inl ⟨us, k, .inr ⟨ob, e1⟩, rfl, rfl⟩) rx fun s' I' => ⟨.bl _, H, I', rfl, ?_⟩
      rw [l1.isSome k]
      exact fin_val h.2 sm
    · cases hb
  · cases hb
theorem x_notin (hu : X.A.units + 200 < cLine) : XOp X (compareOp .NotIn) opNotIn := by
  rintro pins s σ H x y v u Q I rx ry ⟨dx, dy, M, r1, r2, sm, h⟩
  unfold opNotIn at h
  split at h <;> first | exact h.elim | skip
  rename_i n b hb
  have hn := h.1
  unfold mostDeep at hn
  unfold isIn at hb
  split at hb
  · split at hb <;> try (cases hb; done)
    split at hb <;> cases hb
    rename_i h1
    rw [rep_v r1] at rx; rw [rep_v r2] at ry
    refine op_notIn_sign pins s σ H _ _ v u Q I rx ry ⟨_, _, congrArg V.str (one_sign h1), rfl, fin_val h.2 sm⟩
  · split at hb <;> cases hb
    rename_i ds hp
    simp only [Bool.and_eq_true] at hp
    obtain ⟨a, us, rfl, q1, l1⟩ := rep_tup r2
    obtain ⟨as, a1⟩ := rd_of I (Dp.tup q1 (RepL.dp ds hp.1 l1)) ry
    obtain ⟨bs, b1⟩ := rd_of I (RepD.dp dx hp.2 r1) rx
    refine SeqAt.notIn_tuple_data a1 b1 (plain_pyL ds) (plain_py dx) (by rw [depth_pyL, depth_py]; omega) ?_
    rw [any_eqv]
    exact ⟨.bl _, H, I, rfl, fin_val h.2 sm⟩
  · have e := rep_v r2
    subst e
    split at hb
    · split at hb <;> cases hb
      rename_i ds hm hp
      simp only [Bool.and_eq_true] at hp
      obtain ⟨us, e1, l1⟩ := sm.lst hm
      obtain ⟨as, a1⟩ := rd_of I (Dp.lst (SqL.of e1) (RepL.dp ds hp.1 l1)) ry
      obtain ⟨bs, b1⟩ := rd_of I (RepD.dp dx hp.2 r1) rx
      refine SeqAt.notIn_list_data a1 b1 (plain_pyL ds) (plain_py dx) (by rw [depth_pyL, depth_py]; omega) ?_
      rw [any_eqv]
      exact ⟨.bl _, H, I, rfl, fin_val h.2 sm⟩
    · split at hb <;> cases hb
      rename_i ds hm hp
      simp only [Bool.and_eq_true] at hp
      obtain ⟨us, e1, l1⟩ := sm.seq (.inr hm)
      obtain ⟨as, a1⟩ := rd_of I (Dp.lst e1 (RepL.dp ds hp.1 l1)) ry
      obtain ⟨bs, b1⟩ := rd_of I (RepD.dp dx hp.2 r1) rx
      refine SeqAt.notIn_list_data a1 b1 (plain_pyL ds) (plain_py dx) (by rw [depth_pyL, depth_py]; omega) ?_
      rw [any_eqv]
      exact ⟨.bl _, H, I, rfl, fin_val h.2 sm⟩
    · split at hb <;> cases hb
      rename_i kvs hm _ k hk
      obtain ⟨us, e1, l1⟩ := sm _ _ hm
      have ex := key_rep hk r1
      subst ex
      obtain rfl : u = Value.ref _ := ry
      refine d_notIn (o := valV us k) (by omega) I (DGet.k e1) rx fun s' I' => ⟨.bl _, H, I', rfl, ?_⟩
      rw [l1.isSome k]
      exact fin_val h.2 sm
    · split at hb <;> cases hb
      rename_i kvs hm _ k hk
      obtain ⟨ob, us, e1, l1⟩ := sm _ _ hm
      have ex := key_rep hk r1
      subst ex
      obtain rfl : u = Value.ref _ := ry
      refine d_notIn (o := valV us k) (by omega) I (.inl ⟨us, k, .inr ⟨ob, e1⟩, rfl, rfl⟩) rx fun s' I' => ⟨.bl _, H, I', rfl, ?_⟩
      rw [l1.isSome k]
      exact fin_val h.2 sm
    · cases hb
  · cases hb
end
end PL

namespace PL
open PySem PySem.Spec PyProof.Rows L2

/-! names, constants -/
def dVar (i : Nat) : DE := fun env M Q _ => match env[i]? with
  | some (some d) => Q d M
  | _ => False
def dC (d : D) : DE := fun _ M Q _ => Q d M
theorem dC_mono {d : D} : MonoE (dC d) := fun _ _ _ _ _ _ hQ _ h => hQ _ _ h
section
variable {X : Cx} {W : WX} {pos : Pos}
theorem xe_var (i : Nat) {x : Str} (hN : X.N[i]? = some x := by rfl) (hv : Vis X.env.scope x := by first | exact Or.inl rfl | exact Or.inr (Or.inl rfl) | exact Or.inr (Or.inr rfl)) (hd : (x == ("__debug__" : Str)) = false := by decide)
    (hcd : (x == ("__classdict__" : Str)) = false := by decide) : XE X W (.Name x pos) (dVar i) := by
  refine ⟨fun env M Q Q' E E' hQ hE h => ?_, PEw (pe_var hN hv hd hcd) ?_⟩
  · unfold dVar at h ⊢
    split at h
    · exact hQ _ _ h
    · exact h
  · rintro σ H Q ⟨env, M, re, s, h⟩
    unfold dVar at h
    split at h
    · rename_i d e
      obtain ⟨u, h1, h2⟩ := re.2 i d e
      exact ⟨u, h1, fin_rep h s h2⟩
    · exact h.elim
theorem xe_const {e : Expr} {x : V} (h : PE X e (tC x)) : XE X W e (dC (.v x)) := by
  refine ⟨dC_mono, PEw h ?_⟩
  rintro σ H Q ⟨env, M, re, s, h⟩
  exact fin_val h s
theorem xe_int {i j} : XE X W (.Constant (.int i) j pos) (dC (.int i)) := xe_const pe_int
theorem xe_str {x j} : XE X W (.Constant (.str x) j pos) (dC (.str x)) := xe_const pe_str
theorem xe_bl {b j} : XE X W (.Constant (.bool b) j pos) (dC (.bl b)) := xe_const pe_bl
theorem xe_non {j} : XE X W (.Constant .none j pos) (dC .non) := xe_const pe_non
theorem xe_glob {x : Str} {v : V} {u : Value} (hg : Gl X x) (hm : X.mg x = some u) (r : RelV v u) (hd : (x == ("__debug__" : Str)) = false := by decide) : XE X W (.Name x pos) (dC (.v v)) := xe_const (pe_glob hg hm r hd)
theorem xe_bltn {x : Str} {v : V} {u : Value} (hg : Gl X x) (hm : X.mg x = none) (hv : bootBuiltins x = some u) (r : RelV v u) (hn : x ≠ "__name__" := by decide) (hd : (x == ("__debug__" : Str)) = false := by decide) : XE X W (.Name x pos) (dC (.v v)) :=
  xe_const (pe_bltn hg hm hv r hn hd)
/-- a constant tuple of the module -/
theorem xe_globT {x : Str} {a : Addr} {ds : List D} (hg : Gl X x) (hm : X.mg x = some (.ref a)) (r : ∀ H, RepD X.K H (.tup ds) (.ref a)) (hd : (x == ("__debug__" : Str)) = false := by decide) : XE X W (.Name x pos) (dC (.tup ds)) := by
  refine ⟨dC_mono, PEw (pe_glob (v := .ref a) hg hm rfl hd) ?_⟩
  rintro σ H Q ⟨env, M, re, s, h⟩
  exact fin_rep h s (r H)
end

/-! one-place operations, truth -/
def truth (M : Mem) : D → Option Bool
  | .v .non => some false
  | .v (.bl b) => some b
  | .v (.int i) => some (i != 0)
  | .v (.str x) => if x.length ≤ sizeLine then some ((x.length : Int) != 0) else none
  | .tup ds => some (!ds.isEmpty)
  | .v (.ref a) => match M a with
    | some (.lst ds) => some (!ds.isEmpty)
    | some (.rol ds) => some (!ds.isEmpty)
    | some (.dk kvs) => some (!kvs.isEmpty)
    | _ => none
  | _ => none
theorem RepL.isEmpty {K : PySem.W.Frag} {H : Hp} {ds : List D} {us : List V} (h : RepL K H ds us) : us.isEmpty = ds.isEmpty := by
  have := h.length
  cases ds <;> cases us <;> simp_all
theorem RepKV.length {κ : Type} {K : PySem.W.Frag} {H : Hp} : ∀ {kvs : List (κ × D)} {us : List (κ × V)}, RepKV K H kvs us → us.length = kvs.length
  | [], _, h => by unfold RepKV at h; rw [h]; rfl
  | (k, d) :: r, _, h => by
    obtain ⟨u, t, rfl, q, z⟩ := h
    simp [RepKV.length z]
theorem RepKV.isEmpty {κ : Type} {K : PySem.W.Frag} {H : Hp} {kvs : List (κ × D)} {us : List (κ × V)} (h : RepKV K H kvs us) : us.isEmpty = kvs.isEmpty := by
  have := h.length
  cases kvs <;> cases us <;> simp_all
theorem truth_v {K : PySem.W.Frag} {H : Hp} {M : Mem} (s : Sim K H M) {d : D} {u : V} {b : Bool} (r : RepD K H d u) (h : truth M d = some b) : TruV K u H b := by
  unfold truth at h
  split at h
  · cases h; rw [rep_v r]; rfl
  · cases h; rw [rep_v r]; rfl
  · cases h; rw [rep_v r]; rfl
  · split at h <;> cases h
    rw [rep_v r]
    exact ⟨by assumption, rfl⟩
  · cases h
    obtain ⟨a, us, rfl, q, l⟩ := rep_tup r
    exact .inr (.inl ⟨us, q, by rw [l.isEmpty]⟩)
  · rw [rep_v r]
    split at h
    · cases h
      rename_i hm
      obtain ⟨us, e, l⟩ := s _ _ hm
      exact .inl ⟨us, SqL.of e, by rw [l.isEmpty]⟩
    · cases h
      rename_i hm
      obtain ⟨o, us, e, l⟩ := s _ _ hm
      exact .inl ⟨us, .inl (.inr ⟨o, e⟩), by rw [l.isEmpty]⟩
    · cases h
      rename_i hm
      obtain ⟨us, e, l⟩ := s _ _ hm
      exact .inr (.inr ⟨us, e, by rw [l.isEmpty]⟩)
    · cases h
  · cases h

def dTruth (t : DE) : DT := fun env M Q E => t env M (fun d M1 => match truth M1 d with
  | some b => Q b M1
  | none => False) E
theorem dTruth_mono {t : DE} (h : MonoE t) : MonoT (dTruth t) := fun env M Q Q' E E' hQ hE => h env M _ _ _ _ (fun d M1 => by
  show (match truth M1 d with | some b => Q b M1 | none => False) → (match truth M1 d with | some b => Q' b M1 | none => False)
  cases truth M1 d with
  | none => exact id
  | some b => exact hQ b M1) hE
def dAnd (t u : DT) : DT := fun env M Q E => t env M (fun b M1 => if b = true then u env M1 Q E else Q false M1) E
def dOr (t u : DT) : DT := fun env M Q E => t env M (fun b M1 => if b = true then Q true M1 else u env M1 Q E) E
def dNot (t : DT) : DT := fun env M Q E => t env M (fun b M1 => Q (!b) M1) E
def dIf (t : DT) (ta tb : DE) : DE := fun env M Q E => t env M (fun b M1 => if b = true then ta env M1 Q E else tb env M1 Q E) E
def dAndV (ta tb : DE) : DE := fun env M Q E => ta env M (fun d M1 => match truth M1 d with
  | some true => tb env M1 Q E
  | some false => Q d M1
  | none => False) E
def dOrV (ta tb : DE) : DE := fun env M Q E => ta env M (fun d M1 => match truth M1 d with
  | some true => Q d M1
  | some false => tb env M1 Q E
  | none => False) E
def dNotV (ta : DE) : DE := fun env M Q E => ta env M (fun d M1 => match truth M1 d with
  | some b => Q (.bl (!b)) M1
  | none => False) E
theorem dAnd_mono {t u : DT} (h : MonoT t) (g : MonoT u) : MonoT (dAnd t u) := fun env M Q Q' E E' hQ hE => h env M _ _ _ _ (fun b M1 => by
  cases b with
  | true => rw [if_pos rfl, if_pos rfl]; exact g env M1 _ _ _ _ hQ hE
  | false => rw [if_neg Bool.false_ne_true, if_neg Bool.false_ne_true]; exact hQ false M1) hE
theorem dOr_mono {t u : DT} (h : MonoT t) (g : MonoT u) : MonoT (dOr t u) := fun env M Q Q' E E' hQ hE => h env M _ _ _ _ (fun b M1 => by
  cases b with
  | true => rw [if_pos rfl, if_pos rfl]; exact hQ true M1
  | false => rw [if_neg Bool.false_ne_true, if_neg Bool.false_ne_true]; exact g env M1 _ _ _ _ hQ hE) hE
theorem dNot_mono {t : DT} (h : MonoT t) : MonoT (dNot t) := fun env M Q Q' E E' hQ hE => h env M _ _ _ _ (fun b M1 => hQ (!b) M1) hE
theorem dIf_mono {t : DT} {ta tb : DE} (h : MonoT t) (ha : MonoE ta) (hb : MonoE tb) : MonoE (dIf t ta tb) := fun env M Q Q' E E' hQ hE => h env M _ _ _ _ (fun b M1 => by
  cases b with
  | true => rw [if_pos rfl, if_pos rfl]; exact ha env M1 _ _ _ _ hQ hE
  | false => rw [if_neg Bool.false_ne_true, if_neg Bool.false_ne_true]; exact hb env M1 _ _ _ _ hQ hE) hE
theorem dAndV_mono {ta tb : DE} (ha : MonoE ta) (hb : MonoE tb) : MonoE (dAndV ta tb) := fun env M Q Q' E E' hQ hE => ha env M _ _ _ _ (fun d M1 => by
  show (match truth M1 d with | some true => tb env M1 Q E | some false => Q d M1 | none => False) → (match truth M1 d with | some true => tb env M1 Q' E' | some false => Q' d M1 | none => False)
  cases truth M1 d with
  | none => exact id
  | some b => cases b with
    | true => exact hb env M1 _ _ _ _ hQ hE
    | false => exact hQ d M1) hE
theorem dOrV_mono {ta tb : DE} (ha : MonoE ta) (hb : MonoE tb) : MonoE (dOrV ta tb) := fun env M Q Q' E E' hQ hE => ha env M _ _ _ _ (fun d M1 => by
  show (match truth M1 d with | some true => Q d M1 | some false => tb env M1 Q E | none => False) → (match truth M1 d with | some true => Q' d M1 | some false => tb env M1 Q' E' | none => False)
  cases truth M1 d with
  | none => exact id
  | some b => cases b with
    | true => exact hQ d M1
    | false => exact hb env M1 _ _ _ _ hQ hE) hE
theorem dNotV_mono {ta : DE} (ha : MonoE ta) : MonoE (dNotV ta) := fun env M Q Q' E E' hQ hE => ha env M _ _ _ _ (fun d M1 => by
  show (match truth M1 d with | some b => Q (.bl (!b)) M1 | none => False) → (match truth M1 d with | some b => Q' (.bl (!b)) M1 | none => False)
  cases truth M1 d with
  | none => exact id
  | some b => exact hQ _ M1) hE

section
variable {X : Cx} {W : WX} {a b c : Expr} {rest : List Expr} {ta tb : DE} {t u : DT} {pos : Pos}
/-- a test by its value's truth -/
theorem xt_val (h : XE X W a ta) (he : ∀ whole, isTrue a X.env whole = (do let v ← whole; standAt a.pos; holding [v] (truthy v)) := by intro _; rfl) : XT X W a (dTruth ta) := by
  refine ⟨dTruth_mono h.mono, PTw (pt_truth h.pe he) ?_⟩
  rintro σ H Q ⟨env, M, re, s, q⟩
  refine stepE h.mono re s q (fun d M1 u H1 e1 s1 re1 r1 h1 => ?_) fun _ _ _ z => z
  show ∃ k, _
  split at h1
  · rename_i b hb
    exact ⟨b, truth_v s1 r1 hb, h1 H1 e1 s1⟩
  · exact h1.elim
theorem xt_cmp {op : CmpOp} {r : DOp2} (ho : XOp X (compareOp op) r) (ha : XE X W a ta) (hb : XE X W b tb) (hm : behindInMarks op b = false)
    (hB : ∀ x y M Q, (r x y M).run M Q → (r x y M).run M fun d M' => (∃ k, d = .bl k) ∧ Q d M') : XT X W (.Compare a [op] [b] pos) (dTruth (dBin r ta tb)) := by
  refine ⟨dTruth_mono (dBin_mono ha.mono hb.mono), PTw (pt_cmpR ho ha.pe hb.pe hm) ?_⟩
  rintro σ H Q ⟨env, M, re, s, q⟩
  have q' : dBin r ta tb env M (fun d M1 => (∃ k, d = D.bl k) ∧ match truth M1 d with
      | some b => ∀ H', Ext X.K H H' → Sim X.K H' M1 → Q b H'
      | none => False) (upX X.K W H σ) := ha.mono env M _ _ _ _ (fun x M1 h1 => hb.mono env M1 _ _ _ _ (fun y M2 h2 => hB _ _ _ _ h2) (fun _ _ _ z => z) h1) (fun _ _ _ z => z) q
  show tOp _ _ _ _ _ _
  refine bin_up ha hb (fun _ _ _ _ h => h) σ H _ ⟨env, M, re, s, dBin_mono ha.mono hb.mono env M _ _ _ _ (fun d M1 h1 u H1 e1 s1 r1 => ?_) (fun _ _ _ z => z) q'⟩
  obtain ⟨⟨k, rfl⟩, h1⟩ := h1
  rw [rep_v r1]
  exact ⟨k, rfl, h1 H1 e1 s1⟩
theorem bl_eq : ∀ x y M Q, (opEq x y M).run M Q → (opEq x y M).run M fun d M' => (∃ k, d = .bl k) ∧ Q d M' := fun x y M Q h => by
  unfold opEq at h ⊢
  split at h
  · exact ⟨h.1, ⟨_, rfl⟩, h.2⟩
  · exact h.elim
theorem bl_ne : ∀ x y M Q, (opNe x y M).run M Q → (opNe x y M).run M fun d M' => (∃ k, d = .bl k) ∧ Q d M' := fun x y M Q h => by
  unfold opNe at h ⊢
  split at h
  · exact ⟨h.1, ⟨_, rfl⟩, h.2⟩
  · exact h.elim
theorem bl_lt : ∀ x y M Q, (opLt x y M).run M Q → (opLt x y M).run M fun d M' => (∃ k, d = .bl k) ∧ Q d M' := fun x y M Q h => by
  unfold opLt at h ⊢
  split at h <;> first | exact h.elim | exact ⟨h.1, ⟨_, rfl⟩, h.2⟩
theorem bl_le : ∀ x y M Q, (opLe x y M).run M Q → (opLe x y M).run M fun d M' => (∃ k, d = .bl k) ∧ Q d M' := fun x y M Q h => by
  unfold opLe at h ⊢
  split at h <;> first | exact h.elim | exact ⟨h.1, ⟨_, rfl⟩, h.2⟩
theorem bl_gt : ∀ x y M Q, (opGt x y M).run M Q → (opGt x y M).run M fun d M' => (∃ k, d = .bl k) ∧ Q d M' := fun x y M Q h => by
  unfold opGt at h ⊢
  split at h <;> first | exact h.elim | exact ⟨h.1, ⟨_, rfl⟩, h.2⟩
theorem bl_ge : ∀ x y M Q, (opGe x y M).run M Q → (opGe x y M).run M fun d M' => (∃ k, d = .bl k) ∧ Q d M' := fun x y M Q h => by
  unfold opGe at h ⊢
  split at h <;> first | exact h.elim | exact ⟨h.1, ⟨_, rfl⟩, h.2⟩
theorem bl_is : ∀ x y M Q, (opIs x y M).run M Q → (opIs x y M).run M fun d M' => (∃ k, d = .bl k) ∧ Q d M' := fun x y M Q h => by
  unfold opIs at h ⊢
  split at h <;> first | exact h.elim | exact ⟨h.1, ⟨_, rfl⟩, h.2⟩
theorem bl_isnot : ∀ x y M Q, (opIsNot x y M).run M Q → (opIsNot x y M).run M fun d M' => (∃ k, d = .bl k) ∧ Q d M' := fun x y M Q h => by
  unfold opIsNot at h ⊢
  split at h <;> first | exact h.elim | exact ⟨h.1, ⟨_, rfl⟩, h.2⟩
theorem bl_in : ∀ x y M Q, (opIn x y M).run M Q → (opIn x y M).run M fun d M' => (∃ k, d = .bl k) ∧ Q d M' := fun x y M Q h => by
  unfold opIn at h ⊢
  split at h
  · exact ⟨h.1, ⟨_, rfl⟩, h.2⟩
  · exact h.elim
theorem bl_notin : ∀ x y M Q, (opNotIn x y M).run M Q → (opNotIn x y M).run M fun d M' => (∃ k, d = .bl k) ∧ Q d M' := fun x y M Q h => by
  unfold opNotIn at h ⊢
  split at h
  · exact ⟨h.1, ⟨_, rfl⟩, h.2⟩
  · exact h.elim
theorem stepB {K : PySem.W.Frag} {t : DT} {σ : L2.St} {H : Hp} {env : DEnv} {M : Mem} {Q : Bool → Hp → Prop} (re : RepE K H env σ) (s : Sim K H M) (h : t env M (fun b M' => ∀ H', Ext K H H' → Sim K H' M' → Q b H') (upX K W H σ)) : liftT K W t σ H Q := ⟨env, M, re, s, h⟩
theorem xt_wh (h : XW X W a t) : XT X W a t := ⟨h.mono, h.pw.pt⟩
theorem xw_and1 (h : XT X W a t) : XW X W (.BoolOp .And [a] pos) t := ⟨h.mono, pw_and1 h.pt⟩
theorem xw_or1 (h : XT X W a t) : XW X W (.BoolOp .Or [a] pos) t := ⟨h.mono, pw_or1 h.pt⟩
theorem upT_mono {K : PySem.W.Frag} {H H1 : Hp} {Q : Bool → Hp → Prop} (e : Ext K H H1) : ∀ b M1, (∀ H', Ext K H H' → Sim K H' M1 → Q b H') → ∀ H', Ext K H1 H' → Sim K H' M1 → Q b H' := fun b M1 q H' e' s => q H' (e.trans e') s
theorem xw_and (ha : XT X W a t) (hb : XW X W (.BoolOp .And (b :: rest) pos) u) : XW X W (.BoolOp .And (a :: b :: rest) pos) (dAnd t u) := by
  refine ⟨dAnd_mono ha.mono hb.mono, PWw (pw_and ha.pt hb.pw) ?_⟩
  rintro σ H Q ⟨env, M, re, s, h⟩
  refine stepT ha.mono re s h (fun c M1 H1 e1 s1 re1 h1 => ?_) fun _ _ _ z => z
  cases c with
  | true =>
    rw [if_pos rfl] at h1 ⊢
    exact stepB re1 s1 (hb.mono _ _ _ _ _ _ (upT_mono e1) (upX_mono e1) h1)
  | false =>
    rw [if_neg Bool.false_ne_true] at h1 ⊢
    exact h1 H1 e1 s1
theorem xw_or (ha : XT X W a t) (hb : XW X W (.BoolOp .Or (b :: rest) pos) u) : XW X W (.BoolOp .Or (a :: b :: rest) pos) (dOr t u) := by
  refine ⟨dOr_mono ha.mono hb.mono, PWw (pw_or ha.pt hb.pw) ?_⟩
  rintro σ H Q ⟨env, M, re, s, h⟩
  refine stepT ha.mono re s h (fun c M1 H1 e1 s1 re1 h1 => ?_) fun _ _ _ z => z
  cases c with
  | true =>
    rw [if_pos rfl] at h1 ⊢
    exact h1 H1 e1 s1
  | false =>
    rw [if_neg Bool.false_ne_true] at h1 ⊢
    exact stepB re1 s1 (hb.mono _ _ _ _ _ _ (upT_mono e1) (upX_mono e1) h1)
theorem xt_not (ha : XT X W a t) : XT X W (.UnaryOp .Not a pos) (dNot t) := by
  refine ⟨dNot_mono ha.mono, PTw (pt_not ha.pt) ?_⟩
  rintro σ H Q ⟨env, M, re, s, h⟩
  exact stepT ha.mono re s h (fun c M1 H1 e1 s1 re1 h1 => h1 H1 e1 s1) fun _ _ _ z => z
theorem xe_if (hc : XT X W c t) (ha : XE X W a ta) (hb : XE X W b tb) : XE X W (.IfExp c a b pos) (dIf t ta tb) := by
  refine ⟨dIf_mono hc.mono ha.mono hb.mono, PEw (pe_ifExp hc.pt ha.pe hb.pe) ?_⟩
  rintro σ H Q ⟨env, M, re, s, h⟩
  refine stepT hc.mono re s h (fun c M1 H1 e1 s1 re1 h1 => ?_) fun _ _ _ z => z
  cases c with
  | true =>
    rw [if_pos rfl] at h1 ⊢
    exact ⟨env, M1, re1, s1, ha.mono _ _ _ _ _ _ (upK_mono e1) (upX_mono e1) h1⟩
  | false =>
    rw [if_neg Bool.false_ne_true] at h1 ⊢
    exact ⟨env, M1, re1, s1, hb.mono _ _ _ _ _ _ (upK_mono e1) (upX_mono e1) h1⟩
theorem xe_one {op} (h : XE X W a ta) : XE X W (.BoolOp op [a] pos) ta := ⟨h.mono, pe_one h.pe⟩
theorem xe_and (ha : XE X W a ta) (hb : XE X W (.BoolOp .And (b :: rest) pos) tb) : XE X W (.BoolOp .And (a :: b :: rest) pos) (dAndV ta tb) := by
  refine ⟨dAndV_mono ha.mono hb.mono, PEw (pe_andT ha.pe hb.pe) ?_⟩
  rintro σ H Q ⟨env, M, re, s, h⟩
  refine stepE ha.mono re s h (fun d M1 u H1 e1 s1 re1 r1 h1 => ?_) fun _ _ _ z => z
  split at h1
  · rename_i hb'
    refine ⟨true, truth_v s1 r1 hb', ?_⟩
    rw [if_pos rfl]
    exact ⟨env, M1, re1, s1, hb.mono _ _ _ _ _ _ (upK_mono e1) (upX_mono e1) h1⟩
  · rename_i hb'
    refine ⟨false, truth_v s1 r1 hb', ?_⟩
    rw [if_neg Bool.false_ne_true]
    exact h1 u H1 e1 s1 r1
  · exact h1.elim
theorem xe_or (ha : XE X W a ta) (hb : XE X W (.BoolOp .Or (b :: rest) pos) tb) : XE X W (.BoolOp .Or (a :: b :: rest) pos) (dOrV ta tb) := by
  refine ⟨dOrV_mono ha.mono hb.mono, PEw (pe_orT ha.pe hb.pe) ?_⟩
  rintro σ H Q ⟨env, M, re, s, h⟩
  refine stepE ha.mono re s h (fun d M1 u H1 e1 s1 re1 r1 h1 => ?_) fun _ _ _ z => z
  split at h1
  · rename_i hb'
    refine ⟨true, truth_v s1 r1 hb', ?_⟩
    rw [if_pos rfl]
    exact h1 u H1 e1 s1 r1
  · rename_i hb'
    refine ⟨false, truth_v s1 r1 hb', ?_⟩
    rw [if_neg Bool.false_ne_true]
    exact ⟨env, M1, re1, s1, hb.mono _ _ _ _ _ _ (upK_mono e1) (upX_mono e1) h1⟩
  · exact h1.elim
theorem xe_not (ha : XE X W a ta) : XE X W (.UnaryOp .Not a pos) (dNotV ta) := by
  refine ⟨dNotV_mono ha.mono, PEw (pe_notT ha.pe) ?_⟩
  rintro σ H Q ⟨env, M, re, s, h⟩
  refine stepE ha.mono re s h (fun d M1 u H1 e1 s1 re1 r1 h1 => ?_) fun _ _ _ z => z
  split at h1
  · rename_i b hb'
    exact ⟨b, truth_v s1 r1 hb', fin_val (fun u H' e s' r => h1 u H' (e1.trans e) s' r) s1⟩
  · exact h1.elim
end

/-! -x -/
def dNeg (ta : DE) : DE := fun env M Q E => ta env M (fun d M1 => match d with
  | .v (.int i) => Q (.int (-i)) M1
  | _ => False) E
theorem xe_neg {X : Cx} {W : WX} {a : Expr} {ta : DE} {pos : Pos} (ha : XE X W a ta) : XE X W (.UnaryOp .USub a pos) (dNeg ta) := by
  refine ⟨fun env M Q Q' E E' hQ hE => ha.mono env M _ _ _ _ (fun d M1 => ?_) hE, PEw (pe_un un_neg ha.pe) ?_⟩
  · cases d with
    | tup _ => exact id
    | v x => cases x <;> first | exact id | exact hQ _ _
  · rintro σ H Q ⟨env, M, re, s, h⟩
    refine stepE ha.mono re s h (fun d M1 u H1 e1 s1 re1 r1 h1 => ?_) fun _ _ _ z => z
    split at h1
    · rw [rep_v r1]
      exact ⟨_, rfl, fin_val (fun u H' e s' r => h1 u H' (e1.trans e) s' r) s1⟩
    · exact h1.elim

/-! argument lists, displays -/
def dNil : DA := fun _ M Q _ => Q [] M
def dCons (ta : DE) (tr : DA) : DA := fun env M Q E => ta env M (fun d M1 => tr env M1 (fun ds M2 => Q (d :: ds) M2) E) E
theorem dCons_mono {ta : DE} {tr : DA} (h : MonoE ta) (g : MonoA tr) : MonoA (dCons ta tr) := fun env M Q Q' E E' hQ hE =>
  h env M _ _ _ _ (fun d M1 => g env M1 _ _ _ _ (fun ds M2 => hQ (d :: ds) M2) hE) hE
theorem upA_mono {K : PySem.W.Frag} {H H1 : Hp} {Q : List V → Hp → Prop} (e : Ext K H H1) : ∀ ds M1, (∀ us H', Ext K H H' → Sim K H' M1 → RepL K H' ds us → Q us H') → ∀ us H', Ext K H1 H' → Sim K H' M1 → RepL K H' ds us → Q us H' :=
  fun ds M1 q us H' e' s r => q us H' (e.trans e') s r
section
variable {X : Cx} {W : WX} {e : Expr} {es : List Expr} {te : DE} {t : DA} {pos : Pos}
theorem xa_nil : XA X W [] dNil := by
  refine ⟨fun _ _ _ _ _ _ hQ _ h => hQ _ _ h, PAw pa_nil ?_⟩
  rintro σ H Q ⟨env, M, re, s, h⟩
  exact h [] H Ext.refl s .nil
theorem xa_cons (ha : XE X W e te) (hr : XA X W es t) (hs : starEach (e :: es) X.env = (false, eval e X.env) :: starEach es X.env := by rfl) : XA X W (e :: es) (dCons te t) := by
  refine ⟨dCons_mono ha.mono hr.mono, PAw (pa_cons ha.pe hr.pa hs) ?_⟩
  rintro σ H Q ⟨env, M, re, s, h⟩
  refine stepE ha.mono re s h (fun d M1 u H1 e1 s1 re1 r1 h1 => ?_) fun _ _ _ z => z
  refine stepA hr.mono re1 s1 h1 (fun ds M2 us H2 e2 s2 re2 r2 h2 => ?_) (upX_mono e1)
  exact h2 (u :: us) H2 (e1.trans e2) s2 (.cons (RepD.mono e2 _ r1) r2)
def dTup (n : Nat) (t : DA) : DE := fun env M Q E => t env M (fun ds M1 => ds.length = n ∧ Q (.tup ds) M1) E
def dLst (n : Nat) (t : DA) : DE := fun env M Q E => t env M (fun ds M1 => ds.length = n ∧ ∀ p, M1 p = none → Q (.ob p) (mupd M1 p (.lst ds))) E
theorem xe_tup {x1} {n : Nat} (h : XA X W es t) (hn : n ≤ sizeLine := by decide) : XE X W (.Tuple es x1 pos) (dTup n t) := by
  refine ⟨fun env M Q Q' E E' hQ hE => h.mono env M _ _ _ _ (fun ds M1 q => ⟨q.1, hQ _ _ q.2⟩) hE, PEw (pe_tup h.pa) ?_⟩
  rintro σ H Q ⟨env, M, re, s, q⟩
  refine stepA h.mono re s q (fun ds M1 us H1 e1 s1 re1 r1 h1 => ?_) fun _ _ _ z => z
  exact ⟨by rw [r1.length, h1.1]; exact hn, fun p hp => fin_tup (upK_mono e1 _ _ h1.2) s1 hp r1⟩
theorem xe_lst {n : Nat} (h : XA X W es t) (hn : n ≤ sizeLine := by decide) : XE X W (.List es pos) (dLst n t) := by
  refine ⟨fun env M Q Q' E E' hQ hE => h.mono env M _ _ _ _ (fun ds M1 q => ⟨q.1, fun p hp => hQ _ _ (q.2 p hp)⟩) hE, PEw (pe_lst h.pa) ?_⟩
  rintro σ H Q ⟨env, M, re, s, q⟩
  refine stepA h.mono re s q (fun ds M1 us H1 e1 s1 re1 r1 h1 => ?_) fun _ _ _ z => z
  exact ⟨by rw [r1.length, h1.1]; exact hn, fun p hp => fin_lst (fun p hp => upK_mono e1 _ _ (h1.2 p hp)) s1 hp r1⟩
end

/-! subscripts -/
def opIx : DOp2
  | .tup ds, .v (.int i), _ => match atI ds i with
    | some d => .val True d
    | none => .bad
  | .v (.str z), .v (.int i), _ => match atI z.cps.toList i with
    | some c => .val (z.length ≤ sizeLine) (.str ⟨#[c]⟩)
    | none => .bad
  | .v (.ref a), y, M => match M a with
    | some (.lst ds) => match y with
      | .v (.int i) => match atI ds i with
        | some d => .val True d
        | none => .bad
      | _ => .bad
    | some (.rol ds) => match y with
      | .v (.int i) => match atI ds i with
        | some d => .val True d
        | none => .bad
      | _ => .bad
    | some (.dk kvs) => match y.key with
      | some k => match look kvs k with
        | some d => .val True d
        | none => .bad
      | none => .bad
    | some (.rdk kvs) => match y.key with
      | some k => match look kvs k with
        | some d => .val True d
        | none => .bad
      | none => .bad
    | _ => .bad
  | _, _, _ => .bad
theorem RepL.atI {K : PySem.W.Frag} {H : Hp} {ds : List D} {us : List V} {i : Int} {d : D} (r : RepL K H ds us) (h : L2.atI ds i = some d) : ∃ u, L2.atI us i = some u ∧ RepD K H d u := by
  unfold L2.atI at h ⊢
  rw [r.length]
  cases q : ixN ds.length i with
  | none => rw [q] at h; cases h
  | some j =>
    rw [q] at h
    exact r.get h
section
variable {X : Cx}
theorem ix_dict (hu : X.A.units + 200 < cLine) : IxR X (fun x y H Q => ∃ a kvs k v, x = .ref a ∧ Rd H a (.dK kvs) ∧ y = kV k ∧ valV kvs k = some v ∧ Q v H) := by
  intro value slice pins s σ H x y v u Q I rx ry h hs
  obtain ⟨a, kvs, k, w', rfl, e, rfl, ev, q⟩ := h
  obtain rfl : v = Value.ref a := rx
  have g : DGet H a (kV k) (some w') := .inl ⟨kvs, k, e, rfl, ev.symm⟩
  exact tail_any (dict_typeIs I g) PySem.F.slot_dict_getitem.lookup (d_getItem (by omega) I g ry fun w2 s3 I3 rw' => ⟨w', H, I3, rw', q⟩) hs
theorem x_ix (hu : X.A.units + 200 < cLine) : IxR X (upR2 X.K opIx) := by
  rintro value slice pins s σ H x y v u Q I rx ry ⟨dx, dy, M, r1, r2, sm, h⟩ hs
  unfold opIx at h
  split at h <;> first | exact h.elim | skip
  · split at h <;> first | exact h.elim | skip
    rename_i d hd
    obtain ⟨a, us, rfl, q1, l1⟩ := rep_tup r1
    obtain ⟨w', e1, e2⟩ := l1.atI hd
    rw [rep_v r2] at ry
    exact ix_tup value slice pins s σ H _ _ v u Q I rx ry ⟨_, _, _, _, rfl, rfl, q1, e1, fin_rep h.2 sm e2⟩ hs
  · split at h <;> first | exact h.elim | skip
    rename_i c hc
    rw [rep_v r1] at rx; rw [rep_v r2] at ry
    exact ix_str value slice pins s σ H _ _ v u Q I rx ry ⟨_, _, _, rfl, rfl, h.1, hc, fin_val h.2 sm⟩ hs
  · rw [rep_v r1] at rx
    split at h <;> first | exact h.elim | skip
    · rename_i ds hm
      split at h <;> first | exact h.elim | skip
      split at h <;> first | exact h.elim | skip
      rename_i d hd
      obtain ⟨us, q1, l1⟩ := sm.seq (.inl hm)
      obtain ⟨w', e1, e2⟩ := l1.atI hd
      rw [rep_v r2] at ry
      exact ix_list value slice pins s σ H _ _ v u Q I rx ry ⟨_, _, _, _, rfl, rfl, q1, e1, fin_rep h.2 sm e2⟩ hs
    · rename_i ds hm
      split at h <;> first | exact h.elim | skip
      split at h <;> first | exact h.elim | skip
      rename_i d hd
      obtain ⟨us, q1, l1⟩ := sm.seq (.inr hm)
      obtain ⟨w', e1, e2⟩ := l1.atI hd
      rw [rep_v r2] at ry
      exact ix_list value slice pins s σ H _ _ v u Q I rx ry ⟨_, _, _, _, rfl, rfl, q1, e1, fin_rep h.2 sm e2⟩ hs
    · rename_i kvs hm
      split at h <;> first | exact h.elim | skip
      rename_i k hk
      split at h <;> first | exact h.elim | skip
      rename_i d hd
      obtain ⟨us, q1, l1⟩ := sm _ _ hm
      have hl := l1.look k
      rw [hd] at hl
      have ey := key_rep hk r2
      subst ey
      cases hv : valV us k with
      | none => rw [hv] at hl; exact hl.elim
      | some w' =>
        rw [hv] at hl
        exact ix_dict hu value slice pins s σ H _ _ v u Q I rx ry ⟨_, _, _, _, rfl, .inl q1, rfl, hv, fin_rep h.2 sm hl⟩ hs
    · rename_i kvs hm
      split at h <;> first | exact h.elim | skip
      rename_i k hk
      split at h <;> first | exact h.elim | skip
      rename_i d hd
      obtain ⟨ob, us, q1, l1⟩ := sm _ _ hm
      have hl := l1.look k
      rw [hd] at hl
      have ey := key_rep hk r2
      subst ey
      cases hv : valV us k with
      | none => rw [hv] at hl; exact hl.elim
      | some w' =>
        rw [hv] at hl
        exact ix_dict hu value slice pins s σ H _ _ v u Q I rx ry ⟨_, _, _, _, rfl, .inr ⟨ob, q1⟩, rfl, hv, fin_rep h.2 sm hl⟩ hs
theorem xe_ix {W : WX} {a b : Expr} {ta tb : DE} {pos : Pos} (hu : X.A.units + 200 < cLine) (ha : XE X W a ta) (hb : XE X W b tb) (hs : PlainIx b := by intro _ _; rfl) : XE X W (.Subscript a b pos) (dBin opIx ta tb) :=
  ⟨dBin_mono ha.mono hb.mono, PEw (pe_ix (x_ix hu) ha.pe hb.pe hs) (bin_up ha hb fun _ _ _ _ h => h)⟩
end

/-! slices -/
abbrev DO := DEnv → Mem → (Option Int → Mem → Prop) → DX → Prop
def dNoPart : DO := fun _ M Q _ => Q none M
def dPart (t : DE) : DO := fun env M Q E => t env M (fun d M1 => match d with
  | .v (.int i) => Q (some i) M1
  | _ => False) E
def MonoO (t : DO) : Prop := ∀ env M (Q Q' : Option Int → Mem → Prop) (E E' : DX), (∀ d M, Q d M → Q' d M) → (∀ c f M, E c f M → E' c f M) → t env M Q E → t env M Q' E'
def liftO (K : PySem.W.Frag) (W : WX) (t : DO) : TO := fun σ H Q => ∃ env M, RepE K H env σ ∧ Sim K H M ∧ t env M (fun b M' => ∀ H', Ext K H H' → Sim K H' M' → Q b H') (upX K W H σ)
structure XO (X : Cx) (W : WX) (e : Option Expr) (t : DO) : Prop where
  mono : MonoO t
  po : PO X e (liftO X.K W t)
theorem POw {X : Cx} {e : Option Expr} {t t' : TO} (h : PO X e t) (w : ∀ σ H Q, t' σ H Q → t σ H Q) : PO X e t' := ⟨fun pins s σ H Q I q => h.run pins s σ H Q I (w σ H Q q)⟩
def cutD {α : Type} (xs : List α) (lo hi : Option Int) : List α := (xs.drop (HT.sIx xs.length 0 lo)).take (HT.sIx xs.length xs.length hi - HT.sIx xs.length 0 lo)
theorem RepL.cut {K : PySem.W.Frag} {H : Hp} {ds : List D} {us : List V} (r : RepL K H ds us) (lo hi : Option Int) : RepL K H (cutD ds lo hi) (cutV us lo hi) := by
  unfold cutD cutV
  rw [r.length]
  exact (r.drop _).take _
def opSl : D → Option Int → Option Int → Mem → Res
  | .tup ds, lo, hi, _ => .val True (.tup (cutD ds lo hi))
  | .v (.str z), lo, hi, _ => .val (z.length ≤ sizeLine) (.str (cutS z lo hi))
  | .v (.ref a), lo, hi, M => match M a with
    | some (.lst ds) => .new True (.lst (cutD ds lo hi))
    | some (.rol ds) => .new True (.lst (cutD ds lo hi))
    | _ => .bad
  | _, _, _, _ => .bad
def dSl (ta : DE) (tl th : DO) : DE := fun env M Q E => ta env M (fun x M1 => tl env M1 (fun l M2 => th env M2 (fun u M3 => (opSl x l u M3).run M3 Q) E) E) E
section
variable {X : Cx} {W : WX} {e : Expr} {lo hi : Option Expr} {te : DE} {tl th : DO} {pos p2 : Pos}
theorem xo_none : XO X W none dNoPart := by
  refine ⟨fun _ _ _ _ _ _ hQ _ h => hQ _ _ h, POw po_none ?_⟩
  rintro σ H Q ⟨env, M, re, s, h⟩
  exact h H Ext.refl s
theorem xo_some (h : XE X W e te) : XO X W (some e) (dPart te) := by
  refine ⟨fun env M Q Q' E E' hQ hE => h.mono env M _ _ _ _ (fun d M1 => ?_) hE, POw (po_some h.pe) ?_⟩
  · cases d with
    | tup _ => exact id
    | v x => cases x <;> first | exact id | exact hQ _ _
  · rintro σ H Q ⟨env, M, re, s, q⟩
    refine stepE h.mono re s q (fun d M1 u H1 e1 s1 re1 r1 h1 => ?_) fun _ _ _ z => z
    split at h1
    · rw [rep_v r1]
      exact ⟨_, rfl, h1 H1 e1 s1⟩
    · exact h1.elim
theorem stepO {K : PySem.W.Frag} {t : DO} (m : MonoO t) {σ : L2.St} {H : Hp} {env : DEnv} {M : Mem} {P : Option Int → Hp → Prop} {Q : Option Int → Mem → Prop} {E : DX} (re : RepE K H env σ) (s : Sim K H M) (h : t env M Q E)
    (hq : ∀ d M1 H1, Ext K H H1 → Sim K H1 M1 → RepE K H1 env σ → Q d M1 → P d H1) (he : ∀ c f M1, E c f M1 → upX K W H σ c f M1) : liftO K W t σ H P :=
  ⟨env, M, re, s, m env M _ _ _ _ (fun d M1 q H1 e1 s1 => hq d M1 H1 e1 s1 (re.mono e1) q) he h⟩
theorem x_sl : SlR X (fun x lo hi H Q => ∃ dx M, RepD X.K H dx x ∧ Sim X.K H M ∧ (opSl dx lo hi M).run M (upK X.K H Q)) := by
  rintro pins s σ H x v vl vu lo hi sl Q I rx hs pl pu ⟨dx, M, r1, sm, h⟩
  unfold opSl at h
  split at h <;> first | exact h.elim | skip
  · rename_i ds
    obtain ⟨a, us, rfl, q1, l1⟩ := rep_tup r1
    refine sl_tupA pins s σ H _ v vl vu _ _ sl Q I rx hs pl pu ⟨a, us, rfl, q1, fun hw => ?_, fun _ p hp => fin_tup h.2 sm hp (l1.cut _ _)⟩
    refine fin_rep h.2 sm ?_
    have e : cutD ds lo hi = ds := by
      unfold cutD
      rw [← l1.length, hw.1, hw.2, l1.length]
      simp
    rw [e]
    exact r1
  · rw [rep_v r1] at rx
    exact sl_str pins s σ H _ v vl vu _ _ sl Q I rx hs pl pu ⟨_, rfl, h.1, fin_val h.2 sm⟩
  · rw [rep_v r1] at rx
    split at h <;> first | exact h.elim | skip
    · rename_i hm
      obtain ⟨us, q1, l1⟩ := sm.seq (.inl hm)
      exact sl_list pins s σ H _ v vl vu _ _ sl Q I rx hs pl pu ⟨_, us, rfl, q1, fun p hp => fin_lst h.2 sm hp (l1.cut _ _)⟩
    · rename_i hm
      obtain ⟨us, q1, l1⟩ := sm.seq (.inr hm)
      exact sl_list pins s σ H _ v vl vu _ _ sl Q I rx hs pl pu ⟨_, us, rfl, q1, fun p hp => fin_lst h.2 sm hp (l1.cut _ _)⟩
theorem xe_sl (he : XE X W e te) (hl : XO X W lo tl) (hh : XO X W hi th) : XE X W (.Subscript e (.Slice lo hi none p2) pos) (dSl te tl th) := by
  refine ⟨fun env M Q Q' E E' hQ hE => he.mono env M _ _ _ _ (fun d M1 => hl.mono env M1 _ _ _ _ (fun l M2 => hh.mono env M2 _ _ _ _ (fun u M3 => Res.mono hQ) hE) hE) hE, PEw (pe_slice x_sl he.pe hl.po hh.po) ?_⟩
  rintro σ H Q ⟨env, M, re, s, h⟩
  refine stepE he.mono re s h (fun d M1 u H1 e1 s1 re1 r1 h1 => ?_) fun _ _ _ z => z
  refine stepO hl.mono re1 s1 h1 (fun l M2 H2 e2 s2 re2 h2 => ?_) (upX_mono e1)
  refine stepO hh.mono re2 s2 h2 (fun h M3 H3 e3 s3 re3 h3 => ?_) (upX_mono (e1.trans e2))
  exact ⟨d, M3, RepD.mono (e2.trans e3) _ r1, s3, Res.mono (upK_mono ((e1.trans e2).trans e3)) h3⟩
/-- xs[::-1] of a list -/
def dRev (te : DE) : DE := fun env M Q E => te env M (fun d M1 => match d with
  | .v (.ref a) => match M1 a with
    | some (.lst ds) => ∀ p, M1 p = none → Q (.ob p) (mupd M1 p (.lst ds.reverse))
    | _ => False
  | _ => False) E
theorem RepL.reverse {K : PySem.W.Frag} {H : Hp} : ∀ {ds : List D} {us : List V}, RepL K H ds us → RepL K H ds.reverse us.reverse
  | [], _, h => by unfold RepL at h; subst h; exact .nil
  | d :: ds, _, h => by
    unfold RepL at h
    obtain ⟨u, r, rfl, q, t⟩ := h
    rw [List.reverse_cons, List.reverse_cons]
    exact RepL.append (RepL.reverse t) (.cons q .nil)
theorem xe_rev {k : Nat} {p1 p2 p3 : Pos} (he : XE X W e te) : XE X W (.Subscript e (.Slice none none (some (.UnaryOp .USub (.Constant (.int 1) k p1) p2)) p3) pos) (dRev te) := by
  refine ⟨fun env M Q Q' E E' hQ hE => he.mono env M _ _ _ _ (fun d M1 => ?_) hE, PEw (pe_revL he.pe) ?_⟩
  · cases d with
    | tup _ => exact id
    | v x => cases x with
      | ref a =>
        dsimp only
        cases M1 a with
        | none => exact id
        | some o => cases o <;> first | exact id | exact fun h p hp => hQ _ _ (h p hp)
      | _ => exact id
  · rintro σ H Q ⟨env, M, re, s, h⟩
    refine stepE he.mono re s h (fun d M1 u H1 e1 s1 re1 r1 h1 => ?_) fun _ _ _ z => z
    split at h1 <;> first | exact h1.elim | skip
    split at h1 <;> first | exact h1.elim | skip
    rename_i ds hm
    obtain ⟨us, q1, l1⟩ := s1.lst hm
    rw [rep_v r1]
    exact ⟨_, us, rfl, SqL.of q1, fun p hp => fin_lst (fun p hp => upK_mono e1 _ _ (h1 p hp)) s1 hp l1.reverse⟩
end
end PL

namespace PL
open PySem PySem.Spec PyProof.Rows L2

/-! built-ins by values -/
abbrev DCall := List D → Mem → Res
def upCall (K : PySem.W.Frag) (r : DCall) : List V → Hp → VK → Prop := fun xs H Q => ∃ ds M, RepL K H ds xs ∧ Sim K H M ∧ (r ds M).run M (upK K H Q)
def dCB (r : DCall) (t : DA) : DE := fun env M Q E => t env M (fun ds M1 => (r ds M1).run M1 Q) E
theorem dCB_mono {r : DCall} {t : DA} (h : MonoA t) : MonoE (dCB r t) := fun env M Q Q' E E' hQ hE => h env M _ _ _ _ (fun ds M1 => Res.mono hQ) hE
section
variable {X : Cx} {W : WX} {x : Str} {p pos : Pos} {e : Expr} {es : List Expr} {t : DA} {id T : String} {r : DCall}
theorem cb_up (ha : XA X W es t) : ∀ σ H Q, liftE X.K W (dCB r t) σ H Q → tCB (upCall X.K r) (liftA X.K W t) σ H Q := by
  rintro σ H Q ⟨env, M, re, s, h⟩
  refine stepA ha.mono re s h (fun ds M1 us H1 e1 s1 re1 r1 h1 => ?_) fun _ _ _ z => z
  exact ⟨ds, M1, r1, s1, Res.mono (upK_mono e1) h1⟩
theorem xe_callB (hc : CallR X (.builtin id) (upCall X.K r)) (hg : Gl X x) (hm : X.mg x = none) (hv : bootBuiltins x = some (.builtin id)) (ha : XA X W (e :: es) t) (hn : x ≠ "__name__" := by decide) (hdb : (x == ("__debug__" : Str)) = false := by decide)
    (he : starEach (e :: es) X.env = (false, eval e X.env) :: starEach es X.env := by rfl) (hpl : (backTo pos (starEach es X.env)).any (·.1) = false := by rfl) : XE X W (.Call (.Name x p) (e :: es) [] pos) (dCB r t) :=
  ⟨dCB_mono ha.mono, PEw (pe_callB hc hg hm hv ha.pa hn hdb he hpl) (cb_up ha)⟩
theorem xe_callTy (hc : CallR X (.type T) (upCall X.K r)) (hg : Gl X x) (hm : X.mg x = none) (hv : bootBuiltins x = some (.type T)) (ha : XA X W (e :: es) t) (hn : x ≠ "__name__" := by decide) (hdb : (x == ("__debug__" : Str)) = false := by decide)
    (he : starEach (e :: es) X.env = (false, eval e X.env) :: starEach es X.env := by rfl) (hpl : (backTo pos (starEach es X.env)).any (·.1) = false := by rfl) : XE X W (.Call (.Name x p) (e :: es) [] pos) (dCB r t) :=
  ⟨dCB_mono ha.mono, PEw (pe_callTy hc hg hm hv ha.pa hn hdb he hpl) (cb_up ha)⟩
end
theorem rl1 {K : PySem.W.Frag} {H : Hp} {d : D} {us : List V} (h : RepL K H [d] us) : ∃ u, us = [u] ∧ RepD K H d u := by
  unfold RepL at h
  obtain ⟨u, r, rfl, q, t⟩ := h
  unfold RepL at t
  exact ⟨u, by rw [t], q⟩
theorem rl2 {K : PySem.W.Frag} {H : Hp} {d e : D} {us : List V} (h : RepL K H [d, e] us) : ∃ u v, us = [u, v] ∧ RepD K H d u ∧ RepD K H e v := by
  unfold RepL at h
  obtain ⟨u, r, rfl, q, t⟩ := h
  obtain ⟨v, rfl, q2⟩ := rl1 t
  exact ⟨u, v, rfl, q, q2⟩
def bLen : DCall
  | [.v (.str z)], _ => .val (z.length ≤ sizeLine) (.int z.length)
  | [.tup ds], _ => .val True (.int ds.length)
  | [.v (.ref a)], M => match M a with
    | some (.lst ds) => .val True (.int ds.length)
    | some (.rol ds) => .val True (.int ds.length)
    | some (.dk kvs) => .val True (.int kvs.length)
    | _ => .bad
  | _, _ => .bad
def bAbs : DCall
  | [.v (.int i)], _ => .val True (.int (if i < 0 then -i else i))
  | _, _ => .bad
def bInt : DCall
  | [.v (.int i)], _ => .val True (.int i)
  | [.v (.bl b)], _ => .val True (.int (if b then 1 else 0))
  | [.v (.str z)], _ => match intText? z with
    | some n => .val (z.length ≤ 640) (.int n)
    | none => .bad
  | _, _ => .bad
def bStr : DCall
  | [.v (.int i)], _ => .val (i.natAbs.log2 < 1920) (.str (Str.ofString (toString i)))
  | _, _ => .bad
def bOrd : DCall
  | [.v (.str z)], _ => .val (z.length = 1) (.int (z.cps.getD 0 0 : Nat))
  | _, _ => .bad
def bTuple : DCall
  | [.tup ds], _ => .val True (.tup ds)
  | [.v (.ref a)], M => match M a with
    | some (.lst ds) => .val True (.tup ds)
    | some (.rol ds) => .val True (.tup ds)
    | _ => .bad
  | _, _ => .bad
def bList : DCall
  | [.tup ds], _ => .new True (.lst ds)
  | [.v (.ref a)], M => match M a with
    | some (.lst ds) => .new True (.lst ds)
    | some (.rol ds) => .new True (.lst ds)
    | _ => .bad
  | _, _ => .bad
def bDivmod : DCall
  | [.v (.int i), .v (.int j)], _ => .val (CDivP i j) (.tup [.int (i / j), .int (i % j)])
  | _, _ => .bad
def bMax2 : DCall
  | [.v (.int i), .v (.int j)], _ => .val True (.int (if j > i then j else i))
  | _, _ => .bad
def bMin2 : DCall
  | [.v (.int i), .v (.int j)], _ => .val True (.int (if j < i then j else i))
  | _, _ => .bad
def bools : List D → Option (List Bool)
  | [] => some []
  | .v (.bl b) :: r => (bools r).map (b :: ·)
  | _ :: _ => none
theorem bools_eq : ∀ {ds : List D} {bs : List Bool}, bools ds = some bs → ds = bs.map D.bl
  | [], bs, h => by simp [bools] at h; subst h; rfl
  | .v (.bl b) :: r, bs, h => by
    simp only [bools, Option.map_eq_some_iff] at h
    obtain ⟨cs, h1, rfl⟩ := h
    rw [bools_eq h1]; rfl
  | .tup _ :: _, _, h => by simp [bools] at h
  | .v .non :: _, _, h => by simp [bools] at h
  | .v (.int _) :: _, _, h => by simp [bools] at h
  | .v (.str _) :: _, _, h => by simp [bools] at h
  | .v (.byt _) :: _, _, h => by simp [bools] at h
  | .v (.flt _) :: _, _, h => by simp [bools] at h
  | .v (.ref _) :: _, _, h => by simp [bools] at h
  | .v (.ty _) :: _, _, h => by simp [bools] at h
theorem bools_map : ∀ bs : List Bool, bools (bs.map D.bl) = some bs
  | [] => rfl
  | b :: bs => by show (bools (bs.map D.bl)).map _ = _; rw [bools_map bs]; rfl
theorem RepL.bls {K : PySem.W.Frag} {H : Hp} : ∀ {bs : List Bool} {us : List V}, RepL K H (bs.map D.bl) us → us = bs.map V.bl
  | [], _, h => by unfold RepL at h; simpa using h
  | n :: ns, _, h => by
    simp only [List.map_cons] at h; unfold RepL at h
    obtain ⟨u, r, rfl, q, t⟩ := h
    rw [RepL.bls t, rep_v q]; rfl
def bAll : DCall
  | [.v (.ref a)], M => match M a with
    | some (.lst ds) => match bools ds with
      | some bs => .val True (.bl (bs.all id))
      | none => .bad
    | _ => .bad
  | _, _ => .bad
def bAny : DCall
  | [.v (.ref a)], M => match M a with
    | some (.lst ds) => match bools ds with
      | some bs => .val True (.bl (bs.any id))
      | none => .bad
    | _ => .bad
  | _, _ => .bad
/-- the type's name of plain data, lists, dicts -/
def tyN (M : Mem) : D → Option String
  | .v .non => some "NoneType"
  | .v (.bl _) => some "bool"
  | .v (.int _) => some "int"
  | .v (.str _) => some "str"
  | .tup _ => some "tuple"
  | .v (.ref a) => match M a with
    | some (.lst _) => some "list"
    | some (.rol _) => some "list"
    | some (.dk _) => some "dict"
    | _ => none
  | _ => none
def isi (a b : String) : Bool := (a == b) || (a == "bool" && b == "int")
def bIsi : DCall
  | [d, .v (.ty n)], M => match tyN M d with
    | some a => .val (n = "tuple" ∨ n = "str" ∨ n = "int" ∨ n = "bool" ∨ n = "list") (.bl (isi a n))
    | none => .bad
  | _, _ => .bad

section
variable {X : Cx}
theorem c_len : CallR X (.builtin "len") (upCall X.K bLen) := by
  rintro pins s σ H xs us Q I r ⟨ds, M, rl, sm, h⟩
  unfold bLen at h
  split at h <;> first | exact h.elim | skip
  · obtain ⟨u, rfl, q⟩ := rl1 rl
    rw [rep_v q] at r
    exact call_len pins s σ H _ us Q I r ⟨_, _, rfl, ⟨h.1, rfl⟩, fin_val h.2 sm⟩
  · obtain ⟨u, rfl, q⟩ := rl1 rl
    obtain ⟨a, ws, rfl, q1, l1⟩ := rep_tup q
    refine call_len_seq pins s σ H _ us Q I r ⟨_, _, rfl, .inr q1, ?_⟩
    rw [l1.length]
    exact fin_val h.2 sm
  · obtain ⟨u, rfl, q⟩ := rl1 rl
    rw [rep_v q] at r
    split at h <;> first | exact h.elim | skip
    · rename_i hm
      obtain ⟨ws, q1, l1⟩ := sm.seq (.inl hm)
      refine call_len_seq pins s σ H _ us Q I r ⟨_, _, rfl, .inl q1, ?_⟩
      rw [l1.length]
      exact fin_val h.2 sm
    · rename_i hm
      obtain ⟨ws, q1, l1⟩ := sm.seq (.inr hm)
      refine call_len_seq pins s σ H _ us Q I r ⟨_, _, rfl, .inl q1, ?_⟩
      rw [l1.length]
      exact fin_val h.2 sm
    · rename_i hm
      obtain ⟨ws, q1, l1⟩ := sm _ _ hm
      obtain ⟨u', rfl, ru⟩ := vals1 r
      obtain rfl : u' = Value.ref _ := ru
      refine d_len I (.inl q1) fun t s' I' => ⟨.int _, H, I', ⟨t, rfl⟩, ?_⟩
      rw [l1.length]
      exact fin_val h.2 sm
theorem c_abs : CallR X (.builtin "abs") (upCall X.K bAbs) := by
  rintro pins s σ H xs us Q I r ⟨ds, M, rl, sm, h⟩
  unfold bAbs at h
  split at h <;> first | exact h.elim | skip
  obtain ⟨u, rfl, q⟩ := rl1 rl
  rw [rep_v q] at r
  exact call_abs pins s σ H _ us Q I r ⟨_, rfl, fin_val h.2 sm⟩
theorem c_int : CallR X (.type "int") (upCall X.K bInt) := by
  rintro pins s σ H xs us Q I r ⟨ds, M, rl, sm, h⟩
  unfold bInt at h
  split at h <;> first | exact h.elim | skip
  · obtain ⟨u, rfl, q⟩ := rl1 rl
    rw [rep_v q] at r
    exact call_int1 pins s σ H _ us Q I r (.inl ⟨_, rfl, fin_val h.2 sm⟩)
  · obtain ⟨u, rfl, q⟩ := rl1 rl
    rw [rep_v q] at r
    exact call_int1 pins s σ H _ us Q I r (.inr ⟨_, rfl, fin_val h.2 sm⟩)
  · obtain ⟨u, rfl, q⟩ := rl1 rl
    rw [rep_v q] at r
    split at h <;> first | exact h.elim | skip
    rename_i hn
    exact call_int_str pins s σ H _ us Q I r ⟨_, _, rfl, hn, h.1, fin_val h.2 sm⟩
theorem c_str : CallR X (.type "str") (upCall X.K bStr) := by
  rintro pins s σ H xs us Q I r ⟨ds, M, rl, sm, h⟩
  unfold bStr at h
  split at h <;> first | exact h.elim | skip
  obtain ⟨u, rfl, q⟩ := rl1 rl
  rw [rep_v q] at r
  exact call_str_int pins s σ H _ us Q I r ⟨_, rfl, h.1, fin_val h.2 sm⟩
theorem c_ord : CallR X (.builtin "ord") (upCall X.K bOrd) := by
  rintro pins s σ H xs us Q I r ⟨ds, M, rl, sm, h⟩
  unfold bOrd at h
  split at h <;> first | exact h.elim | skip
  obtain ⟨u, rfl, q⟩ := rl1 rl
  rw [rep_v q] at r
  exact call_ord pins s σ H _ us Q I r ⟨_, rfl, h.1, fin_val h.2 sm⟩
theorem c_tuple : CallR X (.type "tuple") (upCall X.K bTuple) := by
  rintro pins s σ H xs us Q I r ⟨ds, M, rl, sm, h⟩
  unfold bTuple at h
  split at h <;> first | exact h.elim | skip
  · obtain ⟨u, rfl, q⟩ := rl1 rl
    obtain ⟨a, ws, rfl, q1, l1⟩ := rep_tup q
    exact call_tuple_of pins s σ H _ us Q I r ⟨_, _, rfl, .inr ⟨q1, fin_rep h.2 sm q⟩⟩
  · obtain ⟨u, rfl, q⟩ := rl1 rl
    rw [rep_v q] at r
    split at h <;> first | exact h.elim | skip
    · rename_i hm
      obtain ⟨ws, q1, l1⟩ := sm.seq (.inl hm)
      exact call_tuple_of pins s σ H _ us Q I r ⟨_, _, rfl, .inl ⟨q1, fun l hl => fin_tup h.2 sm hl l1⟩⟩
    · rename_i hm
      obtain ⟨ws, q1, l1⟩ := sm.seq (.inr hm)
      exact call_tuple_of pins s σ H _ us Q I r ⟨_, _, rfl, .inl ⟨q1, fun l hl => fin_tup h.2 sm hl l1⟩⟩
theorem c_list : CallR X (.type "list") (upCall X.K bList) := by
  rintro pins s σ H xs us Q I r ⟨ds, M, rl, sm, h⟩
  unfold bList at h
  split at h <;> first | exact h.elim | skip
  · obtain ⟨u, rfl, q⟩ := rl1 rl
    obtain ⟨a, ws, rfl, q1, l1⟩ := rep_tup q
    exact call_list_of pins s σ H _ us Q I r ⟨_, _, rfl, .inr q1, fun l hl => fin_lst h.2 sm hl l1⟩
  · obtain ⟨u, rfl, q⟩ := rl1 rl
    rw [rep_v q] at r
    split at h <;> first | exact h.elim | skip
    · rename_i hm
      obtain ⟨ws, q1, l1⟩ := sm.seq (.inl hm)
      exact call_list_of pins s σ H _ us Q I r ⟨_, _, rfl, .inl q1, fun l hl => fin_lst h.2 sm hl l1⟩
    · rename_i hm
      obtain ⟨ws, q1, l1⟩ := sm.seq (.inr hm)
      exact call_list_of pins s σ H _ us Q I r ⟨_, _, rfl, .inl q1, fun l hl => fin_lst h.2 sm hl l1⟩
theorem c_divmod : CallR X (.builtin "divmod") (upCall X.K bDivmod) := by
  rintro pins s σ H xs us Q I r ⟨ds, M, rl, sm, h⟩
  unfold bDivmod at h
  split at h <;> first | exact h.elim | skip
  obtain ⟨u, v, rfl, q1, q2⟩ := rl2 rl
  rw [rep_v q1, rep_v q2] at r
  exact call_divmodW pins s σ H _ us Q I r ⟨_, _, rfl, h.1, fun p hp => fin_tup h.2 sm hp (.cons rep_of (.cons rep_of .nil))⟩
theorem c_max2 (hc : X.calm = true) : CallR X (.builtin "max") (upCall X.K bMax2) := by
  rintro pins s σ H xs us Q I r ⟨ds, M, rl, sm, h⟩
  unfold bMax2 at h
  split at h <;> first | exact h.elim | skip
  obtain ⟨u, v, rfl, q1, q2⟩ := rl2 rl
  rw [rep_v q1, rep_v q2] at r
  exact call_max2 hc pins s σ H _ us Q I r ⟨_, _, rfl, fin_val h.2 sm⟩
theorem c_min2 (hc : X.calm = true) : CallR X (.builtin "min") (upCall X.K bMin2) := by
  rintro pins s σ H xs us Q I r ⟨ds, M, rl, sm, h⟩
  unfold bMin2 at h
  split at h <;> first | exact h.elim | skip
  obtain ⟨u, v, rfl, q1, q2⟩ := rl2 rl
  rw [rep_v q1, rep_v q2] at r
  exact call_min2 hc pins s σ H _ us Q I r ⟨_, _, rfl, fin_val h.2 sm⟩
theorem c_all (hc : X.calm = true) : CallR X (.builtin "all") (upCall X.K bAll) := by
  rintro pins s σ H xs us Q I r ⟨ds, M, rl, sm, h⟩
  unfold bAll at h
  split at h <;> first | exact h.elim | skip
  split at h <;> first | exact h.elim | skip
  split at h <;> first | exact h.elim | skip
  rename_i hm _ bs hb
  obtain ⟨u, rfl, q⟩ := rl1 rl
  rw [rep_v q] at r
  obtain ⟨ws, q1, l1⟩ := sm.seq (.inl hm)
  rw [bools_eq hb] at l1
  rw [l1.bls] at q1
  exact cr_all hc pins s σ H _ us Q I r ⟨_, _, rfl, q1, fin_val h.2 sm⟩
theorem c_any (hc : X.calm = true) : CallR X (.builtin "any") (upCall X.K bAny) := by
  rintro pins s σ H xs us Q I r ⟨ds, M, rl, sm, h⟩
  unfold bAny at h
  split at h <;> first | exact h.elim | skip
  split at h <;> first | exact h.elim | skip
  split at h <;> first | exact h.elim | skip
  rename_i hm _ bs hb
  obtain ⟨u, rfl, q⟩ := rl1 rl
  rw [rep_v q] at r
  obtain ⟨ws, q1, l1⟩ := sm.seq (.inl hm)
  rw [bools_eq hb] at l1
  rw [l1.bls] at q1
  exact cr_any hc pins s σ H _ us Q I r ⟨_, _, rfl, q1, fin_val h.2 sm⟩
theorem tyN_x {K : PySem.W.Frag} {H : Hp} {M : Mem} (s : Sim K H M) {d : D} {u : V} {a : String} (r : RepD K H d u) (h : tyN M d = some a) : TyX K H u (.type a) := by
  unfold tyN at h
  split at h
  · cases h; rw [rep_v r]; exact .base .non
  · cases h; rw [rep_v r]; exact .base (.bl _)
  · cases h; rw [rep_v r]; exact .base (.int _)
  · cases h; rw [rep_v r]; exact .base (.str _)
  · cases h
    obtain ⟨b, us, rfl, q, l⟩ := rep_tup r
    rcases q with (q | ⟨o, q⟩) | ⟨o, its, n, q, c, _⟩
    · exact .base (.tup q)
    · exact .fTuple q
    · exact .kTuple q c
  · rw [rep_v r]
    split at h
    · cases h
      rename_i hm
      obtain ⟨us, e, l⟩ := s _ _ hm
      exact .base (.lst e)
    · cases h
      rename_i hm
      obtain ⟨o, us, e, l⟩ := s _ _ hm
      exact .base (.frz e)
    · cases h
      rename_i hm
      obtain ⟨us, e, l⟩ := s _ _ hm
      exact .base (.dK e)
    · cases h
  · cases h
theorem kit_isi {a n : String} (ha : a = "NoneType" ∨ a = "bool" ∨ a = "int" ∨ a = "str" ∨ a = "tuple" ∨ a = "list" ∨ a = "dict") (hn : n = "tuple" ∨ n = "str" ∨ n = "int" ∨ n = "bool" ∨ n = "list") : kitB a n = some (isi a n) := by
  rcases ha with rfl | rfl | rfl | rfl | rfl | rfl | rfl <;> rcases hn with rfl | rfl | rfl | rfl | rfl <;> decide +kernel
theorem tyN_of {M : Mem} {d : D} {a : String} (h : tyN M d = some a) : a = "NoneType" ∨ a = "bool" ∨ a = "int" ∨ a = "str" ∨ a = "tuple" ∨ a = "list" ∨ a = "dict" := by
  unfold tyN at h
  split at h <;> first | (split at h <;> (cases h <;> simp)) | (cases h <;> simp)
theorem c_isi : CallR X (.builtin "isinstance") (upCall X.K bIsi) := by
  rintro pins s σ H xs us Q I r ⟨ds, M, rl, sm, h⟩
  unfold bIsi at h
  split at h <;> first | exact h.elim | skip
  split at h <;> first | exact h.elim | skip
  rename_i d n a hb
  obtain ⟨u, v, rfl, q1, q2⟩ := rl2 rl
  rw [rep_v q2] at r
  exact call_isi pins s σ H _ us Q I r ⟨_, _, _, _, _, rfl, .ty _, tyN_x sm q1 hb, kit_ty (kit_isi (tyN_of hb) h.1), fin_val h.2 sm⟩
end

/-! methods of built-in types -/
abbrev DMeth := D → List D → Mem → Res
def upMeth (K : PySem.W.Frag) (r : DMeth) : V → List V → Hp → VK → Prop := fun x xs H Q => ∃ d ds M, RepD K H d x ∧ RepL K H ds xs ∧ Sim K H M ∧ (r d ds M).run M (upK K H Q)
def isTy (T : String) (d : D) (M : Mem) : Prop := match d with
  | .v (.str _) => T = "str"
  | .v (.ref a) => match M a with
    | some (.lst _) => T = "list"
    | some (.dk _) => T = "dict"
    | _ => False
  | _ => False
def dBM (T : String) (r : DMeth) (to : DE) (t : DA) : DE := fun env M Q E => to env M (fun x M1 => isTy T x M1 ∧ t env M1 (fun ds M2 => (r x ds M2).run M2 Q) E) E
theorem isTy_v {K : PySem.W.Frag} {H : Hp} {M : Mem} {T : String} {d : D} {u : V} (s : Sim K H M) (r : RepD K H d u) (h : isTy T d M) : tyV K T u H := by
  unfold isTy at h
  split at h
  · rw [rep_v r]; exact h
  · rw [rep_v r]
    split at h
    · rename_i hm
      obtain ⟨us, e, l⟩ := s _ _ hm
      exact .inl ⟨h, us, SqL.of e⟩
    · rename_i hm
      obtain ⟨us, e, l⟩ := s _ _ hm
      exact .inr (.inr (.inl ⟨h, .inl ⟨us, e⟩⟩))
    · exact h.elim
  · exact h.elim
section
variable {X : Cx} {W : WX} {o e : Expr} {es : List Expr} {name : Str} {apos cpos : Pos} {to : DE} {t : DA} {T id : String} {r : DMeth}
theorem xe_bm (pa : PlainAttrs T) (slot : Slot T name id) (hty : typeOf (.builtin id) = pure (.type "method_descriptor")) (hm : MtR X id (upMeth X.K r)) (ho : XE X W o to) (ha : XA X W (e :: es) t)
    (hbase : attributeBase o name X.env (eval o X.env) = eval o X.env := by rfl)
    (hfew : ((backTo cpos (starEach (e :: es) X.env)).all (fun x => !x.1) && (backToKw cpos (keywordEach [] X.env)).all (fun x => x.1.isSome)
      && decide ((e :: es).length + ([] : List Keyword).length + (if ([] : List Keyword).isEmpty then 0 else 1) < 30)) = true := by rfl)
    (hline : (apos.endLine == cpos.line) = true := by rfl) (hs : starEach (e :: es) X.env = (false, eval e X.env) :: starEach es X.env := by rfl) (hplain : (backTo cpos (starEach es X.env)).any (·.1) = false := by rfl) :
    XE X W (.Call (.Attribute o name apos) (e :: es) [] cpos) (dBM T r to t) := by
  refine ⟨fun env M Q Q' E E' hQ hE => ho.mono env M _ _ _ _ (fun d M1 h => ⟨h.1, ha.mono env M1 _ _ _ _ (fun ds M2 => Res.mono hQ) hE h.2⟩) hE, PEw (pe_bm pa slot hty hm ho.pe ha.pa hbase hfew hline hs hplain) ?_⟩
  rintro σ H Q ⟨env, M, re, s, h⟩
  refine stepE ho.mono re s h (fun d M1 u H1 e1 s1 re1 r1 h1 => ⟨isTy_v s1 r1 h1.1, ?_⟩) fun _ _ _ z => z
  refine stepA ha.mono re1 s1 h1.2 (fun ds M2 us H2 e2 s2 re2 r2 h2 => ?_) (upX_mono e1)
  exact ⟨d, ds, M2, RepD.mono e2 _ r1, r2, s2, Res.mono (upK_mono (e1.trans e2)) h2⟩
theorem xe_bm0 (pa : PlainAttrs T) (slot : Slot T name id) (hty : typeOf (.builtin id) = pure (.type "method_descriptor")) (hm : MtR X id (upMeth X.K r)) (ho : XE X W o to)
    (hbase : attributeBase o name X.env (eval o X.env) = eval o X.env := by rfl) (hline : (apos.endLine == cpos.line) = true := by rfl) :
    XE X W (.Call (.Attribute o name apos) [] [] cpos) (dBM T r to dNil) := by
  refine ⟨fun env M Q Q' E E' hQ hE => ho.mono env M _ _ _ _ (fun d M1 h => ⟨h.1, Res.mono hQ h.2⟩) hE, PEw (pe_bm0 pa slot hty hm ho.pe hbase hline) ?_⟩
  rintro σ H Q ⟨env, M, re, s, h⟩
  refine stepE ho.mono re s h (fun d M1 u H1 e1 s1 re1 r1 h1 => ⟨isTy_v s1 r1 h1.1, ?_⟩) fun _ _ _ z => z
  exact ⟨d, [], M1, r1, .nil, s1, Res.mono (upK_mono e1) h1.2⟩
end
def mAppend : DMeth
  | .v (.ref a), [d], M => match M a with
    | some (.lst ds) => .put (ds.length < sizeLine) a (.lst (ds ++ [d])) .non
    | _ => .bad
  | _, _, _ => .bad
def mExtend : DMeth
  | .v (.ref a), [.v (.ref b)], M => match M a, M b with
    | some (.lst ds), some (.lst es) => .put (ds.length + es.length ≤ sizeLine) a (.lst (ds ++ es)) .non
    | _, _ => .bad
  | _, _, _ => .bad
def mPop : DMeth
  | .v (.ref a), [], M => match M a with
    | some (.lst ds) => match ds[ds.length - 1]? with
      | some d => .put True a (.lst ds.dropLast) d
      | none => .bad
    | _ => .bad
  | _, _, _ => .bad
def strsOf : List D → Option (List Str)
  | [] => some []
  | .v (.str b) :: r => (strsOf r).map (b :: ·)
  | _ :: _ => none
theorem strsOf_eq : ∀ {ds : List D} {bs : List Str}, strsOf ds = some bs → ds = bs.map D.str
  | [], bs, h => by simp [strsOf] at h; subst h; rfl
  | .v (.str b) :: r, bs, h => by
    simp only [strsOf, Option.map_eq_some_iff] at h
    obtain ⟨cs, h1, rfl⟩ := h
    rw [strsOf_eq h1]; rfl
  | .tup _ :: _, _, h => by simp [strsOf] at h
  | .v .non :: _, _, h => by simp [strsOf] at h
  | .v (.int _) :: _, _, h => by simp [strsOf] at h
  | .v (.bl _) :: _, _, h => by simp [strsOf] at h
  | .v (.byt _) :: _, _, h => by simp [strsOf] at h
  | .v (.flt _) :: _, _, h => by simp [strsOf] at h
  | .v (.ref _) :: _, _, h => by simp [strsOf] at h
  | .v (.ty _) :: _, _, h => by simp [strsOf] at h
theorem strsOf_map : ∀ bs : List Str, strsOf (bs.map D.str) = some bs
  | [] => rfl
  | b :: bs => by show (strsOf (bs.map D.str)).map _ = _; rw [strsOf_map bs]; rfl
theorem RepL.strs {K : PySem.W.Frag} {H : Hp} : ∀ {bs : List Str} {us : List V}, RepL K H (bs.map D.str) us → us = bs.map V.str
  | [], _, h => by unfold RepL at h; simpa using h
  | n :: ns, _, h => by
    simp only [List.map_cons] at h; unfold RepL at h
    obtain ⟨u, r, rfl, q, t⟩ := h
    rw [RepL.strs t, rep_v q]; rfl
theorem RepL.of_strs {K : PySem.W.Frag} {H : Hp} : ∀ {ns : List Str}, RepL K H (ns.map D.str) (ns.map V.str)
  | [] => .nil
  | n :: ns => .cons rep_of RepL.of_strs
theorem RepL.dropLast {K : PySem.W.Frag} {H : Hp} {ds : List D} {us : List V} (h : RepL K H ds us) : RepL K H ds.dropLast us.dropLast := by
  rw [List.dropLast_eq_take, List.dropLast_eq_take, h.length]
  exact h.take _
section
variable {X : Cx}
theorem m_append : MtR X "list.append" (upMeth X.K mAppend) := by
  rintro pins s σ H x xs v us Q I rx rxs ⟨d, ds, M, r1, rl, sm, h⟩
  unfold mAppend at h
  split at h <;> first | exact h.elim | skip
  split at h <;> first | exact h.elim | skip
  rename_i hm
  obtain ⟨u, rfl, q⟩ := rl1 rl
  rw [rep_v r1] at rx
  obtain ⟨ws, e1, l1⟩ := sm.lst hm
  exact mt_append pins s σ H _ _ v us Q I rx rxs ⟨_, ws, u, rfl, rfl, e1, by rw [l1.length]; exact h.1,
    fin_put h.2 sm e1 True.intro (repO_lst (Ext.mut e1 True.intro) (RepL.append l1 (.cons q .nil))) rep_of⟩
theorem m_extend : MtR X "list.extend" (upMeth X.K mExtend) := by
  rintro pins s σ H x xs v us Q I rx rxs ⟨d, ds, M, r1, rl, sm, h⟩
  unfold mExtend at h
  split at h <;> first | exact h.elim | skip
  split at h <;> first | exact h.elim | skip
  rename_i hm1 hm2
  obtain ⟨u, rfl, q⟩ := rl1 rl
  rw [rep_v r1] at rx
  rw [rep_v q] at rxs
  obtain ⟨ws, e1, l1⟩ := sm.lst hm1
  obtain ⟨zs, e2, l2⟩ := sm.lst hm2
  exact mt_extend pins s σ H _ _ v us Q I rx rxs ⟨_, _, ws, zs, rfl, rfl, e1, e2, by rw [l1.length, l2.length]; exact h.1,
    fin_put h.2 sm e1 True.intro (repO_lst (Ext.mut e1 True.intro) (RepL.append l1 l2)) rep_of⟩
theorem m_pop : MtR X "list.pop" (upMeth X.K mPop) := by
  rintro pins s σ H x xs v us Q I rx rxs ⟨d, ds, M, r1, rl, sm, h⟩
  unfold mPop at h
  split at h <;> first | exact h.elim | skip
  split at h <;> first | exact h.elim | skip
  split at h <;> first | exact h.elim | skip
  rename_i hm _ d' hd
  unfold RepL at rl
  subst rl
  rw [rep_v r1] at rx
  obtain ⟨ws, e1, l1⟩ := sm.lst hm
  obtain ⟨w', h1, h2⟩ := l1.get hd
  exact mt_pop pins s σ H _ _ v us Q I rx rxs ⟨_, ws, w', rfl, rfl, e1, by rw [l1.length]; exact h1,
    fin_put h.2 sm e1 True.intro (repO_lst (Ext.mut e1 True.intro) l1.dropLast) h2⟩
end
end PL

namespace PL
open PySem PySem.Spec PyProof.Rows L2

/-! promises -/
abbrev DSp := List D → Mem → DK → DX → Prop
def MonoSp (sp : DSp) : Prop := ∀ ds M (Q Q' : DK) (E E' : DX), (∀ d M, Q d M → Q' d M) → (∀ c f M, E c f M → E' c f M) → sp ds M Q E → sp ds M Q' E'
def upXK (K : PySem.W.Frag) (H : Hp) (E : XK) : DX := fun c fs M' => ∀ d H', Ext K H H' → Sim K H' M' → RepX K H' d fs → E c d H'
def liftSp (K : PySem.W.Frag) (sp : DSp) : Sp := fun vs H Q E => ∃ ds M, RepL K H ds vs ∧ Sim K H M ∧ sp ds M (upK K H Q) (upXK K H E)
structure Fn (P : Program) (w : World) (K : PySem.W.Frag) (mg : Str → Option Value) (base : Heap) (k : Nat) (x : Str) (sp : DSp) (dvs : List D) : Prop where
  mono : MonoSp sp
  ex : ∃ (f : Addr) (fd : FuncData) (ps : List Str) (ds : List Value) (vds : List V), FnOk P w K mg base (L2.CX P w) k f fd ps (liftSp K sp) ∧ mg x = some (.ref f) ∧ PySem.W.keepIn K (.ref f) = true ∧ Binds K fd ps ds ∧ Vals vds ds ∧ ∀ H, RepL K H dvs vds
theorem Fn.up {P : Program} {w : World} {K : PySem.W.Frag} {mg : Str → Option Value} {base : Heap} {j k : Nat} {x : Str} {sp : DSp} {dvs : List D} (F : Fn P w K mg base j x sp dvs) (h : j ≤ k) : Fn P w K mg base k x sp dvs := by
  obtain ⟨m, f, fd, ps, ds, vds, F, r⟩ := F
  exact ⟨m, f, fd, ps, ds, vds, F.mono h, r⟩
def dCall (sp : DSp) (dvs : List D) (t : DA) : DE := fun env M Q E => t env M (fun ds M1 => sp (ds ++ dvs) M1 Q E) E
theorem dCall_mono {sp : DSp} {dvs : List D} {t : DA} (hs : MonoSp sp) (h : MonoA t) : MonoE (dCall sp dvs t) := fun env M Q Q' E E' hQ hE => h env M _ _ _ _ (fun ds M1 => hs _ _ _ _ _ _ hQ hE) hE
theorem upXK_mono {K : PySem.W.Frag} {H H1 : Hp} {E : XK} (e : Ext K H H1) : ∀ c f M1, upXK K H E c f M1 → upXK K H1 E c f M1 := fun c f M1 q d H' e' s r => q d H' (e.trans e') s r
section
variable {X : Cx} {W : WX} {k : Nat} {x : Str} {sp : DSp} {dvs : List D} {e : Expr} {es : List Expr} {t : DA} {p pos : Pos}
theorem xe_call (F : Fn X.prog X.w X.K X.mg X.base k x sp dvs) (hr : Room k X.A) (tk : Takes X W) (hg : Gl X x) (ha : XA X W (e :: es) t) (hdb : (x == ("__debug__" : Str)) = false := by decide)
    (he : starEach (e :: es) X.env = (false, eval e X.env) :: starEach es X.env := by rfl) (hpl : (backTo pos (starEach es X.env)).any (·.1) = false := by rfl) : XE X W (.Call (.Name x p) (e :: es) [] pos) (dCall sp dvs t) := by
  obtain ⟨m, f, fd, ps, ds, vds, F, hm, hk, hb, hd, rd⟩ := F
  refine ⟨dCall_mono m ha.mono, PEw (pe_callSD (E := WE W) F hr hg hm hk hb hd (passAt tk) ha.pa hdb he hpl) ?_⟩
  rintro σ H Q ⟨env, M, re, s, h⟩
  refine stepA ha.mono re s h (fun as M1 us H1 e1 s1 re1 r1 h1 => ?_) fun _ _ _ z => z
  exact ⟨as ++ dvs, M1, RepL.append r1 (rd H1), s1, m _ _ _ _ _ _ (upK_mono e1) (upX_mono e1) h1⟩
theorem xe_call0 (F : Fn X.prog X.w X.K X.mg X.base k x sp dvs) (hr : Room k X.A) (tk : Takes X W) (hg : Gl X x) (hdb : (x == ("__debug__" : Str)) = false := by decide) : XE X W (.Call (.Name x p) [] [] pos) (dCall sp dvs dNil) := by
  obtain ⟨m, f, fd, ps, ds, vds, F, hm, hk, hb, hd, rd⟩ := F
  refine ⟨dCall_mono m (fun _ _ _ _ _ _ hQ _ h => hQ _ _ h), ⟨fun pins s σ H Q I h => ?_⟩⟩
  obtain ⟨env, M, re, sm, h⟩ := h
  refine wpAny_Call_Name_kw (ld_glob I hg hm ?_ hdb)
  exact PySem.W.callWith_K0 I.kIn hk (run_fnSD (E := WE W) (us := []) F hr hb hd (passAt tk σ) I .nil ⟨dvs, M, rd H, sm, h⟩)
/-- a local name that holds a def -/
def dCallL (i : Nat) (S : Addr → Option DSp) (t : DA) : DE := fun env M Q E => match env[i]? with
  | some (some (.v (.ref f))) => match S f with
    | some sp => t env M (fun ds M1 => sp ds M1 Q E) E
    | none => False
  | _ => False
theorem xe_callL {i : Nat} {S : Addr → Option DSp} (A : ∀ f sp, S f = some sp → MonoSp sp ∧ ∃ (fd : FuncData) (ps : List Str), FnOk X.prog X.w X.K X.mg X.base (L2.CX X.prog X.w) k f fd ps (liftSp X.K sp) ∧ PySem.W.keepIn X.K (.ref f) = true ∧ Binds X.K fd ps [])
    (hr : Room k X.A) (tk : Takes X W) (hN : X.N[i]? = some x) (hv : Vis X.env.scope x) (ha : XA X W (e :: es) t) (hdb : (x == ("__debug__" : Str)) = false := by decide) (hcd : (x == ("__classdict__" : Str)) = false := by decide)
    (he : starEach (e :: es) X.env = (false, eval e X.env) :: starEach es X.env := by rfl) (hpl : (backTo pos (starEach es X.env)).any (·.1) = false := by rfl) : XE X W (.Call (.Name x p) (e :: es) [] pos) (dCallL i S t) := by
  refine ⟨fun env M Q Q' E E' hQ hE h => ?_, ⟨fun pins s σ H Q I h => ?_⟩⟩
  · unfold dCallL at h ⊢
    split at h <;> first | exact h.elim | skip
    split at h <;> first | exact h.elim | skip
    rename_i f _ _ sp hS
    exact ha.mono env M _ _ _ _ (fun ds M1 => (A f sp hS).1 _ _ _ _ _ _ hQ hE) hE h
  · obtain ⟨env, M, re, sm, h⟩ := h
    unfold dCallL at h
    split at h <;> first | exact h.elim | skip
    rename_i f hi
    split at h <;> first | exact h.elim | skip
    rename_i sp hS
    obtain ⟨m, fd, ps, F, hk, hb⟩ := A f sp hS
    obtain ⟨u, h1, h2⟩ := re.2 i _ hi
    have eu := rep_v h2
    subst eu
    refine wpAny_Call_Name_kw (thn ((pe_var (pos := p) hN hv hdb hcd).run pins s σ H (fun v H1 => v = .ref f ∧ H1 = H) I ⟨.ref f, h1, rfl, rfl⟩) fun u s1 ⟨v, H1, I1, r1, q1⟩ => ?_)
    obtain ⟨rfl, rfl⟩ := q1
    cases r1
    have q : liftA X.K W t σ H1 fun vs H2 => liftSp X.K sp (vs ++ []) H2 Q (WE W σ) := stepA ha.mono re sm h (fun as M1 us H2 e1 s2 re1 r2 h3 => by
      rw [List.append_nil]
      exact ⟨as, M1, r2, s2, m _ _ _ _ _ _ (upK_mono e1) (upX_mono e1) h3⟩) fun _ _ _ z => z
    refine PySem.W.callWith_K (h₀ := X.base) I.ok.mod.kin hk (thn (ha.pa.run pos pins s1 σ _ _ I1 q) fun us s2 ⟨vs, H2, I2, r, q2⟩ => ⟨I2.kIn, ?_⟩) he hpl
    exact run_fnSD (E := WE W) F hr hb .nil (passAt tk σ) I2 r q2
end

/-! patterns of targets -/
inductive Pat where
  | nm (i : Nat)
  | tp (ps : List Pat)
def seqOf (M : Mem) : D → Option (List D)
  | .tup ds => some ds
  | .v (.ref a) => match M a with
    | some (.lst ds) => some ds
    | _ => none
  | _ => none
mutual
def Pat.bind (M : Mem) : Pat → D → DEnv → Option DEnv
  | .nm i, d, env => some (env.set i (some d))
  | .tp ps, d, env => match seqOf M d with
    | some ds => bindL M ps ds env
    | none => none
def bindL (M : Mem) : List Pat → List D → DEnv → Option DEnv
  | [], [], env => some env
  | p :: ps, d :: ds, env => match p.bind M d env with
    | some env1 => bindL M ps ds env1
    | none => none
  | _, _, _ => none
end
mutual
def Pat.tg (K : PySem.W.Frag) : Pat → TG
  | .nm i => gName i
  | .tp ps => fun v σ H Q => gTup K ps.length (tgs K ps) v σ H Q ∨ gLst K ps.length (tgs K ps) v σ H Q
def tgs (K : PySem.W.Frag) : List Pat → TGs
  | [] => gNil
  | p :: ps => gCons (p.tg K) (tgs K ps)
end
mutual
def Pat.slots : Pat → List Nat
  | .nm i => [i]
  | .tp ps => slotsL ps
def slotsL : List Pat → List Nat
  | [] => []
  | p :: ps => p.slots ++ slotsL ps
end
theorem wipe_set {i : Nat} {x : V} : ∀ {vs : List Nat} {σ : L2.St}, i ∈ vs → wipe (σ.set i (some x)) vs = wipe σ vs
  | v :: vs, σ, h => by
    show (wipe (σ.set i (some x)) vs).set v none = (wipe σ vs).set v none
    by_cases hm : i ∈ vs
    · rw [wipe_set hm]
    · have e : i = v := by
        rcases List.mem_cons.mp h with e | e
        · exact e
        · exact absurd e hm
      subst e
      have comm : ∀ (vs : List Nat) (σ : L2.St), i ∉ vs → wipe (σ.set i (some x)) vs = (wipe σ vs).set i (some x) := by
        intro vs
        induction vs with
        | nil => intro σ _; rfl
        | cons w ws ih =>
          intro σ hn
          show (wipe (σ.set i (some x)) ws).set w none = ((wipe σ ws).set w none).set i (some x)
          rw [ih σ (fun z => hn (List.mem_cons_of_mem _ z)), List.set_comm _ _ (fun z => hn (by rw [z]; exact List.mem_cons_self))]
      rw [comm vs σ hm, List.set_set]
mutual
theorem Pat.rep {K : PySem.W.Frag} {H : Hp} {M : Mem} (s : Sim K H M) (vs : List Nat) : ∀ (p : Pat) {d : D} {v : V} {env env' : DEnv} {σ : L2.St}, RepD K H d v → RepE K H env σ → p.bind M d env = some env' → (∀ i ∈ p.slots, i ∈ vs) →
    ∃ σ', RepE K H env' σ' ∧ wipe σ' vs = wipe σ vs ∧ ∀ Q : L2.St → Hp → Prop, Q σ' H → p.tg K v σ H Q
  | .nm i, d, v, env, env', σ, r, re, h, hs => by
    simp only [Pat.bind, Option.some.injEq] at h
    subst h
    exact ⟨σ.set i (some v), re.set r i, wipe_set (hs i (by simp [Pat.slots])), fun Q q => q⟩
  | .tp ps, d, v, env, env', σ, r, re, h, hs => by
    unfold Pat.bind at h
    split at h
    · rename_i ds hd
      unfold seqOf at hd
      split at hd
      · cases hd
        obtain ⟨a, us, rfl, q, l⟩ := rep_tup r
        obtain ⟨σ', h1, h2, h3⟩ := Pat.repL s vs ps l re h (by simpa [Pat.slots] using hs)
        refine ⟨σ', h1, h2, fun Q q' => .inl ⟨a, us, rfl, q, ?_, h3.2 Q q'⟩⟩
        exact h3.1
      · split at hd <;> cases hd
        rename_i hm
        obtain ⟨us, e, l⟩ := s.lst hm
        rw [rep_v r]
        obtain ⟨σ', h1, h2, h3⟩ := Pat.repL s vs ps l re h (by simpa [Pat.slots] using hs)
        exact ⟨σ', h1, h2, fun Q q' => .inr ⟨_, us, rfl, SqL.of e, h3.1, h3.2 Q q'⟩⟩
      · cases hd
    · cases h
theorem Pat.repL {K : PySem.W.Frag} {H : Hp} {M : Mem} (s : Sim K H M) (vs : List Nat) : ∀ (ps : List Pat) {ds : List D} {us : List V} {env env' : DEnv} {σ : L2.St}, RepL K H ds us → RepE K H env σ → bindL M ps ds env = some env' → (∀ i ∈ slotsL ps, i ∈ vs) →
    ∃ σ', RepE K H env' σ' ∧ wipe σ' vs = wipe σ vs ∧ us.length = ps.length ∧ ∀ Q : L2.St → Hp → Prop, Q σ' H → tgs K ps us σ H Q
  | [], [], us, env, env', σ, r, re, h, hs => by
    simp only [bindL, Option.some.injEq] at h
    subst h
    unfold RepL at r
    subst r
    exact ⟨σ, re, rfl, rfl, fun Q q => ⟨rfl, q⟩⟩
  | p :: ps, d :: ds, us, env, env', σ, r, re, h, hs => by
    unfold bindL at h
    split at h
    · rename_i env1 hb
      unfold RepL at r
      obtain ⟨u, t, rfl, q, l⟩ := r
      obtain ⟨σ1, h1, h2, h3⟩ := Pat.rep s vs p q re hb (fun i hi => hs i (by simp [slotsL, hi]))
      obtain ⟨σ2, g1, g2, g3, g4⟩ := Pat.repL s vs ps l h1 h (fun i hi => hs i (by simp [slotsL, hi]))
      exact ⟨σ2, g1, g2.trans h2, by simp [g3], fun Q q' => ⟨u, t, rfl, h3 _ (g4 Q q')⟩⟩
    · cases h
  | [], _ :: _, _, _, _, _, _, _, h, _ => by simp [bindL] at h
  | _ :: _, [], _, _, _, _, _, _, h, _ => by simp [bindL] at h
end
section
variable {X : Cx} {pos : Pos}
theorem xg_name (i : Nat) {x : Str} (hN : X.N.Nodup) (hi : X.N[i]? = some x := by rfl) (hx : Loc X.env.scope x := by first | exact .inl rfl | exact .inr rfl) (hf : X.fn x = true ∨ X.env.scope.names.lookup x = some .local := by first | exact .inl rfl | exact .inr rfl) : PG X (.Name x pos) ((Pat.nm i).tg X.K) := by
  unfold Pat.tg
  exact pg_name hN hi hx hf
theorem xgs_nil : PGs X [] (tgs X.K []) := by unfold tgs; exact pgs_nil
theorem xgs_cons {e : Expr} {es : List Expr} {p : Pat} {ps : List Pat} (h1 : PG X e (p.tg X.K)) (h2 : PGs X es (tgs X.K ps)) (hs : (assignEach (e :: es) X.env).map (·.2) = assign e X.env :: (assignEach es X.env).map (·.2) := by rfl) : PGs X (e :: es) (tgs X.K (p :: ps)) := by
  unfold tgs
  exact pgs_cons h1 h2 hs
theorem xg_tup {es : List Expr} {k : Nat} {ps : List Pat} (hc : X.calm = true) (h : PGs X es (tgs X.K ps)) (hn : (assignEach es X.env).length = ps.length := by rfl) (hst : (assignEach es X.env).findIdx? (·.1) = none := by rfl) : PG X (.Tuple es k pos) ((Pat.tp ps).tg X.K) := by
  unfold Pat.tg
  refine ⟨fun pins s σ H v u Q I r hw => ?_⟩
  rcases hw with hw | hw
  · exact (pg_tup hc h hn hst).run pins s σ H v u Q I r hw
  · exact (pg_lst hc h hn hst).run pins s σ H v u Q I r hw
end

/-! statements -/
def dNext : DS := fun D env M => D.nx env M
def dSeq (t u : DS) : DS := fun D env M => t { D with nx := u D } env M
def dDrop (te : DE) : DS := fun D env M => te env M (fun _ M1 => D.nx env M1) (fun c f M1 => D.ex c f env M1)
def dRet (te : DE) : DS := fun D env M => te env M D.rt (fun c f M1 => D.ex c f env M1)
def dRetN : DS := fun D env M => D.rt .non M
def dIfS (tc : DT) (t u : DS) : DS := fun D env M => tc env M (fun b M1 => if b = true then t D env M1 else u D env M1) (fun c f M1 => D.ex c f env M1)
def dAsg (te : DE) (p : Pat) : DS := fun D env M => te env M (fun d M1 => match p.bind M1 d env with
  | some env1 => D.nx env1 M1
  | none => False) (fun c f M1 => D.ex c f env M1)
def dBrk : DS := fun D env M => D.bk env M
def dCont : DS := fun D env M => D.ct env M
theorem ends_ex {K : PySem.W.Frag} {W : WX} {H : Hp} {D : Ends} {env : DEnv} {σ : L2.St} (re : RepE K H env σ) : ∀ c f M1, (upEnds K W H D).ex c f env M1 → upX K W H σ c f M1 := fun c f M1 q d H' e s r => q d σ H' e s (re.mono e) r
theorem upN_mono {K : PySem.W.Frag} {H H1 : Hp} {Q : L2.St → Hp → Prop} (e : Ext K H H1) : ∀ env M1, upN K H Q env M1 → upN K H1 Q env M1 := fun c M1 q σ' H' e' s r => q σ' H' (e.trans e') s r
theorem upEnds_le {K : PySem.W.Frag} {W : WX} {H H1 : Hp} {D : Ends} (e : Ext K H H1) : (upEnds K W H D).Le (upEnds K W H1 D) :=
  ⟨upN_mono e, upK_mono e, upN_mono e, upN_mono e, fun c f env M1 q d σ' H' e' s r x => q d σ' H' (e.trans e') s r x⟩
theorem DEnds.Le.refl {D : DEnds} : D.Le D := ⟨fun _ _ h => h, fun _ _ h => h, fun _ _ h => h, fun _ _ h => h, fun _ _ _ _ h => h⟩
section
variable {X : Cx} {W : WX} {st : Stmt} {rest : List Stmt} {t u : DS} {e c : Expr} {te : DE} {tc : DT} {pos : Pos}
theorem xss_nil : XSs X W [] dNext := by
  refine ⟨fun D D' env M l h => l.nx _ _ h, PSsw pss_nil ?_⟩
  rintro D σ H ⟨env, M, re, s, h⟩
  exact h σ H Ext.refl s re
theorem dSeq_mono {t u : DS} (ht : MonoS t) (hu : MonoS u) : MonoS (dSeq t u) := fun D D' env M l => ht _ _ _ _ ⟨fun e M => hu _ _ _ _ l, l.rt, l.bk, l.ct, l.ex⟩
theorem xss_cons (h1 : XS X W st t) (h2 : XSs X W rest u) : XSs X W (st :: rest) (dSeq t u) := by
  refine ⟨dSeq_mono h1.mono h2.mono, PSsw (pss_cons h1.ps h2.ps) ?_⟩
  rintro D σ H ⟨env, M, re, s, h⟩
  refine ⟨env, M, re, s, h1.mono { upEnds X.K W H D with nx := u (upEnds X.K W H D) } _ _ _ ⟨fun env1 M1 q σ1 H1 e1 s1 re1 => ?_, fun _ _ q => q, fun _ _ q => q, fun _ _ q => q, fun _ _ _ _ q => q⟩ h⟩
  exact ⟨env1, M1, re1, s1, h2.mono _ _ _ _ (upEnds_le e1) q⟩
theorem xss_one (h1 : XS X W st t) : XSs X W [st] t := ⟨h1.mono, pss_one h1.ps⟩
theorem xs_pass : XS X W (.Pass pos) dNext := by
  refine ⟨fun D D' env M l h => l.nx _ _ h, PSw ps_pass ?_⟩
  rintro D σ H ⟨env, M, re, s, h⟩
  exact h σ H Ext.refl s re
theorem xs_break : XS X W (.Break pos) dBrk := by
  refine ⟨fun D D' env M l h => l.bk _ _ h, PSw ps_break ?_⟩
  rintro D σ H ⟨env, M, re, s, h⟩
  exact h σ H Ext.refl s re
theorem xs_continue : XS X W (.Continue pos) dCont := by
  refine ⟨fun D D' env M l h => l.ct _ _ h, PSw ps_continue ?_⟩
  rintro D σ H ⟨env, M, re, s, h⟩
  exact h σ H Ext.refl s re
theorem xs_expr (he : XE X W e te) (hs : swapsWith e none pos.line X.env = pure false := by rfl) : XS X W (.Expr e pos) (dDrop te) := by
  refine ⟨fun D D' env M l h => he.mono _ _ _ _ _ _ (fun _ M1 => l.nx _ M1) (fun c f M1 => l.ex c f _ M1) h, PSw (ps_expr he.pe hs) ?_⟩
  rintro D σ H ⟨env, M, re, s, h⟩
  exact stepE he.mono re s h (fun d M1 u H1 e1 s1 re1 r1 q => q σ H1 e1 s1 re1) (ends_ex re)
theorem xs_ret (he : XE X W e te) : XS X W (.Return (some e) pos) (dRet te) := by
  refine ⟨fun D D' env M l h => he.mono _ _ _ _ _ _ (fun d M1 => l.rt d M1) (fun c f M1 => l.ex c f _ M1) h, PSw (ps_ret he.pe) ?_⟩
  rintro D σ H ⟨env, M, re, s, h⟩
  exact stepE he.mono re s h (fun d M1 u H1 e1 s1 re1 r1 q => q u H1 e1 s1 r1) (ends_ex re)
theorem xs_retN : XS X W (.Return none pos) dRetN := by
  refine ⟨fun D D' env M l h => l.rt _ _ h, PSw ps_retN ?_⟩
  rintro D σ H ⟨env, M, re, s, h⟩
  exact h .non H Ext.refl s rep_of
theorem xs_if {a b : List Stmt} (hc : XT X W c tc) (ha : XSs X W a t) (hb : XSs X W b u) : XS X W (.If c a b pos) (dIfS tc t u) := by
  refine ⟨fun D D' env M l h => hc.mono _ _ _ _ _ _ (fun b M1 => ?_) (fun c f M1 => l.ex c f _ M1) h, PSw (ps_if hc.pt ha.ps hb.ps) ?_⟩
  · cases b with
    | true => rw [if_pos rfl, if_pos rfl]; exact ha.mono _ _ _ _ l
    | false => rw [if_neg Bool.false_ne_true, if_neg Bool.false_ne_true]; exact hb.mono _ _ _ _ l
  · rintro D σ H ⟨env, M, re, s, h⟩
    refine stepT hc.mono re s h (fun b M1 H1 e1 s1 re1 q => ?_) (ends_ex re)
    cases b with
    | true =>
      rw [if_pos rfl] at q ⊢
      exact ⟨env, M1, re1, s1, ha.mono _ _ _ _ (upEnds_le e1) q⟩
    | false =>
      rw [if_neg Bool.false_ne_true] at q ⊢
      exact ⟨env, M1, re1, s1, hb.mono _ _ _ _ (upEnds_le e1) q⟩
theorem bind_mono {p : Pat} {M1 : Mem} {d : D} {env : DEnv} {N N' : DEnv → Mem → Prop} (h : ∀ e M, N e M → N' e M) : (match p.bind M1 d env with | some env1 => N env1 M1 | none => False) → (match p.bind M1 d env with | some env1 => N' env1 M1 | none => False) := by
  cases p.bind M1 d env with
  | none => exact id
  | some e => exact h e M1
theorem asg_up (he : XE X W e te) (p : Pat) : ∀ D σ H, liftS X.K W (dAsg te p) D σ H → tAsg (liftE X.K W te) (p.tg X.K) D σ H := by
  rintro D σ H ⟨env, M, re, s, h⟩
  refine stepE he.mono re s h (fun d M1 u H1 e1 s1 re1 r1 q => ?_) (ends_ex re)
  split at q
  · rename_i env1 hb
    obtain ⟨σ', h1, _, h3⟩ := Pat.rep s1 p.slots p r1 re1 hb (fun _ h => h)
    exact h3 _ (q σ' H1 e1 s1 h1)
  · exact q.elim
theorem dAsg_mono (he : MonoE te) {p : Pat} : MonoS (dAsg te p) := fun D D' env M l h => he _ _ _ _ _ _ (fun d M1 => bind_mono l.nx) (fun c f M1 => l.ex c f _ M1) h
theorem xs_asg {tg : Expr} {p : Pat} (he : XE X W e te) (hg : PG X tg (p.tg X.K)) (hs : swapsWithSole [tg] e pos.line X.env = pure false := by rfl) (hw : swappedStores [tg] e X.env = pure none := by rfl)
    (h1 : (assignEach [tg] X.env).map (·.2) = [assign tg X.env] := by rfl) : XS X W (.Assign [tg] e pos) (dAsg te p) := ⟨dAsg_mono he.mono, PSw (ps_asg he.pe hg hs hw h1) (asg_up he p)⟩
theorem xs_set (i : Nat) {x : Str} {pos' : Pos} (hN : X.N.Nodup) (he : XE X W e te) (hi : X.N[i]? = some x := by rfl) (hx : Loc X.env.scope x := by first | exact .inl rfl | exact .inr rfl)
    (hs : swapsWith e (some (.Name x pos')) pos.line X.env = pure false := by rfl) (hf : X.fn x = true ∨ X.env.scope.names.lookup x = some .local := by first | exact .inl rfl | exact .inr rfl) : XS X W (.Assign [.Name x pos'] e pos) (dAsg te (.nm i)) := by
  refine ⟨dAsg_mono he.mono, PSw (ps_set hN hi hx he.pe hs hf) fun D σ H h => ?_⟩
  have := asg_up he (.nm i) D σ H h
  unfold Pat.tg at this
  exact this
/-- x op= e -/
def dAug (i : Nat) (r : DOp2) (te : DE) : DS := fun D env M => match env[i]? with
  | some (some x) => te env M (fun y M1 => (r x y M1).run M1 (fun z M2 => D.nx (env.set i (some z)) M2)) (fun c f M1 => D.ex c f env M1)
  | _ => False
theorem xs_aug (i : Nat) {x : Str} {op : Operator} {r : DOp2} {pos' : Pos} (hN : X.N.Nodup) (ho : XOp X (inplaceOp op) r) (he : XE X W e te) (hi : X.N[i]? = some x := by rfl) (hx : Loc X.env.scope x := by first | exact .inl rfl | exact .inr rfl)
    (hf : X.fn x = true ∨ X.env.scope.names.lookup x = some .local := by first | exact .inl rfl | exact .inr rfl) : XS X W (.AugAssign (.Name x pos') op e pos) (dAug i r te) := by
  refine ⟨fun D D' env M l h => ?_, PSw (ps_aug (ti := upR2 X.K r) hN hi hx he.pe ?_ hf) ?_⟩
  · unfold dAug at h ⊢
    split at h <;> first | exact h.elim | skip
    exact he.mono _ _ _ _ _ _ (fun y M1 => Res.mono fun z M2 => l.nx _ M2) (fun c f M1 => l.ex c f _ M1) h
  · intro pins s σ H x y v u Q I rx ry q
    exact ho pins s σ H x y v u Q I rx ry q
  · rintro D σ H ⟨env, M, re, s, h⟩
    unfold dAug at h
    split at h <;> first | exact h.elim | skip
    rename_i d hd
    obtain ⟨v, h1, h2⟩ := re.2 i d hd
    refine ⟨v, h1, stepE he.mono re s h (fun y M1 u H1 e1 s1 re1 r1 q => ?_) (ends_ex re)⟩
    exact ⟨d, y, M1, RepD.mono e1 _ h2, r1, s1, Res.mono (fun z M2 q2 u2 H2 e2 s2 r2 => q2 _ H2 (e1.trans e2) s2 (re1.mono e2 |>.set r2 i)) q⟩
theorem x_iadd : XOp X (inplaceOp .Add) (fun x y M => match x, y with | .v (.int i), .v (.int j) => .val True (.int (i + j)) | .v (.str a), .v (.str b) => .val (a.length + b.length ≤ sizeLine) (.str (a ++ b)) | _, _ => .bad) := by
  rintro pins s σ H x y v u Q I rx ry ⟨dx, dy, M, r1, r2, sm, h⟩
  dsimp only at h
  split at h <;> first | exact h.elim | skip
  all_goals rw [rep_v r1] at rx; rw [rep_v r2] at ry
  · exact iop_add pins s σ H _ _ v u Q I rx ry ⟨_, _, rfl, rfl, fin_val h.2 sm⟩
  · exact iop_add_str pins s σ H _ _ v u Q I rx ry ⟨_, _, rfl, rfl, h.1, fin_val h.2 sm⟩
theorem x_isub : XOp X (inplaceOp .Sub) opSub := by
  rintro pins s σ H x y v u Q I rx ry ⟨dx, dy, M, r1, r2, sm, h⟩
  unfold opSub at h
  split at h <;> first | exact h.elim | skip
  rw [rep_v r1] at rx; rw [rep_v r2] at ry
  exact iop_sub pins s σ H _ _ v u Q I rx ry ⟨_, _, rfl, rfl, fin_val h.2 sm⟩
end
def opIadd : DOp2 := fun x y M => match x, y with | .v (.int i), .v (.int j) => .val True (.int (i + j)) | .v (.str a), .v (.str b) => .val (a.length + b.length ≤ sizeLine) (.str (a ++ b)) | _, _ => .bad

/-! o[i] = v -/
def putD {κ : Type} [DecidableEq κ] (kvs : List (κ × D)) (k : κ) (d : D) : List (κ × D) := if (kvs.any fun kv => decide (kv.1 = k)) = true then kvs.map (fun kv => if kv.1 = k then (kv.1, d) else kv) else kvs ++ [(k, d)]
theorem RepKV.put {κ : Type} [DecidableEq κ] {K : PySem.W.Frag} {H : Hp} {k : κ} {d : D} {u : V} (q : RepD K H d u) {kvs : List (κ × D)} {us : List (κ × V)} (h : RepKV K H kvs us) : RepKV K H (putD kvs k d) (putK us k u) := by
  have a : ∀ {kvs : List (κ × D)} {us : List (κ × V)}, RepKV K H kvs us → (us.any fun kv => decide (kv.1 = k)) = (kvs.any fun kv => decide (kv.1 = k)) := by
    intro kvs
    induction kvs with
    | nil => intro us h; unfold RepKV at h; rw [h]; rfl
    | cons p r ih =>
      intro us h
      obtain ⟨u', t, rfl, _, z⟩ := h
      simp [List.any_cons, ih z]
  have b : ∀ {kvs : List (κ × D)} {us : List (κ × V)}, RepKV K H kvs us → RepKV K H (kvs.map fun kv => if kv.1 = k then (kv.1, d) else kv) (us.map fun kv => if kv.1 = k then (kv.1, u) else kv) := by
    intro kvs
    induction kvs with
    | nil => intro us h; unfold RepKV at h; rw [h]; rfl
    | cons p r ih =>
      intro us h
      obtain ⟨k', d'⟩ := p
      obtain ⟨u', t, rfl, q', z⟩ := h
      by_cases e : k' = k
      · simp only [List.map_cons, e, if_true]
        exact ⟨u, _, rfl, q, ih z⟩
      · simp only [List.map_cons, e, if_false]
        exact ⟨u', _, rfl, q', ih z⟩
  have c : ∀ {kvs : List (κ × D)} {us : List (κ × V)}, RepKV K H kvs us → RepKV K H (kvs ++ [(k, d)]) (us ++ [(k, u)]) := by
    intro kvs
    induction kvs with
    | nil => intro us h; unfold RepKV at h; rw [h]; exact ⟨u, [], rfl, q, rfl⟩
    | cons p r ih =>
      intro us h
      obtain ⟨k', d'⟩ := p
      obtain ⟨u', t, rfl, q', z⟩ := h
      exact ⟨u', _, rfl, q', ih z⟩
  unfold putD putK
  rw [a h]
  split
  · exact b h
  · exact c h
/-- o i v -/
def opPut : D → D → D → Mem → Res
  | .v (.ref a), y, z, M => match M a with
    | some (.lst ds) => match y with
      | .v (.int i) => match ixN ds.length i with
        | some j => .put True a (.lst (ds.set j z)) .non
        | none => .bad
      | _ => .bad
    | some (.dk kvs) => match y.key with
      | some k => .put (kvs.length < sizeLine) a (.dk (putD kvs k z)) .non
      | none => .bad
    | _ => .bad
  | _, _, _, _ => .bad
def dPut (te to ti : DE) : DS := fun D env M => te env M (fun z M1 => to env M1 (fun o M2 => ti env M2 (fun i M3 => (opPut o i z M3).run M3 (fun _ M4 => D.nx env M4)) (fun c f M' => D.ex c f env M')) (fun c f M' => D.ex c f env M')) (fun c f M' => D.ex c f env M')
section
variable {X : Cx} {W : WX} {o i e : Expr} {to ti te : DE} {pos pos' : Pos}
theorem x_put (hu : X.A.units + 200 < cLine) : PSet X (fun o i v H Q => ∃ d1 di dv M, RepD X.K H d1 o ∧ RepD X.K H di i ∧ RepD X.K H dv v ∧ Sim X.K H M ∧ (opPut d1 di dv M).run M (fun _ M' => ∀ H', Ext X.K H H' → Sim X.K H' M' → Q H')) := by
  rintro pins s σ H o i v ov iv u Q I ro ri rv ⟨d1, d2, d3, M, r1, r2, r3, sm, h⟩
  unfold opPut at h
  split at h <;> first | exact h.elim | skip
  have e1 := rep_v r1
  subst e1
  have ro2 := ro
  obtain rfl : ov = Value.ref _ := ro
  split at h <;> first | exact h.elim | skip
  · split at h <;> first | exact h.elim | skip
    split at h <;> first | exact h.elim | skip
    rename_i hm _ k _ j hj
    rw [rep_v r2] at ri
    obtain ⟨ws, e1, l1⟩ := sm.lst hm
    refine set_list pins s σ H _ _ v _ iv u Q I ro2 ri rv ⟨_, ws, _, j, rfl, rfl, e1, by rw [l1.length]; exact hj, ?_⟩
    exact h.2 _ (Ext.mut e1 True.intro) (sm.put e1 True.intro (repO_lst (Ext.mut e1 True.intro) (RepL.set r3 j l1)))
  · split at h <;> first | exact h.elim | skip
    rename_i kvs hm _ k hk
    obtain ⟨ws, e1, l1⟩ := sm _ _ hm
    have ei := key_rep hk r2
    subst ei
    refine d_setItem (by omega) I (DPut.k e1 (by rw [l1.length]; exact h.1)) ri rv fun s' I' => ⟨_, I', ?_⟩
    have ex := Ext.mut (K := X.K) (o' := .dK (putK ws k v)) e1 True.intro
    exact h.2 _ ex (sm.put e1 True.intro ⟨_, upd_same, RepKV.mono ex (RepKV.put r3 l1)⟩)
theorem xs_put (hu : X.A.units + 200 < cLine) (he : XE X W e te) (ho : XE X W o to) (hi : XE X W i ti) (hs : swapsWithSole [.Subscript o i pos'] e pos.line X.env = pure false := by rfl) (hw : swappedStores [.Subscript o i pos'] e X.env = pure none := by rfl)
    (h1 : (assignEach [.Subscript o i pos'] X.env).map (·.2) = [assign (.Subscript o i pos') X.env] := by rfl)
    (ha : ∀ v, assign (.Subscript o i pos') X.env v = (do let ov ← holding [v] (eval o X.env); let iv ← holding [v, ov] (eval i X.env); standAt pos'; holding [v, ov, iv] (setItem ov iv v); release [v, ov, iv] []) := by intro _; rfl) :
    XS X W (.Assign [.Subscript o i pos'] e pos) (dPut te to ti) := by
  refine ⟨fun D D' env M l h => he.mono _ _ _ _ _ _ (fun z M1 => ho.mono _ _ _ _ _ _ (fun o M2 => hi.mono _ _ _ _ _ _ (fun i M3 => Res.mono fun _ M4 => l.nx _ M4) (fun c f M' => l.ex c f _ M')) (fun c f M' => l.ex c f _ M')) (fun c f M' => l.ex c f _ M') h,
    PSw (ps_asg he.pe (pg_sub ho.pe hi.pe (x_put hu) ha) hs hw h1) ?_⟩
  rintro D σ H ⟨env, M, re, s, h⟩
  refine stepE he.mono re s h (fun z M1 u H1 e1 s1 re1 r1 h1 => ?_) (ends_ex re)
  refine stepE ho.mono re1 s1 h1 (fun o M2 u2 H2 e2 s2 re2 r2 h2 => ?_) fun c f M' q => upX_mono e1 c f M' (ends_ex re c f M' q)
  refine stepE hi.mono re2 s2 h2 (fun i M3 u3 H3 e3 s3 re3 r3 h3 => ?_) fun c f M' q => upX_mono (e1.trans e2) c f M' (ends_ex re c f M' q)
  exact ⟨o, i, z, M3, RepD.mono e3 _ r2, r3, RepD.mono (e2.trans e3) _ r1, s3, Res.mono (fun _ M4 q H' e4 s4 => q σ H' (((e1.trans e2).trans e3).trans e4) s4 (re3.mono e4)) h3⟩
end
end PL

namespace PL
open PySem PySem.Spec PyProof.Rows L2

/-! what is walked: items; what must stand while it is walked -/
structure DIt where
  items : List D
  keep : Mem → Prop
abbrev DI := DEnv → Mem → (DIt → Mem → Prop) → DX → Prop
def MonoI (t : DI) : Prop := ∀ env M (Q Q' : DIt → Mem → Prop) (E E' : DX), (∀ d M, Q d M → Q' d M) → (∀ c f M, E c f M → E' c f M) → t env M Q E → t env M Q' E'
structure ItRep (K : PySem.W.Frag) (H0 : Hp) (J' : It) (J : DIt) : Prop where
  go : ∀ i H M, Ext K H0 H → Sim K H M → J.keep M → i < J.items.length → J'.go i H
  yld : ∀ i H M x H', Ext K H0 H → Sim K H M → J.keep M → i < J.items.length → J'.yld i H x H' → ∃ d, J.items[i]? = some d ∧ RepD K H' d x ∧ Ext K H H' ∧ Sim K H' M
  stop : ∀ H M, Ext K H0 H → Sim K H M → J.keep M → J'.stop J.items.length H
def liftI (K : PySem.W.Frag) (W : WX) (t : DI) : TI := fun σ H R => ∃ env M, RepE K H env σ ∧ Sim K H M ∧ t env M (fun J M' => ∀ J' H', Ext K H H' → Sim K H' M' → ItRep K H' J' J → R J' H') (upX K W H σ)
structure XI (X : Cx) (W : WX) (tg e : Expr) (t : DI) : Prop where
  mono : MonoI t
  pi : PI X tg e (liftI X.K W t)
theorem PIw {X : Cx} {tg e : Expr} {t t' : TI} (h : PI X tg e t) (w : ∀ σ H Q, t' σ H Q → t σ H Q) : PI X tg e t' := ⟨fun pins s σ H Q I q => h.run pins s σ H Q I (w σ H Q q)⟩

theorem rep_list {K : PySem.W.Frag} {H0 : Hp} {a : Addr} {ds : List D} : ItRep K H0 (Itl K a) ⟨ds, fun M => M a = some (.lst ds) ∨ M a = some (.rol ds)⟩ where
  go := fun i H M _ s k hi => by
    obtain ⟨us, q, l⟩ := s.seq k
    have hl : i < us.length := by rw [l.length]; exact hi
    exact ⟨us, us[i], q, by simp [hl]⟩
  yld := fun i H M x H' _ s k _ y => by
    obtain ⟨us, q, l⟩ := s.seq k
    obtain ⟨rfl, y⟩ := y
    obtain ⟨d, h1, h2⟩ := l.get' (y us q)
    exact ⟨d, h1, h2, Ext.refl, s⟩
  stop := fun H M _ s k => by
    obtain ⟨us, q, l⟩ := s.seq k
    exact ⟨us, q, by rw [l.length]; exact Nat.le_refl _⟩
theorem rep_tupI {K : PySem.W.Frag} {H0 : Hp} {a : Addr} {ds : List D} {us : List V} (q : SqT K H0 a us) (l : RepL K H0 ds us) : ItRep K H0 (Itt K a) ⟨ds, fun _ => True⟩ where
  go := fun i H M e s k hi => by
    have hl : i < us.length := by rw [l.length]; exact hi
    exact ⟨us, us[i], e _ _ q, by simp [hl]⟩
  yld := fun i H M x H' e s k _ y => by
    obtain ⟨rfl, y⟩ := y
    obtain ⟨d, h1, h2⟩ := (RepL.mono e ds l).get' (y us (e _ _ q))
    exact ⟨d, h1, h2, Ext.refl, s⟩
  stop := fun H M e s k => ⟨us, e _ _ q, by rw [l.length]; exact Nat.le_refl _⟩

def rg (lo : Int) (n : Nat) : List D := (List.range n).map fun i => D.int (lo + (i : Nat))
theorem rg_length (lo : Int) (n : Nat) : (rg lo n).length = n := by simp [rg]
theorem rep_range {K : PySem.W.Frag} {H0 : Hp} {lo : Int} {n : Nat} : ItRep K H0 (Itr lo n) ⟨rg lo n, fun _ => True⟩ where
  go := fun i H M e s k hi => by rw [rg_length] at hi; exact hi
  yld := fun i H M x H' e s k hi y => by
    obtain ⟨rfl, rfl⟩ := y
    rw [rg_length] at hi
    exact ⟨.int (lo + (i : Nat)), by simp [rg, hi], rep_of, Ext.refl, s⟩
  stop := fun H M e s k => by rw [rg_length]; exact Nat.le_refl n
def signs (x : Str) : List D := x.cps.toList.map fun c => D.str ⟨#[c]⟩
theorem rep_str {K : PySem.W.Frag} {H0 : Hp} {x : Str} : ItRep K H0 (Its x) ⟨signs x, fun _ => True⟩ where
  go := fun i H M e s k hi => by
    have : (signs x).length = x.cps.size := by simp [signs]
    show i < x.cps.size
    rw [← this]
    exact hi
  yld := fun i H M v H' e s k hi y => by
    obtain ⟨rfl, c, hc, rfl⟩ := y
    refine ⟨.str ⟨#[c]⟩, ?_, rep_of, Ext.refl, s⟩
    simp [signs, List.getElem?_map, hc]
  stop := fun H M e s k => by
    have : (signs x).length = x.cps.size := by simp [signs]
    rw [this]
    exact Nat.le_refl _

/-! for over a list, a tuple, a text -/
def dWalk (te : DE) : DI := fun env M R E => te env M (fun d M1 => match d with
  | .tup ds => R ⟨ds, fun _ => True⟩ M1
  | .v (.str x) => R ⟨signs x, fun _ => True⟩ M1
  | .v (.ref a) => match M1 a with
    | some (.lst ds) => R ⟨ds, fun M => M a = some (.lst ds) ∨ M a = some (.rol ds)⟩ M1
    | some (.rol ds) => R ⟨ds, fun M => M a = some (.lst ds) ∨ M a = some (.rol ds)⟩ M1
    | _ => False
  | _ => False) E
section
variable {X : Cx} {W : WX} {tg e : Expr} {te : DE} {pos p : Pos}
theorem iter_list {pins : List (Addr × Obj)} {σ : L2.St} {H : Hp} {s : Shared} {a : Addr} {us : List V} {R : It → Hp → Prop} (I : Inv X pins σ H s) (h : SqL X.K H a us) (q : R (Itl X.K a) H) : wpAny (model X.prog X.w) X.A (pyIter (.ref a)) (PIE X pins σ tg R) X.xe s := by
  obtain ⟨its, rv, p, hz⟩ := I.list h
  exact wpAny_pyIter_list p.isList (pi_one (tk := s.toks) I _ (turn_list a _) ⟨_, Heap.get?_push_size _ rfl, rfl, rfl⟩ q)
theorem iter_tup {pins : List (Addr × Obj)} {σ : L2.St} {H : Hp} {s : Shared} {a : Addr} {us : List V} {R : It → Hp → Prop} (I : Inv X pins σ H s) (h : SqT X.K H a us) (q : R (Itt X.K a) H) : wpAny (model X.prog X.w) X.A (pyIter (.ref a)) (PIE X pins σ tg R) X.xe s := by
  obtain ⟨its, rv, p, hz⟩ := I.tuple h
  exact wpAny_pyIter_tuple (show s.heap.IsTuple a its.toArray from p) (pi_one (tk := s.toks) I _ (turn_tuple a _) ⟨_, Heap.get?_push_size _ rfl, rfl, rfl⟩ q)
theorem iter_str {pins : List (Addr × Obj)} {σ : L2.St} {H : Hp} {s : Shared} {x : Str} {t : Tok} {R : It → Hp → Prop} (I : Inv X pins σ H s) (q : R (Its x) H) : wpAny (model X.prog X.w) X.A (pyIter (.str x t)) (PIE X pins σ tg R) X.xe s := by
  cases hx : x.cps.all (· < 128) with
  | false => exact wpAny_pyIter_wide hx (pi_one (tk := s.toks) I _ (turn_str _ x t "str_iterator" (.inr rfl)) ⟨_, Heap.get?_push_size _ rfl, rfl, rfl⟩ q)
  | true => exact wpAny_pyIter_ascii hx (pi_one (tk := s.toks) I _ (turn_str _ x t "str_ascii_iterator" (.inl rfl)) ⟨_, Heap.get?_push_size _ rfl, rfl, rfl⟩ q)
theorem xi_walk (he : XE X W e te) : XI X W tg e (dWalk te) := by
  refine ⟨fun env M Q Q' E E' hQ hE => he.mono env M _ _ _ _ (fun d M1 => ?_) hE, ⟨fun pins s σ H R I h => ?_⟩⟩
  · cases d with
    | tup ds => exact hQ _ _
    | v x => cases x with
      | str z => exact hQ _ _
      | ref a =>
        dsimp only
        cases M1 a with
        | none => exact id
        | some o => cases o <;> first | exact id | exact hQ _ _
      | _ => exact id
  · obtain ⟨env, M, re, sm, h⟩ := h
    have q : liftE X.K W te σ H fun u H1 => (∃ a us, u = .ref a ∧ SqL X.K H1 a us ∧ R (Itl X.K a) H1) ∨ (∃ a us, u = .ref a ∧ SqT X.K H1 a us ∧ R (Itt X.K a) H1) ∨ ∃ x, u = .str x ∧ R (Its x) H1 := by
      refine stepE he.mono re sm h (fun d M1 u H1 e1 s1 re1 r1 q => ?_) fun _ _ _ z => z
      split at q
      · obtain ⟨a, us, rfl, q1, l1⟩ := rep_tup r1
        exact .inr (.inl ⟨a, us, rfl, q1, q _ H1 e1 s1 (rep_tupI q1 l1)⟩)
      · exact .inr (.inr ⟨_, rep_v r1, q _ H1 e1 s1 rep_str⟩)
      · split at q <;> first | exact q.elim | skip
        · rename_i hm
          obtain ⟨us, q1, l1⟩ := s1.seq (.inl hm)
          exact .inl ⟨_, us, rep_v r1, q1, q _ H1 e1 s1 rep_list⟩
        · rename_i hm
          obtain ⟨us, q1, l1⟩ := s1.seq (.inr hm)
          exact .inl ⟨_, us, rep_v r1, q1, q _ H1 e1 s1 rep_list⟩
      · exact q.elim
    refine thn (he.pe.run pins s σ H _ I q) fun v s1 ⟨u, H1, I1, r1, q1⟩ => ?_
    rcases q1 with ⟨a, us, rfl, q2, q3⟩ | ⟨a, us, rfl, q2, q3⟩ | ⟨x, rfl, q3⟩
    · obtain rfl : v = Value.ref a := r1
      exact iter_list I1 q2 q3
    · obtain rfl : v = Value.ref a := r1
      exact iter_tup I1 q2 q3
    · obtain ⟨t, rfl⟩ := r1
      exact iter_str I1 q3
def dRange1 (ta : DA) : DI := fun env M R E => ta env M (fun ds M1 => match ds with
  | [.v (.int j)] => (-(2 ^ 62) ≤ j ∧ j < 2 ^ 62) ∧ R ⟨rg 0 j.toNat, fun _ => True⟩ M1
  | _ => False) E
def dRange2 (ta : DA) : DI := fun env M R E => ta env M (fun ds M1 => match ds with
  | [.v (.int i), .v (.int j)] => (-(2 ^ 62) ≤ i ∧ i < 2 ^ 62 ∧ -(2 ^ 62) ≤ j ∧ j < 2 ^ 62) ∧ R ⟨rg i (j - i).toNat, fun _ => True⟩ M1
  | _ => False) E
variable {a b : Expr} {ta : DA}
theorem ran1_mono : ∀ (ds : List D) (M1 : Mem) {Q Q' : DIt → Mem → Prop} (_ : ∀ d M, Q d M → Q' d M), (match ds with
  | [.v (.int j)] => (-(2 ^ 62) ≤ j ∧ j < 2 ^ 62) ∧ Q ⟨rg 0 j.toNat, fun _ => True⟩ M1
  | _ => False) → (match ds with
  | [.v (.int j)] => (-(2 ^ 62) ≤ j ∧ j < 2 ^ 62) ∧ Q' ⟨rg 0 j.toNat, fun _ => True⟩ M1
  | _ => False)
  | [], _, _, _, _ => id
  | [.tup _], _, _, _, _ => id
  | [.v x], _, _, _, hQ => by cases x <;> first | exact id | exact fun h => ⟨h.1, hQ _ _ h.2⟩
  | .v x :: _ :: _, _, _, _, hQ => by cases x <;> exact id
  | .tup _ :: _ :: _, _, _, _, _ => id
theorem xi_range1 (hg : Gl X "range") (hm : X.mg "range" = none) (ha : XA X W [a] ta) (hs : starEach [a] X.env = [(false, eval a X.env)] := by rfl) : XI X W tg (.Call (.Name "range" p) [a] [] pos) (dRange1 ta) := by
  refine ⟨fun env M Q Q' E E' hQ hE => ha.mono env M _ _ _ _ (fun ds M1 => ran1_mono ds M1 hQ) hE, PIw (pi_range1 hg hm ha.pa hs) ?_⟩
  rintro σ H R ⟨env, M, re, s, h⟩
  refine stepA ha.mono re s h (fun ds M1 us H1 e1 s1 re1 r1 q => ?_) fun _ _ _ z => z
  split at q <;> first | exact q.elim | skip
  obtain ⟨u, rfl, q1⟩ := rl1 r1
  rw [rep_v q1]
  exact ⟨_, rfl, q.1.1, q.1.2, q.2 _ H1 e1 s1 rep_range⟩
theorem xi_range2 (hg : Gl X "range") (hm : X.mg "range" = none) (ha : XA X W [a, b] ta) (hs : starEach [a, b] X.env = [(false, eval a X.env), (false, eval b X.env)] := by rfl) (hs2 : starEach [b] X.env = [(false, eval b X.env)] := by rfl) :
    XI X W tg (.Call (.Name "range" p) [a, b] [] pos) (dRange2 ta) := by
  refine ⟨fun env M Q Q' E E' hQ hE h => ?_, PIw (pi_range2 hg hm ha.pa hs hs2) ?_⟩
  · refine ha.mono env M _ _ _ _ (fun ds M1 q => ?_) hE h
    split at q <;> first | exact q.elim | exact ⟨q.1, hQ _ _ q.2⟩
  rintro σ H R ⟨env, M, re, s, h⟩
  refine stepA ha.mono re s h (fun ds M1 us H1 e1 s1 re1 r1 q => ?_) fun _ _ _ z => z
  split at q <;> first | exact q.elim | skip
  obtain ⟨u, v, rfl, q1, q2⟩ := rl2 r1
  rw [rep_v q1, rep_v q2]
  exact ⟨_, _, rfl, q.1, q.2 _ H1 e1 s1 rep_range⟩
end

/-! the for statement: a recursion over the items -/
def dLoop (keep : Mem → Prop) (p : Pat) (tb : DS) (Z : DEnds) : List D → DEnv → Mem → Prop
  | [], env, M => keep M ∧ Z.nx env M
  | x :: r, env, M => keep M ∧ match p.bind M x env with
    | some env1 => tb { Z with nx := dLoop keep p tb Z r, ct := dLoop keep p tb Z r, bk := Z.nx } env1 M
    | none => False
def dFor (ti : DI) (p : Pat) (tb : DS) : DS := fun D env M => ti env M (fun J M1 => dLoop J.keep p tb D J.items env M1) (fun c f M1 => D.ex c f env M1)
theorem dLoop_mono {keep : Mem → Prop} {p : Pat} {tb : DS} (hb : MonoS tb) {Z Z' : DEnds} (l : Z.Le Z') : ∀ (xs : List D) (env : DEnv) (M : Mem), dLoop keep p tb Z xs env M → dLoop keep p tb Z' xs env M
  | [], env, M, h => ⟨h.1, l.nx _ _ h.2⟩
  | x :: r, env, M, h => by
    refine ⟨h.1, ?_⟩
    have h2 := h.2
    split
    · rename_i env1 hb1
      rw [hb1] at h2
      exact hb { Z with nx := dLoop keep p tb Z r, ct := dLoop keep p tb Z r, bk := Z.nx } _ _ _ ⟨dLoop_mono hb l r, l.rt, l.nx, dLoop_mono hb l r, l.ex⟩ h2
    · rename_i hb1
      rw [hb1] at h2
      exact h2
section
variable {X : Cx} {W : WX} {tg iter c : Expr} {body : List Stmt} {ti : DI} {p : Pat} {tb : DS} {tc : DT} {pos : Pos}
theorem xs_for (hp : PassesOwn (model X.prog X.w) X.A X.env X.xe) (hc : X.calm = true) (hi : XI X W tg iter ti) (hg : PG X tg (p.tg X.K)) (hb : XSs X W body tb) (hs : ∀ x, foldedSetIterable iter X.env x = pure x := by intro _; rfl) :
    XS X W (.For tg iter body [] pos) (dFor ti p tb) := by
  refine ⟨fun D D' env M l h => hi.mono _ _ _ _ _ _ (fun J M1 => dLoop_mono hb.mono l _ _ _) (fun c f M1 => l.ex c f _ M1) h, PSw (ps_for hp hc hi.pi hg hb.ps hs) ?_⟩
  rintro D σ H ⟨env, M, re, s, h⟩
  refine ⟨env, M, re, s, hi.mono _ _ _ _ _ _ (fun J M1 q J' H1 e1 s1 ir => ?_) (ends_ex re) h⟩
  refine ⟨fun i m σ' H' => m = J.items.length - i ∧ i ≤ J.items.length ∧ Ext X.K H1 H' ∧ ∃ env M, RepE X.K H' env σ' ∧ Sim X.K H' M ∧ dLoop J.keep p tb (upEnds X.K W H D) (J.items.drop i) env M,
    ⟨J.items.length, by simp, Nat.zero_le _, Ext.refl, env, M1, re.mono e1, s1, by simpa using q⟩, ?_⟩
  rintro i m σ2 H2 ⟨rfl, hi2, e2, env2, M2, re2, s2, q2⟩
  by_cases hlt : i < J.items.length
  · rw [List.drop_eq_getElem_cons hlt] at q2
    obtain ⟨kp, q2⟩ := q2
    refine .inr ⟨ir.go i H2 M2 e2 s2 kp hlt, fun σ' H' => Ext X.K H1 H' ∧ ∃ env M, RepE X.K H' env σ' ∧ Sim X.K H' M ∧ dLoop J.keep p tb (upEnds X.K W H D) (J.items.drop (i + 1)) env M, fun σ' H' n => ⟨_, by omega, rfl, hlt, n⟩, fun x H3 y => ?_⟩
    obtain ⟨d, hd, r3, e3, s3⟩ := ir.yld i H2 M2 x H3 e2 s2 kp hlt y
    rw [List.getElem?_eq_getElem hlt] at hd
    obtain rfl := Option.some.inj hd
    split at q2
    · rename_i env3 hb3
      obtain ⟨σ3, h1, _, h3⟩ := Pat.rep s3 p.slots p r3 (re2.mono e3) hb3 (fun _ h => h)
      refine h3 _ ⟨env3, M2, h1, s3, hb.mono _ _ _ _ ⟨?_, ?_, ?_, ?_, ?_⟩ q2⟩
      · exact fun env4 M4 n σ4 H4 e4 s4 re4 => ⟨(e2.trans e3).trans e4, env4, M4, re4, s4, n⟩
      · exact upK_mono ((e1.trans e2).trans e3)
      · exact upN_mono ((e1.trans e2).trans e3)
      · exact fun env4 M4 n σ4 H4 e4 s4 re4 => ⟨(e2.trans e3).trans e4, env4, M4, re4, s4, n⟩
      · exact fun c f env4 M4 n d σ4 H4 e4 s4 re4 x4 => n d σ4 H4 (((e1.trans e2).trans e3).trans e4) s4 re4 x4
    · exact q2.elim
  · have e : i = J.items.length := by omega
    subst e
    rw [List.drop_length] at q2
    exact .inl ⟨ir.stop H2 M2 e2 s2 q2.1, q2.2 σ2 H2 (e1.trans e2) s2 re2⟩

/-! while: some number of turns is enough -/
def dWhileN (tc : DT) (tb : DS) (D : DEnds) : Nat → DEnv → Mem → Prop
  | 0, _, _ => False
  | n + 1, env, M => tc env M (fun b M1 => if b = true then tb { D with nx := dWhileN tc tb D n, ct := dWhileN tc tb D n, bk := D.nx } env M1 else D.nx env M1) (fun c f M1 => D.ex c f env M1)
def dWhile (tc : DT) (tb : DS) : DS := fun D env M => ∃ n, dWhileN tc tb D n env M
theorem dWhileN_mono {tc : DT} {tb : DS} (hc : MonoT tc) (hb : MonoS tb) {D D' : DEnds} (l : D.Le D') : ∀ (n : Nat) (env : DEnv) (M : Mem), dWhileN tc tb D n env M → dWhileN tc tb D' n env M
  | 0, _, _, h => h
  | n + 1, env, M, h => by
    refine hc _ _ _ _ _ _ (fun b M1 => ?_) (fun c f M1 => l.ex c f _ M1) h
    cases b with
    | true => rw [if_pos rfl, if_pos rfl]; exact hb _ _ _ _ ⟨dWhileN_mono hc hb l n, l.rt, l.nx, dWhileN_mono hc hb l n, l.ex⟩
    | false => rw [if_neg Bool.false_ne_true, if_neg Bool.false_ne_true]; exact l.nx _ _
theorem xs_while (hp : PassesOwn (model X.prog X.w) X.A X.env X.xe) (hc : XT X W c tc) (hb : XSs X W body tb) : XS X W (.While c body [] pos) (dWhile tc tb) := by
  refine ⟨fun D D' env M l h => h.imp fun n => dWhileN_mono hc.mono hb.mono l n env M, PSw (ps_while hp hc.pt hb.ps) ?_⟩
  rintro D σ H ⟨env, M, re, s, n, h⟩
  refine ⟨fun m σ' H' => Ext X.K H H' ∧ ∃ env M, RepE X.K H' env σ' ∧ Sim X.K H' M ∧ dWhileN tc tb (upEnds X.K W H D) m env M, ⟨n, Ext.refl, env, M, re, s, h⟩, ?_⟩
  rintro m σ1 H1 ⟨e1, env1, M1, re1, s1, h1⟩
  match m, h1 with
  | m + 1, h1 =>
    refine stepT hc.mono re1 s1 h1 (fun b M2 H2 e2 s2 re2 q => ?_) fun c f M' z d H' e s' r => z d σ1 H' (e1.trans e) s' (re1.mono e) r
    cases b with
    | true =>
      rw [if_pos rfl] at q ⊢
      refine ⟨fun σ' H' => Ext X.K H H' ∧ ∃ env M, RepE X.K H' env σ' ∧ Sim X.K H' M ∧ dWhileN tc tb (upEnds X.K W H D) m env M, fun σ' H' z => ⟨m, Nat.lt_succ_self _, z⟩, env1, M2, re2, s2, hb.mono _ _ _ _ ⟨?_, ?_, ?_, ?_, ?_⟩ q⟩
      · exact fun env4 M4 n σ4 H4 e4 s4 re4 => ⟨(e1.trans e2).trans e4, env4, M4, re4, s4, n⟩
      · exact upK_mono (e1.trans e2)
      · exact upN_mono (e1.trans e2)
      · exact fun env4 M4 n σ4 H4 e4 s4 re4 => ⟨(e1.trans e2).trans e4, env4, M4, re4, s4, n⟩
      · exact fun c f env4 M4 n d σ4 H4 e4 s4 re4 x4 => n d σ4 H4 ((e1.trans e2).trans e4) s4 re4 x4
    | false =>
      rw [if_neg Bool.false_ne_true] at q ⊢
      exact q σ1 H2 (e1.trans e2) s2 re2
end
end PL

namespace PL
open PySem PySem.Spec PyProof.Rows L2

/-! list comprehensions -/
def wipeD (env : DEnv) : List Nat → DEnv
  | [] => env
  | v :: vs => (wipeD env vs).set v none
theorem RepE.clear {K : PySem.W.Frag} {H : Hp} {env : DEnv} {σ : L2.St} (r : RepE K H env σ) (v : Nat) : RepE K H (env.set v none) (σ.set v none) := by
  refine ⟨by simp [r.1], fun i d q => ?_⟩
  by_cases hj : v = i
  · subst hj
    by_cases hi : v < env.length
    · rw [List.getElem?_set_self hi] at q; cases q
    · rw [List.getElem?_eq_none (by simpa using hi)] at q; cases q
  · rw [List.getElem?_set_ne hj] at q ⊢
    exact r.2 i d q
theorem RepE.wipe {K : PySem.W.Frag} {H : Hp} {env : DEnv} {σ : L2.St} (r : RepE K H env σ) : ∀ vs : List Nat, RepE K H (wipeD env vs) (L2.wipe σ vs)
  | [] => r
  | v :: vs => (r.wipe vs).clear v
theorem wipe_wipe {σ : L2.St} : ∀ vs : List Nat, L2.wipe (L2.wipe σ vs) vs = L2.wipe σ vs := by
  have comm : ∀ (vs : List Nat) (σ : L2.St) (v : Nat), L2.wipe (σ.set v none) vs = (L2.wipe σ vs).set v none := by
    intro vs
    induction vs with
    | nil => intro σ v; rfl
    | cons w ws ih =>
      intro σ v
      show (L2.wipe (σ.set v none) ws).set w none = ((L2.wipe σ ws).set w none).set v none
      rw [ih]
      by_cases e : v = w
      · subst e; rfl
      · rw [List.set_comm _ _ e]
  intro vs
  induction vs with
  | nil => rfl
  | cons v vs ih =>
    show (L2.wipe ((L2.wipe σ vs).set v none) vs).set v none = (L2.wipe σ vs).set v none
    rw [comm, ih, List.set_set]
abbrev noX : DX := fun _ _ _ => False
/-- a: the new list; the items, what is made so far -/
def dLcGo (keep : Mem → Prop) (p : Pat) (tt : DT) (te : DE) (env : DEnv) (a : Addr) (Q : DK) : List D → List D → Mem → Prop
  | [], acc, M => keep M ∧ M a = some (.lst acc) ∧ Q (.ob a) M
  | x :: r, acc, M => keep M ∧ match p.bind M x env with
    | some env1 => tt env1 M (fun b M2 => if b = true then te env1 M2 (fun y M3 => M3 a = some (.lst acc) ∧ acc.length < sizeLine ∧ dLcGo keep p tt te env a Q r (acc ++ [y]) (mupd M3 a (.lst (acc ++ [y])))) noX else dLcGo keep p tt te env a Q r acc M2) noX
    | none => False
def dLc (ti : DI) (p : Pat) (tt : DT) (te : DE) (vs : List Nat) : DE := fun env M Q E => ti env M (fun J M1 => ∀ a, M1 a = none → dLcGo J.keep p tt te (wipeD env vs) a Q J.items [] (mupd M1 a (.lst []))) E
def dYes : DT := fun _ M Q _ => Q true M
theorem dYes_mono : MonoT dYes := fun _ _ _ _ _ _ hQ _ h => hQ _ _ h
theorem dLcGo_mono {keep : Mem → Prop} {p : Pat} {tt : DT} {te : DE} (ht : MonoT tt) (he : MonoE te) {env : DEnv} {a : Addr} {Q Q' : DK} (hQ : ∀ d M, Q d M → Q' d M) : ∀ (xs acc : List D) (M : Mem), dLcGo keep p tt te env a Q xs acc M → dLcGo keep p tt te env a Q' xs acc M
  | [], acc, M, h => ⟨h.1, h.2.1, hQ _ _ h.2.2⟩
  | x :: r, acc, M, h => by
    refine ⟨h.1, ?_⟩
    have h2 := h.2
    split
    · rename_i env1 hb1
      rw [hb1] at h2
      refine ht _ _ _ _ _ _ (fun b M2 => ?_) (fun _ _ _ z => z) h2
      cases b with
      | true =>
        rw [if_pos rfl, if_pos rfl]
        exact he _ _ _ _ _ _ (fun y M3 z => ⟨z.1, z.2.1, dLcGo_mono ht he hQ r _ _ z.2.2⟩) (fun _ _ _ z => z)
      | false =>
        rw [if_neg Bool.false_ne_true, if_neg Bool.false_ne_true]
        exact dLcGo_mono ht he hQ r _ _
    · rename_i hb1
      rw [hb1] at h2
      exact h2
abbrev W0 : WX := fun _ _ _ _ => False
structure XTs (X : Cx) (W : WX) (es : List Expr) (t : DT) : Prop where
  mono : MonoT t
  pts : PTs X es (liftT X.K W t)
theorem xts_nil {X : Cx} {W : WX} : XTs X W [] dYes := by
  refine ⟨dYes_mono, ⟨fun pins s σ H Q I h => ?_⟩⟩
  obtain ⟨env, M, re, sm, h⟩ := h
  exact pts_nil.run pins s σ H Q I (h H Ext.refl sm)
theorem xts_one {X : Cx} {W : WX} {c : Expr} {t : DT} (h : XT X W c t) : XTs X W [c] t := ⟨h.mono, pts_one h.pt⟩

section
variable {X : Cx} {W : WX} {elt tg iter : Expr} {ifs : List Expr} {scope : Scope} {own : List (Str × Nat)} {pos : Pos} {ti : DI} {p : Pat} {tt : DT} {te : DE}
theorem lc_up (hi : XI X W tg iter ti) (mt : MonoT tt) (me : MonoE te) (vs : List Nat) (hv : ∀ i ∈ p.slots, i ∈ vs) : ∀ σ H Q, liftE X.K W (dLc ti p tt te vs) σ H Q → tLc (liftI X.K W ti) (p.tg X.K) (liftT X.K W0 tt) (liftE X.K W0 te) vs σ H Q := by
  rintro σ H Q ⟨env, M, re, s, h⟩
  refine ⟨env, M, re, s, hi.mono _ _ _ _ _ _ (fun J M1 q J' H1 e1 s1 ir => ?_) (fun _ _ _ z => z) h⟩
  intro a ha
  have q := q a (s1.free ha)
  have sA : Sim X.K (upd H1 a (.lst [])) (mupd M1 a (.lst [])) := s1.new ha (repO_lst (Ext.new ha) .nil)
  have eA : Ext X.K H1 (upd H1 a (.lst [])) := Ext.new ha
  refine ⟨fun i m H' => m = J.items.length - i ∧ i ≤ J.items.length ∧ Ext X.K H1 H' ∧ ∃ M acc, Sim X.K H' M ∧ dLcGo J.keep p tt te (wipeD env vs) a (upK X.K H Q) (J.items.drop i) acc M,
    ⟨J.items.length, by simp, Nat.zero_le _, eA, _, [], sA, by simpa using q⟩, ?_⟩
  rintro i m H2 ⟨rfl, hi2, e2, M2, acc, s2, q2⟩
  by_cases hlt : i < J.items.length
  · rw [List.drop_eq_getElem_cons hlt] at q2
    obtain ⟨kp, q2⟩ := q2
    refine .inr ⟨ir.go i H2 M2 e2 s2 kp hlt, fun H' => Ext X.K H1 H' ∧ ∃ M acc, Sim X.K H' M ∧ dLcGo J.keep p tt te (wipeD env vs) a (upK X.K H Q) (J.items.drop (i + 1)) acc M, fun H' n => ⟨_, by omega, rfl, hlt, n⟩, fun x H3 y => ?_⟩
    obtain ⟨d, hd, r3, e3, s3⟩ := ir.yld i H2 M2 x H3 e2 s2 kp hlt y
    rw [List.getElem?_eq_getElem hlt] at hd
    obtain rfl := Option.some.inj hd
    split at q2
    · rename_i env3 hb3
      have re3 : RepE X.K H3 (wipeD env vs) (L2.wipe σ vs) := (re.mono ((e1.trans e2).trans e3)).wipe vs
      obtain ⟨σ3, h1, hw, h3⟩ := Pat.rep s3 vs p r3 re3 hb3 hv
      refine h3 _ ⟨hw.trans (wipe_wipe vs), ?_⟩
      refine stepT mt h1 s3 q2 (fun b M4 H4 e4 s4 re4 q4 => ?_) fun _ _ _ z => z.elim
      cases b with
      | true =>
        rw [if_pos rfl] at q4 ⊢
        refine stepE me re4 s4 q4 (fun y M5 u H5 e5 s5 re5 r5 q5 => ?_) fun _ _ _ z => z.elim
        obtain ⟨ma5, lz, q5⟩ := q5
        obtain ⟨us, h5, l5⟩ := s5.lst ma5
        have ex : Ext X.K H5 (upd H5 a (.lst (us ++ [u]))) := Ext.mut h5 True.intro
        refine ⟨us, h5, by rw [l5.length]; exact lz, (((e2.trans e3).trans e4).trans e5).trans ex, _, _, s5.put h5 True.intro (repO_lst ex (RepL.append l5 (.cons r5 .nil))), q5⟩
      | false =>
        rw [if_neg Bool.false_ne_true] at q4 ⊢
        exact ⟨(e2.trans e3).trans e4, M4, acc, s4, q4⟩
    · exact q2.elim
  · have e : i = J.items.length := by omega
    subst e
    rw [List.drop_length] at q2
    exact .inl ⟨ir.stop H2 M2 e2 s2 q2.1, q2.2.2 (.ref a) H2 (e1.trans e2) s2 rep_of⟩
theorem dLc_mono {vs : List Nat} (hi : MonoI ti) (mt : MonoT tt) (me : MonoE te) : MonoE (dLc ti p tt te vs) := fun env M Q Q' E E' hQ hE => hi _ _ _ _ _ _ (fun J M1 q a ha => dLcGo_mono mt me hQ _ _ _ (q a ha)) hE
abbrev BlkAll (X : Cx) (scope : Scope) (P : Cx → Prop) : Prop := ∀ (s : Shared) (H : Hp) (C : Addr) (cl : List (Str × Addr)) (fp : List Addr), P (X.blk s H scope (compEnvC scope cl C X.env) fp)
theorem xe_lc (hc : X.calm = true) (hN : X.N.Nodup) (hi : XI X W tg iter ti) (ok : BlkOk X.N X.env.scope scope own) (hg : BlkAll X scope fun Y => PG Y tg (p.tg X.K)) (ht : BlkAll X scope fun Y => XTs Y W0 ifs tt) (he : BlkAll X scope fun Y => XE Y W0 elt te)
    (hv : p.slots.all (fun i => decide (i ∈ own.map (·.2))) = true := by decide) (hs : ∀ x, foldedSetIterable iter X.env x = pure x := by intro _; rfl) : XE X W (.ListComp elt [⟨tg, iter, ifs, 0⟩] scope pos) (dLc ti p tt te (own.map (·.2))) := by
  have mt := (ht X.s_0 X.H_0 0 [] []).mono
  have me := (he X.s_0 X.H_0 0 [] []).mono
  refine ⟨dLc_mono hi.mono mt me, PEw (pe_lc (g := p.tg X.K) (tt := liftT X.K W0 tt) (te := liftE X.K W0 te) hc hN hi.pi ok hg (fun s H C cl fp => (ht s H C cl fp).pts) (fun s H C cl fp => (he s H C cl fp).pe) hs) (lc_up hi mt me _ fun i h => ?_)⟩
  exact of_decide_eq_true (List.all_eq_true.mp hv i h)
theorem xs_setLc (i : Nat) {y : Str} {py : Pos} {spos : Pos} (hc : X.calm = true) (hN : X.N.Nodup) (hyl : X.env.scope.names.lookup y = some .local) (hsw : swapsWith (.ListComp elt [⟨tg, iter, ifs, 0⟩] scope pos) (some (.Name y py)) spos.line X.env = pure true)
    (hi : XI X W tg iter ti) (ok : BlkOk X.N X.env.scope scope own) (hg : BlkAll X scope fun Y => PG Y tg (p.tg X.K)) (ht : BlkAll X scope fun Y => XTs Y W0 ifs tt) (he : BlkAll X scope fun Y => XE Y W0 elt te)
    (hy : X.N[i]? = some y := by rfl) (hv : p.slots.all (fun i => decide (i ∈ own.map (·.2))) = true := by decide) (hs : ∀ x, foldedSetIterable iter X.env x = pure x := by intro _; rfl) :
    XS X W (.Assign [.Name y py] (.ListComp elt [⟨tg, iter, ifs, 0⟩] scope pos) spos) (dAsg (dLc ti p tt te (own.map (·.2))) (.nm i)) := by
  have mt := (ht X.s_0 X.H_0 0 [] []).mono
  have me := (he X.s_0 X.H_0 0 [] []).mono
  have ml := dLc_mono (p := p) (vs := own.map (·.2)) hi.mono mt me
  refine ⟨dAsg_mono ml, PSw (ps_setLc (g := p.tg X.K) (tt := liftT X.K W0 tt) (te := liftE X.K W0 te) hc hN hy hyl hsw hi.pi ok hg (fun s H C cl fp => (ht s H C cl fp).pts) (fun s H C cl fp => (he s H C cl fp).pe) hs) ?_⟩
  rintro D σ H ⟨env, M, re, s, h⟩
  refine lc_up hi mt me _ (fun i h => of_decide_eq_true (List.all_eq_true.mp hv i h)) σ H _ (stepE ml re s h (fun d M1 u H1 e1 s1 re1 r1 q => ?_) (ends_ex re))
  exact q (σ.set i (some u)) H1 e1 s1 (re1.set r1 i)
end
end PL

namespace PL
open PySem PySem.Spec PyProof.Rows L2

/-! a def's body -/
abbrev bx (P : Program) (w : World) (K : PySem.W.Frag) (mg : Str → Option Value) (base : Heap) (N : List Str) (qual : Str) (st : Stmt) (f : Addr) (cdv : Value) (A : Around) (outer : List Env) (s : Shared) (H : Hp) (E : XK) : Cx :=
  cxOf (L2.CX P w) P w K mg base N qual (defScope st) f cdv A outer s H E
abbrev bW (E : XK) : WX := fun cls d _ H => E cls d H
theorem bx_takes {P : Program} {w : World} {K : PySem.W.Frag} {mg : Str → Option Value} {base : Heap} {N : List Str} {qual : Str} {st : Stmt} {f : Addr} {cdv : Value} {A : Around} {outer : List Env} {s : Shared} {H : Hp} {E : XK} : Takes (bx P w K mg base N qual st f cdv A outer s H E) (bW E) := takes_of rfl rfl rfl rfl
theorem bx_passes {P : Program} {w : World} {K : PySem.W.Frag} {mg : Str → Option Value} {base : Heap} {N : List Str} {qual : Str} {st : Stmt} {f : Addr} {cdv : Value} {A : Around} {outer : List Env} {s : Shared} {H : Hp} {E : XK} :
    PassesOwn (model (bx P w K mg base N qual st f cdv A outer s H E).prog (bx P w K mg base N qual st f cdv A outer s H E).w) (bx P w K mg base N qual st f cdv A outer s H E).A (bx P w K mg base N qual st f cdv A outer s H E).env (bx P w K mg base N qual st f cdv A outer s H E).xe := passes_of rfl
def startD (N : List Str) (ds : List D) : DEnv := ds.map some ++ List.replicate (N.length - ds.length) none
theorem rep_start {K : PySem.W.Frag} {H : Hp} {N : List Str} {ds : List D} {vs : List V} (r : RepL K H ds vs) : RepE K H (startD N ds) (L2.start N vs) := by
  refine ⟨by simp [startD, L2.start, r.length], fun i d h => ?_⟩
  have hi : i < ds.length := by
    by_cases hi : i < ds.length
    · exact hi
    · unfold startD at h
      rw [List.getElem?_append_right (by simpa using hi), List.getElem?_replicate] at h
      split at h <;> cases h
  unfold startD at h
  rw [List.getElem?_append_left (by simpa using hi), List.getElem?_map] at h
  cases e : ds[i]? with
  | none => rw [e] at h; cases h
  | some d' =>
    rw [e] at h
    cases h
    obtain ⟨u, h1, h2⟩ := r.get e
    refine ⟨u, ?_, h2⟩
    unfold L2.start
    rw [List.getElem?_append_left (by simpa [r.length] using hi), List.getElem?_map, h1]
    rfl
def retEnds (Q : DK) (E : DX) : DEnds := { nx := fun _ M' => Q .non M', rt := Q, ex := fun c fs _ M' => E c fs M' }
theorem fn_ok {P : Program} {w : World} {K : PySem.W.Frag} {mg : Str → Option Value} {base : Heap} {x qual : Str} {st : Stmt} {f : Addr} {fd : FuncData} {N ps : List Str} {k : Nat} {sp : DSp} (F : Fun K x qual st f fd) (S : FnScope N ps (defScope st))
    (len : ∀ ds M Q E, sp ds M Q E → ds.length = ps.length)
    (hb : ∃ t : DS, (∀ cdv A outer s H E, Room k (A.deeper (envOfC qual (defScope st) s.heap.objs.size f cdv)) → XSs (bx P w K mg base N qual st f cdv A outer s H E) (bW E) (defBody st) t) ∧
      ∀ ds M Q E, sp ds M Q E → t (retEnds Q E) (startD N ds) M) : FnOk P w K mg base (L2.CX P w) (k + 1) f fd ps (liftSp K sp) := by
  obtain ⟨t, ht, hq⟩ := hb
  refine F.okX S (fun vs H Q E h => ?_) (fun cdv A outer s H vs Q E hr h => ?_)
  · obtain ⟨ds, M, r, _, h⟩ := h
    rw [r.length]
    exact len _ _ _ _ h
  · obtain ⟨ds, M, r, sm, h⟩ := h
    refine ⟨_, (ht cdv A outer s H E hr).ps, startD N ds, M, rep_start r, sm, (ht cdv A outer s H E hr).mono _ _ _ _ ⟨?_, ?_, ?_, ?_, ?_⟩ (hq _ _ _ _ h)⟩
    · exact fun e M' q σ' H' e' s' _ => q .non H' e' s' rep_of
    · exact fun d M' q => q
    · exact fun e M' q => q.elim
    · exact fun e M' q => q.elim
    · exact fun c fs e M' q d σ' H' e' s' _ x => q d H' e' s' x
theorem _root_.L2.Room.u200 {k : Nat} {A : Around} (r : Room k A) : A.units + 200 < cLine := by have := r.un; omega
theorem mkFn {P : Program} {w : World} {K : PySem.W.Frag} {mg : Str → Option Value} {base : Heap} {x : Str} {f : Addr} {fd : FuncData} {ps : List Str} {k : Nat} {sp : DSp} (m : MonoSp sp) (F : FnOk P w K mg base (L2.CX P w) k f fd ps (liftSp K sp)) (hm : mg x = some (.ref f))
    (hk : PySem.W.keepIn K (.ref f) = true) (hb : Binds K fd ps []) : Fn P w K mg base k x sp [] := ⟨m, f, fd, ps, [], [], F, hm, hk, hb, .nil, fun _ => .nil⟩

theorem xe_globE {X : Cx} {W : WX} {x : Str} {v : V} {pos : Pos} (hg : Gl X x) (h : ∃ u, X.mg x = some u ∧ RelV v u) (hd : (x == ("__debug__" : Str)) = false := by decide) : XE X W (.Name x pos) (dC (.v v)) := by
  obtain ⟨u, hm, r⟩ := h
  exact xe_glob hg hm r hd

/-! raise -/
def dRaise (c : Value) (fs : List (Str × D)) : DS := fun Z env M => Z.ex c fs env M
section
variable {X : Cx} {W : WX} {pos : Pos}
theorem xs_raise0 {C : Addr} {e : Expr} (hc : X.calm = true) (tk : Takes X W) (h : PMk X e (fun _ H Q => Q (.ref C) none H)) : XS X W (.Raise (some e) none pos) (dRaise (.ref C) []) := by
  refine ⟨fun D D' env M l h => l.ex _ _ _ _ h, PSw (ps_raise hc tk h) ?_⟩
  rintro D σ H ⟨env, M, re, s, q⟩
  exact q none σ H Ext.refl s re rfl

/-! try: .. except C as n: .. -/
def suiteEnds (i : Nat) (Z : DEnds) : DEnds where
  nx := fun e' => Z.nx (e'.set i none)
  rt := Z.rt
  bk := fun e' => Z.bk (e'.set i none)
  ct := fun e' => Z.ct (e'.set i none)
theorem suiteEnds_le {i : Nat} {Z Z' : DEnds} (l : Z.Le Z') : (suiteEnds i Z).Le (suiteEnds i Z') := ⟨fun _ _ => l.nx _ _, l.rt, fun _ _ => l.bk _ _, fun _ _ => l.ct _ _, fun _ _ _ _ h => h⟩
def exTry (hd : Value → Option Bool) (i : Nat) (ts : Addr → Value → DS) (Z : DEnds) : Value → List (Str × D) → DEnv → Mem → Prop := fun c fs e M' => match hd c with
  | some true => fs = [] ∧ ∀ a, M' a = none → ts a c (suiteEnds i Z) (e.set i (some (.ob a))) M'
  | some false => Z.ex c fs e M'
  | none => False
theorem exTry_mono {hd : Value → Option Bool} {i : Nat} {ts : Addr → Value → DS} (mt : ∀ a c, MonoS (ts a c)) {Z Z' : DEnds} (l : Z.Le Z') : ∀ c fs e M', exTry hd i ts Z c fs e M' → exTry hd i ts Z' c fs e M' := fun c fs e M' q => by
  unfold exTry at q ⊢
  cases hq : hd c with
  | none => rw [hq] at q; exact q
  | some b =>
    rw [hq] at q
    cases b with
    | true => exact ⟨q.1, fun a ha => mt _ _ _ _ _ _ (suiteEnds_le l) (q.2 a ha)⟩
    | false => exact l.ex _ _ _ _ q
def dTryAs (hd : Value → Option Bool) (i : Nat) (tb : DS) (ts : Addr → Value → DS) : DS := fun Z env M => tb { Z with ex := exTry hd i ts Z } env M
theorem xs_tryAs {x n : Str} {c : Value} (i : Nat) {body suite : List Stmt} {b₀ : Stmt} {np pos' : Pos} {tb : DS} {ts : Addr → Value → DS} (hs : X.stack = X.env :: X.outer) (hf : X.env.frame = some X.env.locals) (hN : X.N.Nodup) (hln : X.env.kindOf n = some .local) (hc : Names X x c) (tk : Takes X W)
    (mt : ∀ a c, MonoS (ts a c)) (hb : ∀ (W : WX) (pn : List (Addr × Obj)) (xe : Value → Shared → Prop), Takes (X.tr pn xe) W → PassesOwn (model X.prog X.w) X.A X.env xe → XSs (X.tr pn xe) W body tb)
    (hsu : ∀ (a : Addr) (oe : Obj) (cls : Value) (pn : List (Addr × Obj)), Zc cls none oe → (∃ vs, oe.data = .fields vs) → XSs (X.suite a ((a, oe) :: pn)) W0 (b₀ :: suite) (ts a cls)) (mb : MonoS tb) (hi : X.N[i]? = some n := by rfl) :
    XS X W (.Try body [.ExceptHandler (some (.Name x np)) (some n) (b₀ :: suite) pos'] [] [] pos) (dTryAs (fun z => PySem.W.exmOne X.K z c) i tb ts) := by
  refine ⟨fun Z Z' env M l h => mb { Z with ex := exTry _ i ts Z } _ _ _ ⟨l.nx, l.rt, l.bk, l.ct, exTry_mono mt l⟩ h, PSw (ps_try_as (tb := fun W' => liftS X.K W' tb) (ts := fun a cls d D σ H => d = none ∧ liftS X.K W0 (ts a cls) D σ H) hs hf hN hi hln hc tk (fun W' pn xe t p => (hb W' pn xe t p).ps) fun a oe cls d pn hz hv => ?_) ?_⟩
  · refine ⟨fun pins s σ H D I h => ?_⟩
    obtain ⟨rfl, h⟩ := h
    exact (hsu a oe cls pn hz hv).ps.run pins s σ H D I h
  · rintro D σ H ⟨env, M, re, s, h⟩
    refine ⟨env, M, re, s, mb { upEnds X.K W H D with ex := exTry (fun z => PySem.W.exmOne X.K z c) i ts (upEnds X.K W H D) } _ _ _ ⟨fun _ _ q => q, fun _ _ q => q, fun _ _ q => q, fun _ _ q => q, fun c' fs e M' q d σ' H' e' s' re' rx => ?_⟩ h⟩
    have q : exTry (fun z => PySem.W.exmOne X.K z c) i ts (upEnds X.K W H D) c' fs e M' := q
    unfold exTry at q
    dsimp only at q
    cases hq : PySem.W.exmOne X.K c' c with
    | none => rw [hq] at q; exact q.elim
    | some b =>
      rw [hq] at q
      refine ⟨b, hq, ?_, ?_⟩
      · rintro rfl a ha
        obtain ⟨hfs, q⟩ := q
        have hd : d = none := by
          cases d with
          | none => rfl
          | some d => exact absurd hfs rx.1
        refine ⟨hd, e.set i (some (.ob a)), M', re'.set rep_of i, s', mt _ _ (suiteEnds i (upEnds X.K W H D)) _ _ _ ⟨?_, ?_, ?_, ?_, ?_⟩ (q a (s'.free ha))⟩
        · exact fun e2 M2 z σ2 H2 x2 s2 r2 => z (σ2.set i none) H2 (e'.trans x2) s2 (r2.clear i)
        · exact fun d2 M2 z u2 H2 x2 s2 r2 => z u2 H2 (e'.trans x2) s2 r2
        · exact fun e2 M2 z σ2 H2 x2 s2 r2 => z (σ2.set i none) H2 (e'.trans x2) s2 (r2.clear i)
        · exact fun e2 M2 z σ2 H2 x2 s2 r2 => z (σ2.set i none) H2 (e'.trans x2) s2 (r2.clear i)
        · exact fun c f e2 M2 z => z.elim
      · rintro rfl
        exact q d σ' H' e' s' re' rx
end
end PL

namespace PL
open PySem PySem.Spec PyProof.Rows L2

/-! stepping: each rule fires only where a reading has all its arguments -/
def DEnds.to (Z : DEnds) (n : DEnv → Mem → Prop) : DEnds := { Z with nx := n }
def DEnds.lp (Z : DEnds) (n : DEnv → Mem → Prop) : DEnds := { Z with nx := n, ct := n, bk := Z.nx }
def exK (Z : DEnds) (env : DEnv) : DX := fun c f M => Z.ex c f env M
def bifM (b : Bool) (f g : Mem → Prop) (M : Mem) : Prop := if b = true then f M else g M
def optB (b : Option Bool) (Q : Bool → Mem → Prop) (M : Mem) : Prop := match b with
  | some b => Q b M
  | none => False
def optE (e : Option DEnv) (Q : DEnv → Mem → Prop) (M : Mem) : Prop := match e with
  | some e => Q e M
  | none => False
def nxD (Z : DEnds) (env : DEnv) : DK := fun _ M => Z.nx env M
def ifK (t u : DS) (Z : DEnds) (env : DEnv) : Bool → Mem → Prop := fun b M => bifM b (t Z env) (u Z env) M
def asgK (p : Pat) (Z : DEnds) (env : DEnv) : DK := fun d M => optE (p.bind M d env) Z.nx M
def putK3 (o z : D) (Z : DEnds) (env : DEnv) : DK := fun i M => (opPut o i z M).run M (nxD Z env)
def putK2 (ti : DE) (z : D) (Z : DEnds) (env : DEnv) : DK := fun o M => ti env M (putK3 o z Z env) (exK Z env)
def putK1 (to ti : DE) (Z : DEnds) (env : DEnv) : DK := fun z M => to env M (putK2 ti z Z env) (exK Z env)
def augK2 (i : Nat) (Z : DEnds) (env : DEnv) : DK := fun z M => Z.nx (env.set i (some z)) M
def augK (i : Nat) (r : DOp2) (x : D) (Z : DEnds) (env : DEnv) : DK := fun y M => (r x y M).run M (augK2 i Z env)
def augV (i : Nat) (r : DOp2) (te : DE) (Z : DEnds) (env : DEnv) (M : Mem) : Option (Option D) → Prop
  | some (some x) => te env M (augK i r x Z env) (exK Z env)
  | _ => False
def varK (M : Mem) (Q : DK) : Option (Option D) → Prop
  | some (some x) => Q x M
  | _ => False
def binK2 (r : DOp2) (x : D) (Q : DK) : DK := fun y M => (r x y M).run M Q
def binK1 (r : DOp2) (tb : DE) (env : DEnv) (Q : DK) (E : DX) : DK := fun x M => tb env M (binK2 r x Q) E
def cbK (r : DCall) (Q : DK) : List D → Mem → Prop := fun ds M => (r ds M).run M Q
def callK (sp : DSp) (dvs : List D) (Q : DK) (E : DX) : List D → Mem → Prop := fun ds M => sp (ds ++ dvs) M Q E
def mK2 (r : DMeth) (x : D) (Q : DK) : List D → Mem → Prop := fun ds M => (r x ds M).run M Q
def mK1 (T : String) (r : DMeth) (t : DA) (env : DEnv) (Q : DK) (E : DX) : DK := fun x M => isTy T x M ∧ t env M (mK2 r x Q) E
def consK2 (d : D) (Q : List D → Mem → Prop) : List D → Mem → Prop := fun ds M => Q (d :: ds) M
def consK1 (tr : DA) (env : DEnv) (Q : List D → Mem → Prop) (E : DX) : DK := fun d M => tr env M (consK2 d Q) E
def tupK (n : Nat) (Q : DK) : List D → Mem → Prop := fun ds M => ds.length = n ∧ Q (.tup ds) M
def lstK (n : Nat) (Q : DK) : List D → Mem → Prop := fun ds M => ds.length = n ∧ (Res.new True (.lst ds)).run M Q
def trK (Q : Bool → Mem → Prop) : DK := fun d M => optB (truth M d) Q M
def tK (u : DT) (env : DEnv) (Q : Bool → Mem → Prop) (E : DX) : Mem → Prop := fun M => u env M Q E
def eK (u : DE) (env : DEnv) (Q : DK) (E : DX) : Mem → Prop := fun M => u env M Q E
def cK {α : Type} (x : α) (Q : α → Mem → Prop) : Mem → Prop := fun M => Q x M
def andK (u : DT) (env : DEnv) (Q : Bool → Mem → Prop) (E : DX) : Bool → Mem → Prop := fun b M => bifM b (tK u env Q E) (cK false Q) M
def orK (u : DT) (env : DEnv) (Q : Bool → Mem → Prop) (E : DX) : Bool → Mem → Prop := fun b M => bifM b (cK true Q) (tK u env Q E) M
def notK (Q : Bool → Mem → Prop) : Bool → Mem → Prop := fun b M => Q (!b) M
def ifeK (ta tb : DE) (env : DEnv) (Q : DK) (E : DX) : Bool → Mem → Prop := fun b M => bifM b (eK ta env Q E) (eK tb env Q E) M
def andvK2 (d : D) (tb : DE) (env : DEnv) (Q : DK) (E : DX) : Bool → Mem → Prop := fun b M => bifM b (eK tb env Q E) (cK d Q) M
def orvK2 (d : D) (tb : DE) (env : DEnv) (Q : DK) (E : DX) : Bool → Mem → Prop := fun b M => bifM b (cK d Q) (eK tb env Q E) M
def andvK (tb : DE) (env : DEnv) (Q : DK) (E : DX) : DK := fun d M => optB (truth M d) (andvK2 d tb env Q E) M
def orvK (tb : DE) (env : DEnv) (Q : DK) (E : DX) : DK := fun d M => optB (truth M d) (orvK2 d tb env Q E) M
def blK (Q : DK) : Bool → Mem → Prop := fun b M => Q (.bl b) M
def notvK (Q : DK) : DK := fun d M => optB (truth M d) (notK (blK Q)) M
def negK (Q : DK) : DK := fun d M => match d with
  | .v (.int i) => Q (.int (-i)) M
  | _ => False
def slK3 (x : D) (l : Option Int) (Q : DK) : Option Int → Mem → Prop := fun u M => (opSl x l u M).run M Q
def slK2 (x : D) (th : DO) (env : DEnv) (Q : DK) (E : DX) : Option Int → Mem → Prop := fun l M => th env M (slK3 x l Q) E
def slK1 (tl th : DO) (env : DEnv) (Q : DK) (E : DX) : DK := fun x M => tl env M (slK2 x th env Q E) E
def partK (Q : Option Int → Mem → Prop) : DK := fun d M => match d with
  | .v (.int i) => Q (some i) M
  | _ => False
def revR : D → Mem → Res
  | .v (.ref a), M => match M a with
    | some (.lst ds) => .new True (.lst ds.reverse)
    | _ => .bad
  | _, _ => .bad
def revK (Q : DK) : DK := fun d M => (revR d M).run M Q
def forK (p : Pat) (tb : DS) (Z : DEnds) (env : DEnv) : DIt → Mem → Prop := fun J M => dLoop J.keep p tb Z J.items env M
def lcK (p : Pat) (tt : DT) (te : DE) (vs : List Nat) (env : DEnv) (Q : DK) : DIt → Mem → Prop := fun J M => ∀ a, M a = none → dLcGo J.keep p tt te (wipeD env vs) a Q J.items [] (mupd M a (.lst []))
def walkO (R : DIt → Mem → Prop) (a : Addr) (M : Mem) : Option Ob → Prop
  | some (.lst ds) => R ⟨ds, fun M => M a = some (.lst ds) ∨ M a = some (.rol ds)⟩ M
  | some (.rol ds) => R ⟨ds, fun M => M a = some (.lst ds) ∨ M a = some (.rol ds)⟩ M
  | _ => False
def walkR (R : DIt → Mem → Prop) : DK := fun d M => match d with
  | .tup ds => R ⟨ds, fun _ => True⟩ M
  | .v (.str x) => R ⟨signs x, fun _ => True⟩ M
  | .v (.ref a) => walkO R a M (M a)
  | _ => False
def rng1K (R : DIt → Mem → Prop) : List D → Mem → Prop := fun ds M => match ds with
  | [.v (.int j)] => (-(2 ^ 62) ≤ j ∧ j < 2 ^ 62) ∧ R ⟨rg 0 j.toNat, fun _ => True⟩ M
  | _ => False
def rng2K (R : DIt → Mem → Prop) : List D → Mem → Prop := fun ds M => match ds with
  | [.v (.int i), .v (.int j)] => (-(2 ^ 62) ≤ i ∧ i < 2 ^ 62 ∧ -(2 ^ 62) ≤ j ∧ j < 2 ^ 62) ∧ R ⟨rg i (j - i).toNat, fun _ => True⟩ M
  | _ => False
def clK (sp : DSp) (Q : DK) (E : DX) : List D → Mem → Prop := fun ds M => sp ds M Q E
def callLO (t : DA) (env : DEnv) (M : Mem) (Q : DK) (E : DX) : Option DSp → Prop
  | some sp => t env M (clK sp Q E) E
  | none => False
def callLK (S : Addr → Option DSp) (t : DA) (env : DEnv) (M : Mem) (Q : DK) (E : DX) : Option (Option D) → Prop
  | some (some (.v (.ref f))) => callLO t env M Q E (S f)
  | _ => False

section
variable {Z : DEnds} {env : DEnv} {M : Mem} {Q : DK} {E : DX} {n : DEnv → Mem → Prop}
theorem to_nx : (Z.to n).nx = n := id rfl
theorem to_rt : (Z.to n).rt = Z.rt := id rfl
theorem to_bk : (Z.to n).bk = Z.bk := id rfl
theorem to_ct : (Z.to n).ct = Z.ct := id rfl
theorem to_ex : (Z.to n).ex = Z.ex := id rfl
theorem lp_nx : (Z.lp n).nx = n := id rfl
theorem lp_rt : (Z.lp n).rt = Z.rt := id rfl
theorem lp_bk : (Z.lp n).bk = Z.nx := id rfl
theorem lp_ct : (Z.lp n).ct = n := id rfl
theorem lp_ex : (Z.lp n).ex = Z.ex := id rfl
theorem ret_nx {E : DX} : (retEnds Q E).nx env M = Q .non M := id rfl
theorem ret_rt {E : DX} : (retEnds Q E).rt = Q := id rfl
theorem ret_ex {E : DX} {c f} : (retEnds Q E).ex c f env M = E c f M := id rfl
theorem s_exK {c f} : exK Z env c f M = Z.ex c f env M := id rfl
theorem s_bif1 {f g} : bifM true f g M = f M := id rfl
theorem s_bif0 {f g} : bifM false f g M = g M := id rfl
theorem s_optB {b R} : optB (some b) R M = R b M := id rfl
theorem s_optE {e R} : optE (some e) R M = R e M := id rfl
theorem s_nxD {d} : nxD Z env d M = Z.nx env M := id rfl
theorem s_ifK {t u b} : ifK t u Z env b M = bifM b (t Z env) (u Z env) M := id rfl
theorem s_asgN {i d} : asgK (.nm i) Z env d M = Z.nx (env.set i (some d)) M := id rfl
theorem s_asgT {ps ds} : asgK (.tp ps) Z env (.tup ds) M = optE (bindL M ps ds env) Z.nx M := by simp only [asgK, Pat.bind, seqOf]
theorem s_asgL {ps a} : asgK (.tp ps) Z env (.ob a) M = optE ((Pat.tp ps).bind M (.ob a) env) Z.nx M := id rfl
theorem b_nil : bindL M [] [] env = some env := id rfl
theorem b_nm {i d ps ds} : bindL M (.nm i :: ps) (d :: ds) env = bindL M ps ds (env.set i (some d)) := id rfl
theorem b_tp {qs es ps ds} : bindL M (.tp qs :: ps) (.tup es :: ds) env = (match bindL M qs es env with | some e => bindL M ps ds e | none => none) := by simp only [bindL, Pat.bind, seqOf] <;> rfl
theorem s_next : dNext Z env M = Z.nx env M := id rfl
theorem s_seq {t u} : dSeq t u Z env M = t (Z.to (u Z)) env M := id rfl
theorem s_drop {te} : dDrop te Z env M = te env M (nxD Z env) (exK Z env) := id rfl
theorem s_ret {te} : dRet te Z env M = te env M Z.rt (exK Z env) := id rfl
theorem s_retN : dRetN Z env M = Z.rt .non M := id rfl
theorem s_ifS {tc t u} : dIfS tc t u Z env M = tc env M (ifK t u Z env) (exK Z env) := id rfl
theorem s_asg {te p} : dAsg te p Z env M = te env M (asgK p Z env) (exK Z env) := id rfl
theorem s_brk : dBrk Z env M = Z.bk env M := id rfl
theorem s_cont : dCont Z env M = Z.ct env M := id rfl
theorem s_put {te to ti} : dPut te to ti Z env M = te env M (putK1 to ti Z env) (exK Z env) := id rfl
theorem s_put1 {to ti z} : putK1 to ti Z env z M = to env M (putK2 ti z Z env) (exK Z env) := id rfl
theorem s_put2 {ti z o} : putK2 ti z Z env o M = ti env M (putK3 o z Z env) (exK Z env) := id rfl
theorem s_put3 {z o i} : putK3 o z Z env i M = (opPut o i z M).run M (nxD Z env) := id rfl
theorem s_aug {i r te} : dAug i r te Z env M = augV i r te Z env M env[i]? := id rfl
theorem s_augV {i r te} {x : D} : augV i r te Z env M (some (some x)) = te env M (augK i r x Z env) (exK Z env) := id rfl
theorem s_augK {i r x y} : augK i r x Z env y M = (r x y M).run M (augK2 i Z env) := id rfl
theorem s_augK2 {i z} : augK2 i Z env z M = Z.nx (env.set i (some z)) M := id rfl
theorem s_bin {r ta tb} : dBin r ta tb env M Q E = ta env M (binK1 r tb env Q E) E := id rfl
theorem s_bin1 {r tb x} : binK1 r tb env Q E x M = tb env M (binK2 r x Q) E := id rfl
theorem s_bin2 {r x y} : binK2 r x Q y M = (r x y M).run M Q := id rfl
theorem s_var {i} : dVar i env M Q E = varK M Q env[i]? := id rfl
theorem s_varK {x : D} : varK M Q (some (some x)) = Q x M := id rfl
theorem s_C {d} : dC d env M Q E = Q d M := id rfl
theorem s_cb {r t} : dCB r t env M Q E = t env M (cbK r Q) E := id rfl
theorem s_cbK {r ds} : cbK r Q ds M = (r ds M).run M Q := id rfl
theorem s_call {sp dvs t} : dCall sp dvs t env M Q E = t env M (callK sp dvs Q E) E := id rfl
theorem s_callK {sp ds} : callK sp [] Q E ds M = sp ds M Q E := by unfold callK; rw [List.append_nil]
theorem s_m {T r to t} : dBM T r to t env M Q E = to env M (mK1 T r t env Q E) E := id rfl
theorem s_m1 {T r t x} : mK1 T r t env Q E x M = (isTy T x M ∧ t env M (mK2 r x Q) E) := id rfl
theorem s_m2 {r x ds} : mK2 r x Q ds M = (r x ds M).run M Q := id rfl
theorem s_nil {R} : dNil env M R E = R [] M := id rfl
theorem s_cons {ta tr R} : dCons ta tr env M R E = ta env M (consK1 tr env R E) E := id rfl
theorem s_cons1 {tr R d} : consK1 tr env R E d M = tr env M (consK2 d R) E := id rfl
theorem s_cons2 {d R ds} : consK2 d R ds M = R (d :: ds) M := id rfl
theorem s_tup {n t} : dTup n t env M Q E = t env M (tupK n Q) E := id rfl
theorem s_tupK {n ds} : tupK n Q ds M = (ds.length = n ∧ Q (.tup ds) M) := id rfl
theorem s_lst {n t} : dLst n t env M Q E = t env M (lstK n Q) E := by unfold dLst lstK; simp [Res.run]
theorem s_lstK {n ds} : lstK n Q ds M = (ds.length = n ∧ (Res.new True (.lst ds)).run M Q) := id rfl
theorem s_truth {t R} : dTruth t env M R E = t env M (trK R) E := id rfl
theorem s_trK {R d} : trK R d M = optB (truth M d) R M := id rfl
theorem s_tK {u R} : tK u env R E M = u env M R E := id rfl
theorem s_eK {u} : eK u env Q E M = u env M Q E := id rfl
theorem s_cK {α} {x : α} {R} : cK x R M = R x M := id rfl
theorem s_and {t u R} : dAnd t u env M R E = t env M (andK u env R E) E := id rfl
theorem s_andK {u R b} : andK u env R E b M = bifM b (tK u env R E) (cK false R) M := id rfl
theorem s_or {t u R} : dOr t u env M R E = t env M (orK u env R E) E := id rfl
theorem s_orK {u R b} : orK u env R E b M = bifM b (cK true R) (tK u env R E) M := id rfl
theorem s_not {t R} : dNot t env M R E = t env M (notK R) E := id rfl
theorem s_notK {R b} : notK R b M = R (!b) M := id rfl
theorem s_ife {t ta tb} : dIf t ta tb env M Q E = t env M (ifeK ta tb env Q E) E := id rfl
theorem s_ifeK {ta tb b} : ifeK ta tb env Q E b M = bifM b (eK ta env Q E) (eK tb env Q E) M := id rfl
theorem optB_if {b : Option Bool} {f g : Mem → Prop} : (match b with | some true => f M | some false => g M | none => False) = optB b (fun b M => bifM b f g M) M := by
  cases b with
  | none => rfl
  | some b => cases b <;> rfl
theorem s_andV {ta tb} : dAndV ta tb env M Q E = ta env M (andvK tb env Q E) E := by
  unfold dAndV andvK
  congr 1
  funext d M1
  cases truth M1 d with
  | none => rfl
  | some b => cases b <;> rfl
theorem s_orV {ta tb} : dOrV ta tb env M Q E = ta env M (orvK tb env Q E) E := by
  unfold dOrV orvK
  congr 1
  funext d M1
  cases truth M1 d with
  | none => rfl
  | some b => cases b <;> rfl
theorem s_andvK {tb d} : andvK tb env Q E d M = optB (truth M d) (andvK2 d tb env Q E) M := id rfl
theorem s_orvK {tb d} : orvK tb env Q E d M = optB (truth M d) (orvK2 d tb env Q E) M := id rfl
theorem s_andvK2 {tb d b} : andvK2 d tb env Q E b M = bifM b (eK tb env Q E) (cK d Q) M := id rfl
theorem s_orvK2 {tb d b} : orvK2 d tb env Q E b M = bifM b (cK d Q) (eK tb env Q E) M := id rfl
theorem s_notV {ta} : dNotV ta env M Q E = ta env M (notvK Q) E := id rfl
theorem s_notvK {d} : notvK Q d M = optB (truth M d) (notK (blK Q)) M := id rfl
theorem s_blK {b} : blK Q b M = Q (.bl b) M := id rfl
theorem s_neg {ta} : dNeg ta env M Q E = ta env M (negK Q) E := id rfl
theorem s_negK {i} : negK Q (.int i) M = Q (.int (-i)) M := id rfl
theorem s_sl {ta tl th} : dSl ta tl th env M Q E = ta env M (slK1 tl th env Q E) E := id rfl
theorem s_sl1 {tl th x} : slK1 tl th env Q E x M = tl env M (slK2 x th env Q E) E := id rfl
theorem s_sl2 {th x l} : slK2 x th env Q E l M = th env M (slK3 x l Q) E := id rfl
theorem s_sl3 {x l u} : slK3 x l Q u M = (opSl x l u M).run M Q := id rfl
theorem s_noPart {R} : dNoPart env M R E = R none M := id rfl
theorem s_part {t R} : dPart t env M R E = t env M (partK R) E := id rfl
theorem s_partK {R i} : partK R (.int i) M = R (some i) M := id rfl
theorem s_rev {te} : dRev te env M Q E = te env M (revK Q) E := by
  unfold dRev
  congr 1
  funext d M1
  unfold revK revR
  cases d with
  | tup _ => rfl
  | v x => cases x with
    | ref a =>
      dsimp only
      cases M1 a with
      | none => rfl
      | some o => cases o <;> simp [Res.run]
    | _ => rfl
theorem s_revK {d} : revK Q d M = (revR d M).run M Q := id rfl
theorem s_for {ti p tb} : dFor ti p tb Z env M = ti env M (forK p tb Z env) (exK Z env) := id rfl
theorem s_forK {p tb its kp} : forK p tb Z env ⟨its, kp⟩ M = dLoop kp p tb Z its env M := id rfl
theorem s_lc {ti p tt te vs} : dLc ti p tt te vs env M Q E = ti env M (lcK p tt te vs env Q) E := id rfl
theorem s_lcK {p tt te vs its kp} : lcK p tt te vs env Q ⟨its, kp⟩ M = ∀ a, M a = none → dLcGo kp p tt te (wipeD env vs) a Q its [] (mupd M a (.lst [])) := id rfl
theorem s_yes {R} : dYes env M R E = R true M := id rfl
theorem s_walk {te R} : dWalk te env M R E = te env M (walkR R) E := id rfl
theorem s_walkT {R ds} : walkR R (.tup ds) M = R ⟨ds, fun _ => True⟩ M := id rfl
theorem s_walkS {R x} : walkR R (.str x) M = R ⟨signs x, fun _ => True⟩ M := id rfl
theorem s_walkA {R a} : walkR R (.ob a) M = walkO R a M (M a) := id rfl
theorem s_walkL {R a ds} : walkO R a M (some (.lst ds)) = R ⟨ds, fun M => M a = some (.lst ds) ∨ M a = some (.rol ds)⟩ M := id rfl
theorem s_walkR {R a ds} : walkO R a M (some (.rol ds)) = R ⟨ds, fun M => M a = some (.lst ds) ∨ M a = some (.rol ds)⟩ M := id rfl
theorem s_rng1 {ta R} : dRange1 ta env M R E = ta env M (rng1K R) E := id rfl
theorem s_rng2 {ta R} : dRange2 ta env M R E = ta env M (rng2K R) E := id rfl
theorem s_rng1K {R j} : rng1K R [.int j] M = ((-(2 ^ 62) ≤ j ∧ j < 2 ^ 62) ∧ R ⟨rg 0 j.toNat, fun _ => True⟩ M) := id rfl
theorem s_rng2K {R i j} : rng2K R [.int i, .int j] M = ((-(2 ^ 62) ≤ i ∧ i < 2 ^ 62 ∧ -(2 ^ 62) ≤ j ∧ j < 2 ^ 62) ∧ R ⟨rg i (j - i).toNat, fun _ => True⟩ M) := id rfl
theorem s_callL {i S t} : dCallL i S t env M Q E = callLK S t env M Q E env[i]? := id rfl
theorem s_callLK {S f t} : callLK S t env M Q E (some (some (.ob f))) = callLO t env M Q E (S f) := id rfl
theorem s_callLO {sp t} : callLO t env M Q E (some sp) = t env M (clK sp Q E) E := id rfl
theorem s_clK {sp ds} : clK sp Q E ds M = sp ds M Q E := id rfl
theorem s_raise {c fs} : dRaise c fs Z env M = Z.ex c fs env M := id rfl

/-! results -/
theorem r_val {c d} : (Res.val c d).run M Q = (c ∧ Q d M) := id rfl
theorem r_new {c o} : (Res.new c o).run M Q = (c ∧ ∀ p, M p = none → Q (.ob p) (mupd M p o)) := id rfl
theorem r_put {c a o d} : (Res.put c a o d).run M Q = (c ∧ Q d (mupd M a o)) := id rfl
end
/-- memory grows, but for what is told -/
def Keep (S : List Addr) (M M' : Mem) : Prop := ∀ b o, M b = some o → b ∉ S → M' b = some o
theorem Keep.refl {S M} : Keep S M M := fun _ _ h _ => h
theorem Keep.trans {S M M' M''} (h : Keep S M M') (g : Keep S M' M'') : Keep S M M'' := fun b o e n => g b o (h b o e n) n
theorem Keep.new {S M p o} (h : M p = none) : Keep S M (mupd M p o) := fun b o' e _ => by
  have : b ≠ p := fun z => by rw [z, h] at e; cases e
  show (if b = p then _ else _) = _
  rw [if_neg this]; exact e
theorem Keep.put {S M a o} (h : a ∈ S) : Keep S M (mupd M a o) := fun b o' e n => by
  have : b ≠ a := fun z => n (z ▸ h)
  show (if b = a then _ else _) = _
  rw [if_neg this]; exact e
theorem Keep.weaken {S T M M'} (h : Keep S M M') (s : ∀ a ∈ S, a ∈ T) : Keep T M M' := fun b o e n => h b o e fun z => n (s _ z)
/-- changes at new places are free -/
theorem Keep.drop {S M M' p} (h : Keep (p :: S) M M') (hp : M p = none) : Keep S M M' := fun b o e n => h b o e fun z => by
  rcases List.mem_cons.mp z with z | z
  · rw [z, hp] at e; cases e
  · exact n z
theorem Keep.fresh {M M' p} (h : Keep [] M M') (hp : M' p = none) : M p = none := by
  cases e : M p with
  | none => rfl
  | some o =>
    have := h p o e (by simp)
    rw [hp] at this
    cases this
theorem ne_new {M : Mem} {a p : Addr} {o} (ha : M a = some o) (hp : M p = none) : a ≠ p := fun e => by rw [e, hp] at ha; cases ha
theorem ne_new' {M : Mem} {a p : Addr} {o} (ha : M a = some o) (hp : M p = none) : p ≠ a := (ne_new ha hp).symm
theorem mupd_none {M : Mem} {p q : Addr} {o} : (mupd M p o q = none) = (q ≠ p ∧ M q = none) := by
  unfold mupd
  by_cases h : q = p <;> simp [h]
/-- a new list -/
theorem run_new {c : Prop} {o : Ob} {M : Mem} {Q : DK} (hc : c) (h : ∀ p M1, M p = none → M1 p = some o → Keep [] M M1 → Q (.ob p) M1) : (Res.new c o).run M Q :=
  ⟨hc, fun p hp => h p _ hp mupd_same (Keep.new hp)⟩
theorem bif_of {b : Bool} {f g : Mem → Prop} {M : Mem} (h1 : b = true → f M) (h0 : b = false → g M) : bifM b f g M := by
  cases b with
  | true => exact h1 rfl
  | false => exact h0 rfl
theorem bif_dec {p : Prop} [Decidable p] {f g : Mem → Prop} {M : Mem} (h1 : p → f M) (h0 : ¬ p → g M) : bifM (decide p) f g M := bif_of (fun h => h1 (of_decide_eq_true h)) fun h => h0 (of_decide_eq_false h)
theorem bif_pos {p : Prop} [Decidable p] {f g : Mem → Prop} {M : Mem} (h : p) (q : f M) : bifM (decide p) f g M := by rw [decide_eq_true h]; exact q
theorem bif_neg {p : Prop} [Decidable p] {f g : Mem → Prop} {M : Mem} (h : ¬ p) (q : g M) : bifM (decide p) f g M := by rw [decide_eq_false h]; exact q

/-- a test that gives b -/
theorem ifS_by {tc : DT} {t u : DS} {Z : DEnds} {env : DEnv} {M : Mem} (p : Prop) [Decidable p] (h : ∀ Q E, Q (decide p) M → tc env M Q E) (h1 : p → t Z env M) (h0 : ¬ p → u Z env M) : dIfS tc t u Z env M := by
  refine h _ _ ?_
  by_cases z : p
  · rw [decide_eq_true z]; exact h1 z
  · rw [decide_eq_false z]; exact h0 z
/-- two statements: what is true between them -/
theorem seq_mid {t u : DS} {Z : DEnds} {env : DEnv} {M : Mem} (R : DEnv → Mem → Prop) (h1 : ∀ N, (∀ e M', R e M' → N e M') → t (Z.to N) env M) (h2 : ∀ e M', R e M' → u Z e M') : dSeq t u Z env M := h1 (u Z) h2
/-- an if with statements behind it: what is true there -/
theorem bif_mid {b : Bool} {t u : DS} {Z : DEnds} {n : DEnv → Mem → Prop} {env : DEnv} {M : Mem} (R : DEnv → Mem → Prop) (h1 : b = true → ∀ N, (∀ e M', R e M' → N e M') → t (Z.to N) env M) (h0 : b = false → ∀ N, (∀ e M', R e M' → N e M') → u (Z.to N) env M) (h2 : ∀ e M', R e M' → n e M') :
    bifM b (t (Z.to n) env) (u (Z.to n) env) M := by
  cases b with
  | true => exact h1 rfl n h2
  | false => exact h0 rfl n h2
theorem bif_midD {p : Prop} [Decidable p] {t u : DS} {Z : DEnds} {n : DEnv → Mem → Prop} {env : DEnv} {M : Mem} (R : DEnv → Mem → Prop) (h1 : p → ∀ N, (∀ e M', R e M' → N e M') → t (Z.to N) env M) (h0 : ¬ p → ∀ N, (∀ e M', R e M' → N e M') → u (Z.to N) env M) (h2 : ∀ e M', R e M' → n e M') :
    bifM (decide p) (t (Z.to n) env) (u (Z.to n) env) M := bif_mid R (fun h => h1 (of_decide_eq_true h)) (fun h => h0 (of_decide_eq_false h)) h2
/-- for: what is true ahead of each turn; items are the pictures of xs -/
theorem loop_inv {α : Type} (f : α → D) {kp : Mem → Prop} {p : Pat} {tb : DS} {Z : DEnds} (I : List α → DEnv → Mem → Prop) (hk : ∀ r env M, I r env M → kp M)
    (step : ∀ x r env M N, I (x :: r) env M → (∀ e M', I r e M' → N e M') → optE (p.bind M (f x) env) (tb (Z.lp N)) M) (done : ∀ env M, I [] env M → Z.nx env M) :
    ∀ (xs : List α) (env : DEnv) (M : Mem), I xs env M → dLoop kp p tb Z (xs.map f) env M
  | [], env, M, h => ⟨hk _ _ _ h, done _ _ h⟩
  | x :: r, env, M, h => by
    refine ⟨hk _ _ _ h, ?_⟩
    have q := step x r env M (dLoop kp p tb Z (r.map f)) h (loop_inv f I hk step done r)
    unfold optE at q
    split at q
    · rename_i env1 hb
      first | exact q | (rw [hb]; exact q)
    · exact q.elim
def whK (tb : DS) (Z : DEnds) (N : DEnv → Mem → Prop) (env : DEnv) : Bool → Mem → Prop := fun b M => bifM b (tb (Z.lp N) env) (Z.nx env) M
theorem s_whK {tb : DS} {Z : DEnds} {N : DEnv → Mem → Prop} {env : DEnv} {b : Bool} {M : Mem} : whK tb Z N env b M = bifM b (tb (Z.lp N) env) (Z.nx env) M := id rfl
/-- while: what is true ahead of each turn, with a number that falls -/
theorem while_inv {tc : DT} {tb : DS} {Z : DEnds} (I : Nat → DEnv → Mem → Prop)
    (step : ∀ n env M N, I n env M → (∀ m e M', m < n → I m e M' → N e M') → tc env M (whK tb Z N env) (exK Z env)) {n : Nat} {env : DEnv} {M : Mem} (h : I n env M) : dWhile tc tb Z env M := by
  have go : ∀ k n env M, n < k → I n env M → dWhileN tc tb Z k env M := by
    intro k
    induction k with
    | zero => intro n env M h; omega
    | succ k ih => exact fun n env M hk h => step n env M (dWhileN tc tb Z k) h fun m e M' hm => ih m e M' (by omega)
  exact ⟨n + 1, go (n + 1) n env M (Nat.lt_succ_self n) h⟩
def lcY (a : Addr) (acc : List D) (N : List D → Mem → Prop) : DK := fun y M => M a = some (.lst acc) ∧ acc.length < sizeLine ∧ N (acc ++ [y]) (mupd M a (.lst (acc ++ [y])))
def lcT (te : DE) (a : Addr) (acc : List D) (N : List D → Mem → Prop) (env : DEnv) : Bool → Mem → Prop := fun b M => bifM b (eK te env (lcY a acc N) noX) (N acc) M
def lcE (tt : DT) (te : DE) (a : Addr) (acc : List D) (N : List D → Mem → Prop) (env : DEnv) (M : Mem) : Prop := tt env M (lcT te a acc N env) noX
section
variable {te : DE} {tt : DT} {a : Addr} {acc : List D} {N : List D → Mem → Prop} {env : DEnv} {M : Mem} {y : D} {b : Bool}
theorem s_lcY : lcY a acc N y M = (M a = some (.lst acc) ∧ acc.length < sizeLine ∧ N (acc ++ [y]) (mupd M a (.lst (acc ++ [y])))) := id rfl
theorem s_lcT : lcT te a acc N env b M = bifM b (eK te env (lcY a acc N) noX) (N acc) M := id rfl
theorem s_lcE : lcE tt te a acc N env M = tt env M (lcT te a acc N env) noX := id rfl
end
/-- a comprehension: what is true ahead of each turn; a: the new list -/
theorem lc_inv {α : Type} (f : α → D) {kp : Mem → Prop} {p : Pat} {tt : DT} {te : DE} {env : DEnv} {a : Addr} {Q : DK} (I : List α → List D → Mem → Prop) (hk : ∀ r acc M, I r acc M → kp M ∧ M a = some (.lst acc))
    (step : ∀ x r acc M (N : List D → Mem → Prop), I (x :: r) acc M → (∀ acc' M', I r acc' M' → N acc' M') → optE (p.bind M (f x) env) (lcE tt te a acc N) M)
    (done : ∀ acc M, I [] acc M → Q (.ob a) M) : ∀ (xs : List α) (acc : List D) (M : Mem), I xs acc M → dLcGo kp p tt te env a Q (xs.map f) acc M
  | [], acc, M, h => ⟨(hk _ _ _ h).1, (hk _ _ _ h).2, done _ _ h⟩
  | x :: r, acc, M, h => by
    refine ⟨(hk _ _ _ h).1, ?_⟩
    have q := step x r acc M (fun acc' M' => dLcGo kp p tt te env a Q (r.map f) acc' M') h (fun acc' M' => lc_inv f I hk step done r acc' M')
    unfold optE at q
    split at q
    · rename_i env1 hb
      first | exact q | (rw [hb]; exact q)
    · exact q.elim
theorem x_iaddN {X : Cx} : XOp X (inplaceOp .Add) opIadd := x_iadd
theorem ix_lit0 {n : Nat} (h : 0 < n) : ixN n 0 = some 0 := by unfold ixN; simp; omega
theorem ix_lit {n k : Nat} (h : k < n) : ixN n (k : Int) = some k := by unfold ixN; simp; omega
end PL

namespace PL
open PySem PySem.Spec PyProof.Rows L2

/-! built-ins that may answer in more than one way -/
abbrev DCallG := List D → Mem → DK → Prop
def MonoC (r : DCallG) : Prop := ∀ ds M (Q Q' : DK), (∀ d M, Q d M → Q' d M) → r ds M Q → r ds M Q'
def upCallG (K : PySem.W.Frag) (r : DCallG) : List V → Hp → VK → Prop := fun xs H Q => ∃ ds M, RepL K H ds xs ∧ Sim K H M ∧ r ds M (upK K H Q)
def cgK (r : DCallG) (Q : DK) : List D → Mem → Prop := fun ds M => r ds M Q
def dCG (r : DCallG) (t : DA) : DE := fun env M Q E => t env M (cgK r Q) E
theorem s_cg {r t env M Q E} : dCG r t env M Q E = t env M (cgK r Q) E := id rfl
theorem s_cgK {r Q ds M} : cgK r Q ds M = r ds M Q := id rfl
section
variable {X : Cx} {W : WX} {x : Str} {p pos : Pos} {e : Expr} {es : List Expr} {t : DA} {id T : String} {r : DCallG}
theorem cg_up (mr : MonoC r) (ha : XA X W es t) : ∀ σ H Q, liftE X.K W (dCG r t) σ H Q → tCB (upCallG X.K r) (liftA X.K W t) σ H Q := by
  rintro σ H Q ⟨env, M, re, s, h⟩
  refine stepA ha.mono re s h (fun ds M1 us H1 e1 s1 re1 r1 h1 => ?_) fun _ _ _ z => z
  exact ⟨ds, M1, r1, s1, mr _ _ _ _ (upK_mono e1) h1⟩
theorem xe_callG (mr : MonoC r) (hc : CallR X (.builtin id) (upCallG X.K r)) (hg : Gl X x) (hm : X.mg x = none) (hv : bootBuiltins x = some (.builtin id)) (ha : XA X W (e :: es) t) (hn : x ≠ "__name__" := by decide) (hdb : (x == ("__debug__" : Str)) = false := by decide)
    (he : starEach (e :: es) X.env = (false, eval e X.env) :: starEach es X.env := by rfl) (hpl : (backTo pos (starEach es X.env)).any (·.1) = false := by rfl) : XE X W (.Call (.Name x p) (e :: es) [] pos) (dCG r t) :=
  ⟨fun env M Q Q' E E' hQ hE => ha.mono _ _ _ _ _ _ (fun ds M1 => mr ds M1 _ _ hQ) hE, PEw (pe_callB hc hg hm hv ha.pa hn hdb he hpl) (cg_up mr ha)⟩
end

/-! sorted -/
def SortsTo (dd : Bool) (ss ys : List Str) : Prop := sortedS ys = true ∧ if dd = true then ys.Nodup ∧ ∀ x, x ∈ ys ↔ x ∈ ss else ys.Perm ss
def intsOf : List D → Option (List Int)
  | [] => some []
  | .v (.int b) :: r => (intsOf r).map (b :: ·)
  | _ :: _ => none
theorem intsOf_eq : ∀ {ds : List D} {bs : List Int}, intsOf ds = some bs → ds = bs.map D.int
  | [], bs, h => by simp [intsOf] at h; subst h; rfl
  | .v (.int b) :: r, bs, h => by
    simp only [intsOf, Option.map_eq_some_iff] at h
    obtain ⟨cs, h1, rfl⟩ := h
    rw [intsOf_eq h1]; rfl
  | .tup _ :: _, _, h => by simp [intsOf] at h
  | .v .non :: _, _, h => by simp [intsOf] at h
  | .v (.str _) :: _, _, h => by simp [intsOf] at h
  | .v (.bl _) :: _, _, h => by simp [intsOf] at h
  | .v (.byt _) :: _, _, h => by simp [intsOf] at h
  | .v (.flt _) :: _, _, h => by simp [intsOf] at h
  | .v (.ref _) :: _, _, h => by simp [intsOf] at h
  | .v (.ty _) :: _, _, h => by simp [intsOf] at h
theorem intsOf_map : ∀ bs : List Int, intsOf (bs.map D.int) = some bs
  | [] => rfl
  | b :: bs => by show (intsOf (bs.map D.int)).map _ = _; rw [intsOf_map bs]; rfl
def lstAt (M : Mem) (d : D) : Option (List D) := match d with
  | .v (.ref a) => match M a with
    | some (.lst ds) => some ds
    | some (.rol ds) => some ds
    | _ => none
  | _ => none
theorem lstAt_rep {K : PySem.W.Frag} {H : Hp} {M : Mem} {d : D} {u : V} {ds : List D} (s : Sim K H M) (r : RepD K H d u) (h : lstAt M d = some ds) : ∃ a us, u = .ref a ∧ SqL K H a us ∧ RepL K H ds us := by
  unfold lstAt at h
  split at h
  · have e := rep_v r
    subst e
    split at h
    · rename_i hm; cases h; obtain ⟨us, q, l⟩ := s.seq (.inl hm); exact ⟨_, us, rfl, q, l⟩
    · rename_i hm; cases h; obtain ⟨us, q, l⟩ := s.seq (.inr hm); exact ⟨_, us, rfl, q, l⟩
    · cases h
  · cases h
/-- sorted of a list of texts -/
def bSortS : DCallG := fun ds M Q => ∃ d es ss, ds = [d] ∧ lstAt M d = some es ∧ strsOf es = some ss ∧ ss.length < 64 ∧ ∀ ys p, SortsTo false ss ys → M p = none → Q (.ob p) (mupd M p (.lst (ys.map D.str)))
def bSortI : DCallG := fun ds M Q => ∃ d es ss, ds = [d] ∧ lstAt M d = some es ∧ intsOf es = some ss ∧ ∀ (ys : List Int) p, ys.Perm ss → ys.Pairwise (· ≤ ·) → M p = none → Q (.ob p) (mupd M p (.lst (ys.map D.int)))
def bSorted : DCallG := fun ds M Q => bSortS ds M Q ∨ bSortI ds M Q
theorem bSorted_mono : MonoC bSorted := by
  rintro ds M Q Q' hQ (⟨d, es, ss, h1, h2, h3, h4, h⟩ | ⟨d, es, ss, h1, h2, h3, h⟩)
  · exact .inl ⟨d, es, ss, h1, h2, h3, h4, fun ys p a b => hQ _ _ (h ys p a b)⟩
  · exact .inr ⟨d, es, ss, h1, h2, h3, fun ys p a b c => hQ _ _ (h ys p a b c)⟩
section
variable {X : Cx}
theorem c_sorted : CallR X (.builtin "sorted") (upCallG X.K bSorted) := by
  rintro pins s σ H xs us Q I r ⟨ds, M, rl, sm, (⟨d, es, ss, rfl, h2, h3, h4, h⟩ | ⟨d, es, ss, rfl, h2, h3, h⟩)⟩
  · obtain ⟨u, rfl, q⟩ := rl1 rl
    obtain ⟨a, ws, rfl, hs, l⟩ := lstAt_rep sm q h2
    rw [strsOf_eq h3] at l
    rw [l.strs] at hs
    exact cr_sortedS pins s σ H _ us Q I r ⟨a, ss, rfl, hs, h4, fun ys p z1 z2 hp => fin_lst (fun p hp => h ys p ⟨z2, z1⟩ hp) sm hp .of_strs⟩
  · obtain ⟨u, rfl, q⟩ := rl1 rl
    obtain ⟨a, ws, rfl, hs, l⟩ := lstAt_rep sm q h2
    rw [intsOf_eq h3] at l
    rw [l.ints] at hs
    exact cr_sortedI pins s σ H _ us Q I r ⟨a, ss, rfl, hs, fun ys p z1 z2 hp => fin_lst (fun p hp => h ys p z1 z2 hp) sm hp .of_ints⟩
end

/-! {} -/
def dDict0 : DE := fun _ M Q _ => (Res.new True (.dk [])).run M Q
theorem s_dict0 {env M Q E} : dDict0 env M Q E = (Res.new True (.dk [])).run M Q := id rfl
theorem xe_dict0 {X : Cx} {W : WX} {pos : Pos} : XE X W (.Dict [] [] pos) dDict0 := by
  refine ⟨fun env M Q Q' E E' hQ hE h => Res.mono hQ h, PEw pe_dnewK ?_⟩
  rintro σ H Q ⟨env, M, re, s, h⟩
  intro p hp
  exact fin_new (ob := .dk []) h.2 s hp ⟨[], upd_same, rfl⟩
/-! the script -/
def KL (K : PySem.W.Frag) (a : Addr) (xs : List V) : Prop := ∃ (o : Obj) (its : Array Value) (n : Nat), K.lookup a = some o ∧ o.cls = .type "list" ∧ o.dict = none ∧ o.data = .seq its n ∧ its.size ≤ sizeLine ∧ Vals xs its.toList
def Scr (K : PySem.W.Frag) (M : Mem) (a : Addr) (ns : List Int) : Prop := M a = some (.rol (ns.map D.int)) ∨ KL K a (ns.map V.int)
theorem Scr.seq {K : PySem.W.Frag} {H : Hp} {M : Mem} {a : Addr} {ns : List Int} (h : Scr K M a ns) (s : Sim K H M) : SqL K H a (ns.map V.int) := by
  rcases h with h | h
  · obtain ⟨us, q, l⟩ := s.seq (.inr h)
    rw [l.ints] at q
    exact q
  · exact .inr h
theorem script_rep {K : PySem.W.Frag} {sp : DSp} {H : Hp} {a : Addr} {ns : List Int} (ho : Only H) (hS : SqL K H a (ns.map V.int)) (h : ∀ M, Scr K M a ns → sp [.ob a] M (fun d _ => d = .bl true) fun _ _ _ => False) (hm : MonoSp sp) :
    liftSp K sp [.ref a] H (fun v _ => v = .bl true) fun _ _ _ => False := by
  have fin : ∀ M, Scr K M a ns → Sim K H M → liftSp K sp [.ref a] H (fun v _ => v = .bl true) fun _ _ _ => False := fun M q s => by
    refine ⟨[.ob a], M, .cons rep_of .nil, s, hm _ _ _ _ _ _ ?_ ?_ (h M q)⟩
    · rintro d M' rfl u H' _ _ r
      exact rep_v r
    · exact fun c f M' z => z.elim
  rcases hS with (hS | ⟨o, hS⟩) | hS
  · rcases ho a with z | ⟨o, xs, z⟩
    · rw [z] at hS; cases hS
    · rw [z] at hS; cases hS
  · refine fin (fun b => if b = a then some (.rol (ns.map D.int)) else none) (.inl (if_pos rfl)) fun b o' e => ?_
    dsimp only at e
    split at e
    · rename_i hb; cases e; subst hb; exact ⟨o, _, hS, .of_ints⟩
    · cases e
  · exact fin (fun _ => none) (.inr hS) fun b o' e => by cases e
def bListS (K : PySem.W.Frag) : DCallG := fun ds M Q => ∃ (a : Addr) (ns : List Int), ds = [.ob a] ∧ Scr K M a ns ∧ ∀ p, M p = none → Q (.ob p) (mupd M p (.lst (ns.map D.int)))
theorem bListS_mono {K : PySem.W.Frag} : MonoC (bListS K) := by
  rintro ds M Q Q' hQ ⟨a, ns, h1, h2, h⟩
  exact ⟨a, ns, h1, h2, fun p hp => hQ _ _ (h p hp)⟩
section
variable {X : Cx} {W : WX} {x : Str} {p pos : Pos} {e : Expr} {es : List Expr} {t : DA} {T : String} {r : DCallG}
theorem xe_callTyG (mr : MonoC r) (hc : CallR X (.type T) (upCallG X.K r)) (hg : Gl X x) (hm : X.mg x = none) (hv : bootBuiltins x = some (.type T)) (ha : XA X W (e :: es) t) (hn : x ≠ "__name__" := by decide) (hdb : (x == ("__debug__" : Str)) = false := by decide)
    (he : starEach (e :: es) X.env = (false, eval e X.env) :: starEach es X.env := by rfl) (hpl : (backTo pos (starEach es X.env)).any (·.1) = false := by rfl) : XE X W (.Call (.Name x p) (e :: es) [] pos) (dCG r t) :=
  ⟨fun env M Q Q' E E' hQ hE => ha.mono _ _ _ _ _ _ (fun ds M1 => mr ds M1 _ _ hQ) hE, PEw (pe_callTy hc hg hm hv ha.pa hn hdb he hpl) (cg_up mr ha)⟩
theorem c_listS : CallR X (.type "list") (upCallG X.K (bListS X.K)) := by
  rintro pins s σ H xs us Q I r ⟨ds, M, rl, sm, a, ns, rfl, hs, h⟩
  obtain ⟨u, rfl, q⟩ := rl1 rl
  rw [rep_v q] at r
  exact call_list_of pins s σ H _ us Q I r ⟨_, _, rfl, .inl (hs.seq sm), fun l hl => fin_lst h sm hl .of_ints⟩
end
theorem cx_none {P : Program} {w : World} {H : Hp} {s : Shared} {e : Value} {s' : Shared} (h : L2.CX P w [] H s (fun _ _ _ => False) e s') : False := by
  obtain ⟨_, _, _, _, _, _, _, _, _, _, _, _, z⟩ := h
  exact z
theorem rel_int {i : Int} {t : Tok} : RelV (.int i) (.int i t) := ⟨t, rfl⟩
theorem rel_str {x : Str} {t : Tok} : RelV (.str x) (.str x t) := ⟨t, rfl⟩
end PL

namespace PL
open PySem PySem.Spec PyProof.Rows L2

/-! comprehensions by what each item gives -/
inductive Outs {α : Type} (R : α → Option D → Prop) : List α → List D → Prop
  | nil : Outs R [] []
  | yes {x d xs ds} : R x (some d) → Outs R xs ds → Outs R (x :: xs) (d :: ds)
  | no {x xs ds} : R x none → Outs R xs ds → Outs R (x :: xs) ds
theorem Outs.len {α : Type} {R : α → Option D → Prop} {xs : List α} {ds : List D} (h : Outs R xs ds) : ds.length ≤ xs.length := by
  induction h with
  | nil => exact Nat.le_refl _
  | yes _ _ ih => simp only [List.length_cons]; omega
  | no _ _ ih => simp only [List.length_cons]; omega
theorem Outs.map {α : Type} {g : α → D} {R : α → Option D → Prop} (hR : ∀ x o, R x o → o = some (g x)) {xs : List α} {ds : List D} (h : Outs R xs ds) : ds = xs.map g := by
  induction h with
  | nil => rfl
  | yes h _ ih => cases hR _ _ h; rw [ih]; rfl
  | no h _ _ => cases hR _ _ h
theorem Outs.filter {α : Type} {g : α → D} {b : α → Bool} {R : α → Option D → Prop} (hR : ∀ x o, R x o → o = if b x = true then some (g x) else none) {xs : List α} {ds : List D} (h : Outs R xs ds) : ds = (xs.filter b).map g := by
  induction h with
  | nil => rfl
  | yes h _ ih =>
    have q := hR _ _ h
    rename_i x d xs ds _
    cases e : b x with
    | true => rw [e, if_pos rfl] at q; cases q; rw [ih, List.filter_cons_of_pos e]; rfl
    | false => rw [e, if_neg Bool.false_ne_true] at q; cases q
  | no h _ ih =>
    have q := hR _ _ h
    rename_i x xs ds _
    cases e : b x with
    | true => rw [e, if_pos rfl] at q; cases q
    | false => rw [ih, List.filter_cons_of_neg (by simp [e])]
theorem Outs.all {α : Type} {P : D → Prop} {R : α → Option D → Prop} (hR : ∀ x d, R x (some d) → P d) {xs : List α} {ds : List D} (h : Outs R xs ds) : ∀ d ∈ ds, P d := by
  induction h with
  | nil => intro d hd; cases hd
  | yes h _ ih =>
    intro d hd
    rcases List.mem_cons.mp hd with z | z
    · rw [z]; exact hR _ _ h
    · exact ih d z
  | no h _ ih => exact ih
theorem Outs.lenEq {α : Type} {R : α → Option D → Prop} (hR : ∀ x, ¬ R x none) {xs : List α} {ds : List D} (h : Outs R xs ds) : ds.length = xs.length := by
  induction h with
  | nil => rfl
  | yes _ _ ih => simp only [List.length_cons, ih]
  | no h _ _ => exact (hR _ h).elim
def lcB (te : DE) (env : DEnv) (N : DK) (sk : Mem → Prop) : Bool → Mem → Prop := fun b M => bifM b (eK te env N noX) sk M
def lcS (tt : DT) (te : DE) (N : DK) (sk : Mem → Prop) (env : DEnv) (M : Mem) : Prop := tt env M (lcB te env N sk) noX
theorem s_lcB {te env N sk b M} : lcB te env N sk b M = bifM b (eK te env N noX) sk M := id rfl
theorem s_lcS {tt te N sk env M} : lcS tt te N sk env M = tt env M (lcB te env N sk) noX := id rfl
theorem lc_rule {α : Type} (f : α → D) (R : α → Option D → Prop) (J : Mem → Prop) (S : List Addr) {M0 : Mem} {a : Addr} {kp : Mem → Prop} {p : Pat} {tt : DT} {te : DE} {env : DEnv} {Q : DK} (xs : List α) (ha : M0 a = none) (haS : a ∉ S) (hJ0 : J M0) (hJ : ∀ M' o, J M' → J (mupd M' a o))
    (hk : ∀ M', Keep S M0 M' → kp M') (hlen : xs.length ≤ sizeLine)
    (step : ∀ x ∈ xs, ∀ M' (N : DK) (sk : Mem → Prop), J M' → Keep S M0 M' → (∀ d M'', R x (some d) → J M'' → Keep S M' M'' → N d M'') → (∀ M'', R x none → J M'' → Keep S M' M'' → sk M'') → optE (p.bind M' (f x) env) (lcS tt te N sk) M')
    (done : ∀ M' ds, Outs R xs ds → J M' → Keep S M0 M' → M' a = some (.lst ds) → Q (.ob a) M') : dLcGo kp p tt te env a Q (xs.map f) [] (mupd M0 a (.lst [])) := by
  have go : ∀ (r : List α) (acc : List D) (M' : Mem), (∀ x ∈ r, x ∈ xs) → acc.length + r.length ≤ sizeLine → (∀ ds, Outs R r ds → Outs R xs (acc ++ ds)) → J M' → Keep S M0 M' → M' a = some (.lst acc) → dLcGo kp p tt te env a Q (r.map f) acc M' := by
    intro r
    induction r with
    | nil => exact fun acc M' _ _ h j k e => ⟨hk _ k, e, done _ _ (by simpa using h [] .nil) j k e⟩
    | cons x r ih =>
      intro acc M' hm hl h j k e
      refine ⟨hk _ k, ?_⟩
      simp only [List.length_cons] at hl
      have q := step x (hm x List.mem_cons_self) M' (fun y M3 => M3 a = some (.lst acc) ∧ acc.length < sizeLine ∧ dLcGo kp p tt te env a Q (r.map f) (acc ++ [y]) (mupd M3 a (.lst (acc ++ [y])))) (dLcGo kp p tt te env a Q (r.map f) acc) j k
        (fun d M'' hR j2 k2 => ⟨k2 _ _ e haS, by omega, ih _ _ (fun z hz => hm z (List.mem_cons_of_mem _ hz)) (by rw [List.length_append]; simp only [List.length_cons, List.length_nil]; omega)
          (fun ds hd => by rw [List.append_assoc]; exact h _ (.yes hR hd)) (hJ _ _ j2) (fun b o eb nb => by
            have : b ≠ a := fun z => by rw [z, ha] at eb; cases eb
            rw [mupd_ne this]
            exact k2 _ _ (k _ _ eb nb) nb) mupd_same⟩)
        (fun M'' hR j2 k2 => ih _ _ (fun z hz => hm z (List.mem_cons_of_mem _ hz)) (by omega) (fun ds hd => h _ (.no hR hd)) j2 (k.trans k2) (k2 _ _ e haS))
      unfold optE at q
      split at q
      · rename_i env1 hb
        first | exact q | (rw [hb]; exact q)
      · exact q.elim
  exact go xs [] _ (fun _ h => h) (by simpa using hlen) (fun ds h => h) (hJ _ _ hJ0) (Keep.new ha) mupd_same
/-- items that a pure reading gives -/
theorem lc_pure {α : Type} (f g : α → D) (b : α → Bool) {M0 : Mem} {a : Addr} {kp : Mem → Prop} {p : Pat} {tt : DT} {te : DE} {env : DEnv} {Q : DK} (xs : List α) (ha : M0 a = none) (hk : ∀ M', Keep [] M0 M' → kp M') (hlen : xs.length ≤ sizeLine)
    (step : ∀ x ∈ xs, ∀ M' (N : DK) (sk : Mem → Prop), Keep [] M0 M' → (b x = true → ∀ M'', Keep [] M' M'' → N (g x) M'') → (b x = false → ∀ M'', Keep [] M' M'' → sk M'') → optE (p.bind M' (f x) env) (lcS tt te N sk) M')
    (done : ∀ M', Keep [] M0 M' → M' a = some (.lst ((xs.filter b).map g)) → Q (.ob a) M') : dLcGo kp p tt te env a Q (xs.map f) [] (mupd M0 a (.lst [])) := by
  refine lc_rule f (fun x o => o = if b x = true then some (g x) else none) (fun _ => True) [] xs ha (by simp) trivial (fun _ _ _ => trivial) hk hlen (fun x hx M' N sk _ k hy hn => step x hx M' N sk k (fun e M'' k2 => hy _ M'' (by rw [e, if_pos rfl]) trivial k2) fun e M'' k2 => hn M'' (by rw [e, if_neg Bool.false_ne_true]) trivial k2) fun M' ds ho _ k e => ?_
  rw [ho.filter (fun _ _ h => h)] at e
  exact done M' k e
theorem lc_pureI (g : D → D) (b : D → Bool) {M0 : Mem} {a : Addr} {kp : Mem → Prop} {p : Pat} {tt : DT} {te : DE} {env : DEnv} {Q : DK} (xs : List D) (ha : M0 a = none) (hk : ∀ M', Keep [] M0 M' → kp M') (hlen : xs.length ≤ sizeLine)
    (step : ∀ x ∈ xs, ∀ M' (N : DK) (sk : Mem → Prop), Keep [] M0 M' → (b x = true → ∀ M'', Keep [] M' M'' → N (g x) M'') → (b x = false → ∀ M'', Keep [] M' M'' → sk M'') → optE (p.bind M' x env) (lcS tt te N sk) M')
    (done : ∀ M', Keep [] M0 M' → M' a = some (.lst ((xs.filter b).map g)) → Q (.ob a) M') : dLcGo kp p tt te env a Q xs [] (mupd M0 a (.lst [])) := by
  have q := lc_pure (fun d : D => d) g b xs ha hk hlen step done
  rw [List.map_id'] at q
  exact q
end PL

set_option maxHeartbeats 4000000
namespace PL
open PySem PySem.Spec PyProof.Rows L2

/-! sets of texts: the entries, their texts in the order in which they stand -/
def txt : Value → Str
  | .str x _ => x
  | _ => ⟨#[]⟩
abbrev Ent := Int × Value
def IsEnt (w : World) (e : Ent) : Prop := ∃ x tk, e.2 = Value.str x tk ∧ e.1 = hashStr w x
abbrev texts (es : Array Ent) : List Str := es.toList.map fun e => txt e.2
/-- an object that holds such a set -/
structure Held (w : World) (h : Heap) (a : Addr) (es : Array Ent) (t : SetTable) : Prop where
  obj : ∃ o ep, h.get? a = some o ∧ o.ExactSet ∧ o.data = .set es ep t
  ent : ∀ e ∈ es.toList, IsEnt w e
  nd : (texts es).Nodup
  few : es.size < scanBound
  fits : t.fits es.size = true
  ris : Ris t.place.toList
  led : w.params.followText "set-order" = true ∨ t.led = true
def SetOfTexts (w : World) (h : Heap) (a : Addr) (ks : List Str) : Prop := ∃ es t, Held w h a es t ∧ (texts es).Perm ks
theorem SetOfTexts.keep {w : World} {h h' : Heap} {a : Addr} {ks : List Str} (H : SetOfTexts w h a ks) (k : ∀ o, h.get? a = some o → h'.get? a = some o) : SetOfTexts w h' a ks := by
  obtain ⟨es, t, ⟨⟨o, ep, h1, h2⟩, r1, r2, r3, r4, r5, r6⟩, p⟩ := H
  exact ⟨es, t, ⟨⟨o, ep, k o h1, h2⟩, r1, r2, r3, r4, r5, r6⟩, p⟩
theorem ents_strKind {P : Program} {w : World} {l : List Ent} (g : ∀ e ∈ l, IsEnt w e) : ElemsOf (PySem.strKind P w) l := fun e he => by
  obtain ⟨x, tk, h1, h2⟩ := g e he
  rw [h1, h2]
  exact ⟨⟨x, by simp [PySem.strKind, Value.isStrOf], rfl⟩, rfl⟩
theorem is_txt {P : Program} {w : World} {e : Ent} (g : IsEnt w e) (x : Str) : (PySem.strKind P w).is x e.2 = true ↔ txt e.2 = x := by
  obtain ⟨y, tk, h1, _⟩ := g
  rw [h1]
  constructor
  · intro q
    obtain ⟨t, h⟩ := Value.isStrOf_shape (show Value.isStrOf x (.str y tk) = true from q)
    injection h with h
  · rintro rfl
    simp [PySem.strKind, Value.isStrOf, txt]
section
variable {P : Program} {w : World} {A : Around} {E : Value → Shared → Prop} {s : Shared} {a : Addr}
theorem rule_if {b : Bool} {Q : Unit → Shared → Prop} (q : Q () s) : wpAny (model P w) A (match b with | true => rule "set.scan.the-table-gave-way" | false => pure ()) Q E s := by
  cases b
  · exact wpAny_pure q
  · exact wpAny_rule q
/-- what is written behind a new entry -/
theorem put_entries {o : Obj} {es es1 : Array Ent} {ep : Nat} {t t1 : SetTable} {Q : Unit → Shared → Prop} (ho : s.heap.get? a = some o) (hx : o.ExactSet) (hd : o.data = .set es ep t) (fw : es1.size < scanBound)
    (h : ∀ h', Heap.SameBut a s.heap h' → (∃ o' ep', h'.get? a = some o' ∧ o'.ExactSet ∧ o'.data = .set es1 ep' t1) → Q () { s with heap := h' }) : wpAny (model P w) A (storeSet a es1 t1) Q E s := by
  refine wpAny_storeSet_of ho hd (h _ (Heap.SameBut.update s.heap a (Obj.putSet es1 t1)) ⟨{ o with data := .set es1 (ep + 1) t1 }, ep + 1, ?_, hx, rfl⟩) (fits_of_scanBound fw)
  rw [← putSet_of es1 t1 hd]
  exact Heap.get?_update_self (Obj.putSet es1 t1) ho (by rw [putSet_of es1 t1 hd]; rfl)
theorem same_trans {h h' h'' : Heap} (p : Heap.SameBut a h h') (q : Heap.SameBut a h' h'') : Heap.SameBut a h h'' := p.trans q
/-- entries that are ready to be written -/
structure Ready (w : World) (es : Array Ent) (t : SetTable) (ks : List Str) : Prop where
  ent : ∀ e ∈ es.toList, IsEnt w e
  nd : (texts es).Nodup
  few : es.size < scanBound
  fits : t.fits es.size = true
  ris : Ris t.place.toList
  led : w.params.followText "set-order" = true ∨ t.led = true
  pm : (texts es).Perm ks
theorem Ready.held {es : Array Ent} {t : SetTable} {ks : List Str} {h : Heap} (R : Ready w es t ks) (ho : ∃ o ep, h.get? a = some o ∧ o.ExactSet ∧ o.data = .set es ep t) : SetOfTexts w h a ks :=
  ⟨es, t, ⟨ho, R.ent, R.nd, R.few, R.fits, R.ris, R.led⟩, R.pm⟩
theorem Ready.relaid {es : Array Ent} {t : SetTable} {ks : List Str} (R : Ready w es t ks) (n : Nat) : Ready w (relayAll t es n).1 (relayAll t es n).2.1 ks := by
  have p := relayAll_perm t es n
  have l := relayAll_led t es n
  refine ⟨fun e he => R.ent e (p.mem_iff.mp he), (p.map _).nodup_iff.mpr R.nd, ?_, relayAll_fits t es n, relayAll_ris t es n, R.led.imp id fun z => by rw [l]; exact z, (p.map _).trans R.pm⟩
  have := p.length_eq
  rw [Array.length_toList, Array.length_toList] at this
  have := R.few
  omega
theorem write_ready {g : Bool → Sem Unit} (hg : ∀ (b : Bool) (s : Shared) (Q : Unit → Shared → Prop), Q () s → wpAny (model P w) A (g b) Q E s) {o : Obj} {es es1 : Array Ent} {ep : Nat} {t t1 : SetTable} {ks : List Str} {wd : Bool} {Q : Option Bool → Shared → Prop}
    (ho : s.heap.get? a = some o) (hx : o.ExactSet) (hd : o.data = .set es ep t) (R : Ready w es1 t1 ks) (h : ∀ h', Heap.SameBut a s.heap h' → SetOfTexts w h' a ks → Q (some true) { s with heap := h' }) :
    wpAny (model P w) A (do
      storeSet a es1 t1
      if (!wd && t1.tooFull) = true then do
          g (relayAll t1 es1 (SetTable.grown es1.size)).2.2
          storeSet a (relayAll t1 es1 (SetTable.grown es1.size)).1 (relayAll t1 es1 (SetTable.grown es1.size)).2.1
          pure (some true)
        else pure (some true)) Q E s := by
  refine wpAny_bind (put_entries ho hx hd R.few fun h1 sb1 at1 => ?_)
  split
  · have R2 := R.relaid (SetTable.grown es1.size)
    obtain ⟨o1, ep1, g1, x1, d1⟩ := at1
    refine wpAny_bind (hg _ _ _ (wpAny_bind (put_entries g1 x1 d1 R2.few fun h2 sb2 at2 => wpAny_pure ?_)))
    exact h _ (sb1.trans sb2) (R2.held at2)
  · exact wpAny_pure (h _ sb1 (R.held at1))
/-- the set takes one text more -/
theorem takes_text {ks : List Str} {x : Str} {tk : Tok} {Q : Bool → Shared → Prop} (H : SetOfTexts w s.heap a ks) (room : ks.length + 1 < scanBound)
    (hQ : ∀ b h', Heap.SameBut a s.heap h' → SetOfTexts w h' a (if x ∈ ks then ks else x :: ks) → Q b { s with heap := h' }) : wpAny (model P w) A (setAddHashed a (.str x tk) (hashStr w x)) Q E s := by
  obtain ⟨es, t, ⟨⟨o, ep, ho, hx, hd⟩, ge, nd, fw, hf, hr, hl⟩, pm⟩ := H
  have sz : es.size = ks.length := by rw [← pm.length_eq, List.length_map, Array.length_toList]
  have is : (PySem.strKind P w).is x (.str x tk) = true := by simp [PySem.strKind, Value.isStrOf]
  have el := ents_strKind (P := P) ge
  unfold setAddHashed setAddHashedIn
  refine wpAny_holding (wpAny_bind (wpAny_setState_of ho hd hf ?_))
  dsimp only
  rw [if_pos (byScan_of (show (Value.str x tk).scannable = true from rfl) fw el)]
  unfold setAddByScan
  refine wpAny_bind (wpAny_bind (wpAny_rule (wpAny_bind ?_)))
  refine wpAny_setScan_of (knd := PySem.strKind P w) (k := x) is ho hd hf el ?_
  cases fi : List.findIdx? (fun e => (PySem.strKind P w).is x e.2) es.toList with
  | some j =>
    obtain ⟨hj, q, _⟩ := List.findIdx?_eq_some_iff_getElem.mp fi
    have hm : x ∈ ks := pm.mem_iff.mp (List.mem_map.mpr ⟨_, List.getElem_mem hj, (is_txt (ge _ (List.getElem_mem hj)) x).mp q⟩)
    dsimp only
    refine wpAny_pure (wpAny_pure (hQ _ s.heap (Heap.SameBut.refl a s.heap) ?_))
    rw [if_pos hm]
    exact ⟨es, t, ⟨⟨o, ep, ho, hx, hd⟩, ge, nd, fw, hf, hr, hl⟩, pm⟩
  | none =>
    have hm : x ∉ ks := fun z => by
      obtain ⟨e, he, q⟩ := List.mem_map.mp (pm.mem_iff.mpr z)
      have := List.findIdx?_eq_none_iff.mp fi e he
      rw [(is_txt (ge e he) x).mpr q] at this
      cases this
    rw [if_neg hm] at hQ
    dsimp only
    have p1 := layNew_perm t es (hashStr w x) (.str x tk)
    have f1 := layNew_fits t es (hashStr w x) (.str x tk)
    have r1 := layNew_ris t es (hashStr w x) (.str x tk) hr
    have l1 := layNew_led t es (hashStr w x) (.str x tk)
    have R : Ready w (layNew t es (hashStr w x) (.str x tk)).1 { (layNew t es (hashStr w x) (.str x tk)).2.1 with plain := false } (x :: ks) ∧ Ready w (layNew t es (hashStr w x) (.str x tk)).1 (layNew t es (hashStr w x) (.str x tk)).2.1 (x :: ks) := by
      generalize layNew t es (hashStr w x) (.str x tk) = L at p1 f1 r1 l1 ⊢
      rw [Array.toList_push] at p1
      have p2 := p1.trans (List.perm_append_singleton _ _)
      have p3 : (texts L.1).Perm (x :: texts es) := p2.map fun e => txt e.2
      have len := p2.length_eq
      rw [List.length_cons, Array.length_toList, Array.length_toList] at len
      have ge1 : ∀ e ∈ L.1.toList, IsEnt w e := fun e he => by
        rcases List.mem_cons.mp (p2.mem_iff.mp he) with z | z
        · rw [z]; exact ⟨x, tk, rfl, rfl⟩
        · exact ge e z
      have nd1 : (texts L.1).Nodup := p3.nodup_iff.mpr (List.nodup_cons.mpr ⟨fun z => hm (pm.mem_iff.mp z), nd⟩)
      have pk : (texts L.1).Perm (x :: ks) := p3.trans (pm.cons x)
      have led1 : w.params.followText "set-order" = true ∨ L.2.1.led = true := hl.imp id fun z => by rw [l1]; exact z
      exact ⟨⟨ge1, nd1, by omega, SetTable.fits_plain_off f1, r1, led1, pk⟩, ⟨ge1, nd1, by omega, f1, r1, led1, pk⟩⟩
    generalize layNew t es (hashStr w x) (.str x tk) = L at R ⊢
    obtain ⟨es1, t1, wd, gv⟩ := L
    dsimp only at R ⊢
    have gw : ∀ (b : Bool) (s : Shared) (Q : Unit → Shared → Prop), Q () s → wpAny (model P w) A (match b with | true => rule "set.scan.the-table-gave-way" | false => pure ()) Q E s := fun b s Q q => rule_if q
    refine wpAny_bind (gw _ _ _ ?_)
    split
    · refine wpAny_bind ?_
      rw [hashByValue_scannable 8 (show (Value.str x tk).scannable = true from rfl)]
      refine wpAny_pure (write_ready (t1 := { t1 with plain := false }) gw ho hx hd R.1 fun h' sb q => ?_)
      exact wpAny_pure (hQ _ h' sb q)
    · refine wpAny_bind (wpAny_pure ?_)
      refine write_ready (t1 := t1) gw ho hx hd R.2 fun h' sb q => ?_
      exact wpAny_pure (hQ _ h' sb q)
/-- the texts of a walk, each once; in the order in which they come in -/
def firsts : List Str → List Str → List Str
  | ks, [] => ks
  | ks, x :: r => firsts (if x ∈ ks then ks else x :: ks) r
theorem firsts_mem : ∀ (xs ks : List Str) (y : Str), y ∈ firsts ks xs ↔ y ∈ ks ∨ y ∈ xs
  | [], ks, y => by simp [firsts]
  | x :: r, ks, y => by
    rw [firsts, firsts_mem r]
    split
    · rename_i h
      constructor
      · rintro (z | z)
        · exact .inl z
        · exact .inr (List.mem_cons_of_mem _ z)
      · rintro (z | z)
        · exact .inl z
        · rcases List.mem_cons.mp z with e | z
          · exact .inl (e ▸ h)
          · exact .inr z
    · simp only [List.mem_cons]
      constructor
      · rintro ((z | z) | z)
        · exact .inr (.inl z)
        · exact .inl z
        · exact .inr (.inr z)
      · rintro (z | z | z)
        · exact .inl (.inr z)
        · exact .inl (.inl z)
        · exact .inr z
theorem one_len (x : Str) (ks : List Str) : (if x ∈ ks then ks else x :: ks).length ≤ ks.length + 1 := by
  split
  · omega
  · simp
theorem firsts_len : ∀ (xs ks : List Str), (firsts ks xs).length ≤ ks.length + xs.length
  | [], ks => by simp [firsts]
  | x :: r, ks => by
    rw [firsts]
    have := firsts_len r (if x ∈ ks then ks else x :: ks)
    have := one_len x ks
    simp only [List.length_cons]
    omega
/-- all items of a walk are put in -/
theorem takes_walk {I S : Addr} {fp wr : List Addr} {G : Array GenState → Array GenState → Prop} {n : Nat} {Pv : Nat → Value → Prop} {St : Nat → Shared → Prop} {R : Result → Shared → Prop} (W : WalksS P w A.in1 I fp wr G n Pv St) (hS : S ∉ fp) :
    ∀ (xs ks : List Str) (i : Nat) (s : Shared), i + xs.length = n → ks.length + xs.length + 1 < scanBound → (∀ j v, Pv (i + j) v → j < xs.length → ∃ t, v = .str (xs.getD j ⟨#[]⟩) t) → St i s → SetOfTexts w s.heap S ks →
      (∀ s', Moved (S :: wr) G s s' → SetOfTexts w s'.heap S (firsts ks xs) → R (.ok (.ret .none)) s') → codeAny (model P w) A (.builtin "set.update.loop" ⟨[.ref S, .ref I], []⟩) R s := by
  have nw : S ∉ wr := fun z => hS (W.sub _ z)
  have up : ∀ b ∈ wr, b ∈ S :: wr := fun _ z => List.mem_cons_of_mem _ z
  intro xs
  induction xs with
  | nil =>
    intro ks i s hi _ _ st hs fin
    have e : i = n := hi
    refine codeAny_builtin F.entry_set_update_loop ?_
    rw [Around.under_plainId F.plain_set_update_loop _]
    subst e
    refine wpAny_bind (m := pyNext (.ref I)) (W.done s _ _ st fun s1 mv => ?_)
    exact wpAny_pure (fin s1 (mv.mono up) (hs.keep fun o z => mv.heap S o nw z))
  | cons x r ih =>
    intro ks i s hi room hv st hs fin
    simp only [List.length_cons] at hi room hv
    refine codeAny_builtin F.entry_set_update_loop ?_
    rw [Around.under_plainId F.plain_set_update_loop _]
    refine wpAny_bind (m := pyNext (.ref I)) (W.item i s _ _ (by omega) st fun v s1 pv st1 mv => ?_)
    obtain ⟨tk, rfl⟩ := hv 0 v pv (by omega)
    simp only [List.getD_cons_zero]
    refine wpAny_bind (m := holding [Value.str x tk] (setAdd S (.str x tk))) (wpAny_holding ?_)
    unfold setAdd
    refine wpAny_holding (wpAny_bind ((PySem.strKind P w).pyHash (k := x) (by simp [PySem.strKind, Value.isStrOf]) ?_))
    refine takes_text (s := { s1 with toks := s1.toks + 1 }) (hs.keep fun o z => mv.heap S o nw z) (by omega) fun b h' sb q => ?_
    have stay : ∀ c o, c ≠ S → s1.heap.get? c = some o → h'.get? c = some o := fun c o hc e => by rw [sb.2 c hc]; exact e
    refine wpAny_pure ⟨plainId_quiet F.plain_set_update_loop _, ih _ (i + 1) _ (by omega) (by have := one_len x ks; omega) (fun j v pj hj => ?_) (W.frame _ s1 _ _ st1 (Nat.le_succ _) fun c hc o e => stay c o (fun z => hS (z ▸ hc)) e) q fun s2 mv2 q2 => ?_⟩
    · have := hv (j + 1) v (by rw [show i + (j + 1) = i + 1 + j by omega]; exact pj) (by omega)
      simpa using this
    · refine fin s2 (Moved.trans W.gtrans ((mv.mono up).then_heap (Nat.le_succ _) fun c o hc e => stay c o (fun z => hc (by rw [z]; exact List.mem_cons_self)) e) mv2) q2
abbrev newSetO (w : World) : Obj := { cls := .type "set", dict := none, data := .set #[] 0 (.fresh 0 0 (!w.params.followText "set-order")) }
theorem empty_held {h : Heap} (e : h.get? a = some (newSetO w)) : SetOfTexts w h a [] := by
  refine ⟨#[], _, ⟨⟨_, 0, e, ⟨rfl, rfl, rfl⟩, rfl⟩, ?_, ?_, by decide, rfl, List.Pairwise.nil, ?_⟩, .refl _⟩
  · intro e he; cases he
  · exact List.Pairwise.nil
  · show _ ∨ (!w.params.followText "set-order") = true
    cases w.params.followText "set-order"
    · exact .inr rfl
    · exact .inl rfl
/-- what the filling of a new set does: __init__ with a list of texts -/
theorem init_texts {S l : Addr} {items : Array Value} {xs : List Str} {Q : Value → Shared → Prop} (hh : A.handled = none) (hS : s.heap.get? S = some (newSetO w)) (hl : s.heap.IsList l items) (hne : l ≠ S) (hsz : items.size = xs.length) (hv : ∀ (j : Nat) (v : Value), items[j]? = some v → ∃ t, v = Value.str (xs.getD j ⟨#[]⟩) t)
    (hb : xs.length + 1 < scanBound) (h : ∀ h' tk, SetOfTexts w h' S (firsts [] xs) → (∀ b o, b ≠ S → s.heap.get? b = some o → h'.get? b = some o) → Q .none { s with heap := h', toks := tk }) :
    wpAny (model P w) A (Builtin.«set.__init__» ⟨[.ref S, .ref l], []⟩) (fun f s' => ∃ r, f = .done (.ret r) ∧ Q r s') E s := by
  have hT : s.TypeIs (.ref S) "set" := ⟨_, hS, rfl⟩
  obtain ⟨ol, hol, hcl, nl, hdl⟩ := hl
  obtain ⟨ocls, odict, odata, oslots⟩ := ol
  simp only at hcl hdl
  subst hcl
  subst hdl
  have hl2 : s.heap.IsList l items := ⟨_, hol, rfl, nl, rfl⟩
  have a1 := F.sub_list_set
  have a2 := F.sub_list_frozenset
  have a3 : (Value.type "list" == Value.type "dict") = false := by decide
  unfold Builtin.«set.__init__» noKeywords Builtin.Frozenset.updateFrom
  generalize hp : pyIter = go
  wp_walk
  subst hp
  refine wpAny_pyIter_list hl2 (wpAny_bind (wpAny_runValue ?_))
  have lS : S < s.heap.objs.size := Heap.lt_size hS
  have ll : l < s.heap.objs.size := Heap.lt_size hol
  have hI : l ≠ s.heap.objs.size := Nat.ne_of_lt ll
  have hSI : S ∉ [s.heap.objs.size, l] := by
    simp only [List.mem_cons, List.not_mem_nil, or_false, not_or]
    exact ⟨Nat.ne_of_lt lS, hne.symm⟩
  have e0 : (s.heap.push { cls := .type "list_iterator", data := .fields #[.ref l, .int 0 0] }).get? S = some (newSetO w) := Heap.get?_push_of_some _ hS
  refine takes_walk (A := A) (P := P) (w := w) ((Walks.list (by simp [hh]) _ l hI items).toS) hSI xs [] 0 _ (by omega) (by simpa using hb) (fun j v pv hj => hv j v (by simpa using pv)) ⟨⟨_, Heap.get?_push_size _ rfl, rfl, rfl⟩, hl2.push _⟩ (empty_held e0) ?_
  intro s1 mv q
  obtain ⟨h', g', d', tk', o'⟩ := s1
  obtain rfl : g' = s.gens := mv.gens
  obtain rfl : d' = s.drawn := mv.drawn
  obtain rfl : o' = s.os := mv.os
  refine wpAny_pure (wpAny_pure ⟨_, rfl, h h' tk' q fun b o hb e => ?_⟩)
  refine mv.heap b o ?_ (Heap.get?_push_of_some _ e)
  simp only [List.mem_cons, List.not_mem_nil, or_false, not_or]
  exact ⟨hb, Nat.ne_of_lt (Heap.lt_size e)⟩
/-- set(xs) of a list of texts -/
theorem call_set_texts {l : Addr} {items : Array Value} {xs : List Str} {Q : Value → Shared → Prop} (hh : A.handled = none) (hl : s.heap.IsList l items) (hsz : items.size = xs.length) (hv : ∀ (j : Nat) (v : Value), items[j]? = some v → ∃ t, v = Value.str (xs.getD j ⟨#[]⟩) t)
    (hb : xs.length + 1 < scanBound) (h : ∀ h' tk, SetOfTexts w h' s.heap.objs.size (firsts [] xs) → (∀ b o, s.heap.get? b = some o → h'.get? b = some o) → Q (.ref s.heap.objs.size) { s with heap := h', toks := tk }) : wpAny (model P w) A (call (.type "set") [.ref l]) Q E s := by
  have c1 := F.called_set.notType
  have c2 := F.called_set.canCreate
  have c3 := F.called_set.made
  have c4 := F.called_set.sub
  have c5 := F.typeCall_set_1 (.ref l)
  obtain ⟨_, _, c6⟩ := F.called_set.mro
  refine wpAny_call (codeAny_of_tree ?_)
  show wpAny (model P w) _ (callAny (.type "set") ⟨[.ref l], []⟩) _ _ s
  refine wpAny_pure ⟨Code.quiet_builtin _ (by decide +kernel), codeAny_builtin F.entry_type_call ?_⟩
  rw [Around.under_plain (weight_type_call_type "set" [.ref l] []) rfl]
  repeat (any_goals (first | assumption | wp_step))
  refine codeAny_mono (code_set_led1 (.ref l) (E := E) (Q₁ := fun v s1 => v = .ref s.heap.objs.size ∧ s1 = { s with heap := s.heap.push (newSetO w) }) ⟨rfl, rfl⟩) fun r s1 hr => ?_
  obtain e | fl := r
  · exact hr
  cases fl <;> first | exact hr.elim | skip
  obtain ⟨rfl, rfl⟩ := hr
  have new : (s.heap.push (newSetO w)).get? s.heap.objs.size = some (newSetO w) := Heap.get?_push_size _ rfl
  have ty : Shared.TypeIs { s with heap := s.heap.push (newSetO w) } (.ref s.heap.objs.size) "set" := ⟨_, new, rfl⟩
  have c7 := F.called_set.init.lookup
  have c8 := F.called_set.init.bind (.ref s.heap.objs.size)
  have hlt : l ≠ s.heap.objs.size := by
    obtain ⟨o, ho, _⟩ := hl
    exact Nat.ne_of_lt (Heap.lt_size ho)
  repeat (any_goals (first | assumption | wp_step))
  refine codeAny_mono (codeAny_call_builtin (R := wants (fun r s2 => r = .none ∧ ∃ h' tk, s2 = { s with heap := h', toks := tk } ∧ SetOfTexts w h' s.heap.objs.size (firsts [] xs) ∧ ∀ b o, s.heap.get? b = some o → h'.get? b = some o) E) F.called_set.init.plain F.entry_set_init (check_set_init_1 ty ?_)) fun r2 s2 hr2 => ?_
  · refine wpAny_mono (init_texts (E := E) (Q := fun r s2 => r = .none ∧ ∃ h' tk, s2 = { s with heap := h', toks := tk } ∧ SetOfTexts w h' s.heap.objs.size (firsts [] xs) ∧ ∀ b o, s.heap.get? b = some o → h'.get? b = some o) (by simp [hh]) new (hl.push _) hlt hsz hv hb fun h' tk q k => ⟨rfl, h', tk, rfl, q, fun b o e => k b o (Nat.ne_of_lt (Heap.lt_size e)) (Heap.get?_push_of_some _ e)⟩) ?_ fun e s2 q => q
    rintro f s2 ⟨r, rfl, q⟩
    exact q
  · obtain e | fl := r2
    · exact hr2
    cases fl <;> first | exact hr2.elim | skip
    obtain ⟨rfl, h', tk, rfl, q, k⟩ := hr2
    repeat (any_goals (first | assumption | wp_step))
    exact h _ _ q k
end
end PL

set_option maxHeartbeats 4000000
namespace PL
open PySem PySem.Spec PyProof.Rows L2
theorem strs_of_ents {w : World} : ∀ {l : List Ent}, (∀ e ∈ l, IsEnt w e) → StrsAre (l.map fun e => e.2) (l.map fun e => txt e.2)
  | [], _ => .nil
  | e :: r, g => by
    obtain ⟨x, tk, h, _⟩ := g e List.mem_cons_self
    simp only [List.map_cons, h]
    exact .cons x tk (strs_of_ents fun e he => g e (List.mem_cons_of_mem _ he))
theorem strs_txt {vs : List Value} {ss : List Str} (h : StrsAre vs ss) : ss = vs.map txt := by
  induction h with
  | nil => rfl
  | cons x t _ ih => rw [ih]; rfl
theorem strs_mem {vs : List Value} (h : ∀ v ∈ vs, ∃ x t, v = Value.str x t) : StrsAre vs (vs.map txt) := by
  induction vs with
  | nil => exact .nil
  | cons v r ih =>
    obtain ⟨x, t, rfl⟩ := h v List.mem_cons_self
    exact .cons x t (ih fun v hv => h v (List.mem_cons_of_mem _ hv))
section
variable {P : Program} {w : World} {A : Around} {E : Value → Shared → Prop} {s : Shared} {a : Addr}
/-- sorted(a), a: a set of texts -/
theorem call_sorted_texts {ks : List Str} {Q : Value → Shared → Prop} (hh : A.handled = none) (H : SetOfTexts w s.heap a ks) (few : ks.length < 64)
    (hQ : ∀ s' p (out : Array Value) (c : Nat) (ys : List Str), (∀ b o, s.heap.get? b = some o → s'.heap.get? b = some o) → s'.gens = s.gens → s'.os = s.os → s.heap.objs.size ≤ p → s'.heap.get? p = some (seqObj "list" out c) → StrsAre out.toList ys → sortedS ys = true → ys.Nodup → ys.Perm ks → Q (.ref p) s') :
    wpAny (model P w) A (call (.builtin "sorted") [.ref a]) Q E s := by
  obtain ⟨es, t, ⟨⟨o, ep, ho, hx, hd⟩, ge, nd, fw, hf, hr, hl⟩, pm⟩ := H
  have sz : es.size = ks.length := by rw [← pm.length_eq, List.length_map, Array.length_toList]
  refine Calls.call_function_entry kind_sorted plain_sorted entry_sorted (args_sorted1 _) ?_
  unfold Builtin.«sorted»
  refine wpAny_bind (m := checkCount "sorted" 1 1 _) (wpAny_pure (wpAny_bind ?_))
  refine collect_set (by simp [hh]) ⟨o, ho, hx.1, hd⟩ hf fw hr hl fun s1 vs k1 z1 g1 o1 pv => ?_
  have len : vs.length = ks.length := by rw [pv.length_eq, List.length_map, Array.length_toList, sz]
  have hv : ∀ v ∈ vs, ∃ x tk, v = Value.str x tk := fun v hv => by
    obtain ⟨e, he, q⟩ := List.mem_map.mp (pv.mem_iff.mp hv)
    obtain ⟨x, tk, h, _⟩ := ge e he
    exact ⟨x, tk, q ▸ h⟩
  have hS := strs_mem hv
  have pt : (vs.map txt).Perm (texts es) := by
    have := pv.map txt
    rwa [List.map_map] at this
  refine wpAny_bind (wpAny_newList ?_ (by rw [len, sizeLine_eq]; omega))
  have hL : (s1.heap.push (seqObj "list" vs.toArray 0)).get? s1.heap.objs.size = some (seqObj "list" vs.toArray 0) := Heap.get?_push_size _ rfl
  refine wpAny_bind (wpAny_holding (wpAny_call_entry slot_list_sort ⟨_, hL, rfl⟩ entry_list_sort (list_sort_treeK strKind_oneLt hL hS.keysOf (fun v1 v2 rest e => keyKind_strs (ss := vs.map txt) (by rw [← e]; exact hS)) (by omega) fun st p1 p2 => ⟨_, rfl, ?_⟩) (args_list_sort _)))
  obtain ⟨ys, y1, y2, y3⟩ := sorted_out_str hS p1 p2
  obtain ⟨c, hc⟩ := sortedHeap_at (vs := vs) (out := (arrOf st).map (·.2)) hL
  have py := y2.trans pt
  refine wpAny_pure ⟨_, rfl, hQ _ s1.heap.objs.size _ c ys (fun b u e => ?_) g1 o1 z1 hc y1 y3 (py.nodup_iff.mpr nd) (py.trans pm)⟩
  have lt := Heap.lt_size (k1 b u e)
  show (sortedHeap (s1.heap.push (seqObj "list" vs.toArray 0)) s1.heap.objs.size vs ((arrOf st).map (·.2))).get? b = some u
  rw [sortedHeap_old (Nat.ne_of_lt lt) (by rw [size_push']; exact Nat.lt_succ_of_lt lt)]
  exact Heap.get?_push_of_some _ (k1 b u e)
end
/-- sorted(set(xs)) of a list of texts -/
def sortSetR (d : D) (M : Mem) (Q : DK) : Prop := ∃ es ss, lstAt M d = some es ∧ strsOf es = some ss ∧ ss.length < 63 ∧ ∀ ys p, SortsTo true ss ys → M p = none → Q (.ob p) (mupd M p (.lst (ys.map D.str)))
def sortSetK (Q : DK) : DK := fun d M => sortSetR d M Q
def dSortSet (te : DE) : DE := fun env M Q E => te env M (sortSetK Q) E
theorem s_sortSet {te env M Q E} : dSortSet te env M Q E = te env M (sortSetK Q) E := id rfl
theorem s_sortSetK {d M Q} : sortSetK Q d M = sortSetR d M Q := id rfl
theorem xe_sortedSet {X : Cx} {W : WX} {a : Expr} {ta : DE} {p p2 q pos : Pos} (hc : X.calm = true) (hg : Gl X "sorted") (hm : X.mg "sorted" = none) (hg2 : Gl X "set") (hm2 : X.mg "set" = none) (ha : XE X W a ta) (na : starEach [a] X.env = (false, eval a X.env) :: starEach [] X.env := by rfl) :
    XE X W (.Call (.Name "sorted" p) [.Call (.Name "set" p2) [a] [] q] [] pos) (dSortSet ta) := by
  refine ⟨fun env M Q Q' E E' hQ hE => ha.mono _ _ _ _ _ _ (fun d M1 ⟨es, ss, h1, h2, h3, h⟩ => ⟨es, ss, h1, h2, h3, fun ys p z1 z2 => hQ _ _ (h ys p z1 z2)⟩) hE, ⟨fun pins s σ H Q I h => ?_⟩⟩
  obtain ⟨env, M, re, sm, h⟩ := h
  have h1 : liftE X.K W ta σ H fun u H1 => ∃ (l : Addr) (ss : List Str), u = .ref l ∧ SqL X.K H1 l (ss.map V.str) ∧ ss.length < 63 ∧ ∀ ys p, SortsTo true ss ys → H1 p = none → Q (.ref p) (upd H1 p (.lst (ys.map V.str))) := by
    refine stepE ha.mono re sm h (fun d M1 u H1 e1 s1 re1 r1 q => ?_) fun _ _ _ z => z
    obtain ⟨es, ss, q1, q2, q3, q4⟩ := q
    obtain ⟨l, us, rfl, hs, lr⟩ := lstAt_rep s1 r1 q1
    rw [strsOf_eq q2] at lr
    rw [lr.strs] at hs
    exact ⟨l, ss, rfl, hs, q3, fun ys p z1 z2 => fin_lst (fun p hp => upK_mono e1 _ _ (q4 ys p z1 hp)) s1 z2 .of_strs⟩
  refine Call_ (ld_blt I hg hm (by rfl) ?_)
  refine PyProof.Rows.callWith_builtin1 (PyProof.Rows.args_cons ?_ rfl) rfl rfl
  refine Call_ (ld_blt I hg2 hm2 (by rfl) ?_)
  refine PyProof.Rows.callWith_type1 (PyProof.Rows.args_cons (thn (ha.pe.run pins s σ H _ I h1) fun v s1 ⟨x, H1, I1, r1, q1⟩ => PyProof.Rows.args_nil ?_) na) na rfl
  obtain ⟨l, ss, rfl, hs, few, q⟩ := q1
  cases r1
  obtain ⟨its, rv, pl, hz⟩ := I1.list hs
  have sa : StrsAre its ss := strsAre_of rv
  have isz : its.toArray.size = ss.length := by rw [List.size_toArray, ← rv.length, List.length_map]
  refine call_set_texts (I1.ok.hd hc) pl.isList isz (fun j v e => ?_) (by have : scanBound = 4096 := rfl; omega) fun h' tk S k => PyProof.Rows.args_nil ?_
  · obtain ⟨t, z⟩ := SS.strs_at sa j v (by simpa using e)
    exact ⟨t, z⟩
  have I2 : Inv X pins σ H1 { s1 with heap := h', toks := tk } := I1.kept k
  have fl := firsts_len ss []
  refine call_sorted_texts (s := { s1 with heap := h', toks := tk }) (I2.ok.hd hc) S (by simp only [List.length_nil] at fl; omega) fun s' p out c ys k2 g o hp e1 e2 e3 e4 e5 => ?_
  have hn : H1 p = none := I2.hok.fresh hp
  have ylen : (ys.map V.str).length ≤ sizeLine := by
    rw [List.length_map, e5.length_eq, sizeLine_eq]
    simp only [List.length_nil] at fl
    omega
  have J : Inv X pins σ (upd H1 p (.lst (ys.map V.str))) s' :=
    I2.call' (ch := []) o (Un.laid k2 hp hn) (I2.hok.laid k2 hp ⟨ylen, out.toList, c, vals_of_strs e2, e1⟩) (by rw [g]; exact I2.bare) fun _ z => nomatch z
  refine ⟨.ref p, _, J, rfl, q ys p ⟨e3, ?_⟩ hn⟩
  rw [if_pos rfl]
  refine ⟨e4, fun x => ?_⟩
  rw [e5.mem_iff, firsts_mem]
  simp
end PL

namespace PL
open PySem PySem.Spec PyProof.Rows L2

/-! what all laws have: the drawn numbers -/
def StAt (M : Mem) (a b : Addr) : Prop := ∃ p q c ns, M a = some (.lst [.ob b, .int p, .int q, .int c]) ∧ M b = some (.lst (List.map D.int ns)) ∧ 0 ≤ p ∧ 0 ≤ q ∧ b ≠ a
theorem StAt.keep {M M' : Mem} {a b : Addr} {S : List Addr} (h : StAt M a b) (k : Keep S M M') (ha : a ∉ S := by simp) (hb : b ∉ S := by simp) : StAt M' a b := by
  obtain ⟨p, q, c, ns, h1, h2, h3⟩ := h
  exact ⟨p, q, c, ns, k _ _ h1 ha, k _ _ h2 hb, h3⟩
theorem StAt.put {M : Mem} {a b l : Addr} {o : Ob} (h : StAt M a b) (ha : l ≠ a) (hb : l ≠ b) : StAt (mupd M l o) a b := h.keep (S := [l]) (Keep.put (by simp)) (by simpa using ha.symm) (by simpa using hb.symm)
theorem StAt.new {M : Mem} {a b l : Addr} {o : Ob} (h : StAt M a b) (hl : M l = none) : StAt (mupd M l o) a b := h.keep (S := []) (Keep.new hl)
theorem StAt.some {M : Mem} {a b : Addr} (h : StAt M a b) : (∃ o, M a = some o) ∧ ∃ o, M b = some o := by
  obtain ⟨p, q, c, ns, h1, h2, _⟩ := h
  exact ⟨⟨_, h1⟩, ⟨_, h2⟩⟩
theorem StAt.ne {M : Mem} {a b l : Addr} (h : StAt M a b) (hl : M l = none) : l ≠ a ∧ l ≠ b := by
  obtain ⟨⟨o, h1⟩, ⟨o2, h2⟩⟩ := h.some
  exact ⟨ne_new' h1 hl, ne_new' h2 hl⟩
theorem StAt.fresh {M M' : Mem} {a b l : Addr} (h : StAt M' a b) (k : Keep [a] M M') (hl : M' l = none) : M l = none := by
  cases e : M l with
  | none => rfl
  | some o =>
    have := k l o e (by simpa using (h.ne hl).1)
    rw [hl] at this
    cases this
def sp_start (K : PySem.W.Frag) : DSp := fun ds M Q E => ∃ a ns, ds = [.ob a] ∧ Scr K M a ns ∧ ∀ r b M', M r = none → M b = none → StAt M' r b → Keep [] M M' → Q (.ob r) M'
def sp_draw : DSp := fun ds M Q E => ∃ a b m, ds = [.ob a, .int m] ∧ StAt M a b ∧ 0 < m ∧ m < 1073741824 ∧ ∀ r M', 0 ≤ r → r < m → StAt M' a b → Keep [a] M M' → Q (.int r) M'
def seqI (M : Mem) : D → Option (List D)
  | .tup ds => some ds
  | .v (.str x) => some (signs x)
  | .v (.ref l) => match M l with
    | some (.lst ds) => some ds
    | _ => none
  | _ => none
def ofA (a : Addr) : D → Bool
  | .v (.ref l) => decide (l = a)
  | _ => false
theorem seqI_keep {M M' : Mem} {a : Addr} {d : D} {ds : List D} (h : seqI M d = some ds) (k : Keep [a] M M') (n : ofA a d = false) : seqI M' d = some ds := by
  unfold seqI at h ⊢
  split at h
  · exact h
  · exact h
  · rename_i l
    split at h
    · rename_i hm
      have hl : l ≠ a := by simpa [ofA] using n
      rw [k _ _ hm (by simpa using hl)]
      exact h
    · cases h
  · cases h
theorem signs_len (x : Str) : (signs x).length = x.length := by simp [signs, Str.length]
theorem len_seqI {M : Mem} {d : D} {ds : List D} {Q : DK} (h : seqI M d = some ds) (hl : ds.length ≤ sizeLine) (q : Q (.int ds.length) M) : (bLen [d] M).run M Q := by
  unfold seqI at h
  split at h
  · cases h; exact ⟨trivial, q⟩
  · cases h; rw [signs_len] at hl q; exact ⟨hl, q⟩
  · split at h
    · rename_i hm; cases h; simp only [bLen, hm]; exact ⟨trivial, q⟩
    · cases h
  · cases h
theorem atI_map' {α β : Type} (f : α → β) (xs : List α) (i : Int) : atI (xs.map f) i = (atI xs i).map f := by
  unfold atI
  rw [List.length_map]
  cases ixN xs.length i with
  | none => rfl
  | some j => simp
theorem ix_seqI {M : Mem} {d x : D} {ds : List D} {i : Int} {Q : DK} (h : seqI M d = some ds) (hl : ds.length ≤ sizeLine) (hx : atI ds i = some x) (q : Q x M) : (opIx d (.int i) M).run M Q := by
  unfold seqI at h
  split at h
  · cases h; simp only [opIx, hx]; exact ⟨trivial, q⟩
  · cases h
    rename_i z
    rw [signs_len] at hl
    unfold signs at hx
    rw [atI_map'] at hx
    cases e : atI z.cps.toList i with
    | none => rw [e] at hx; cases hx
    | some c =>
      rw [e] at hx
      cases hx
      simp only [opIx, e]
      exact ⟨hl, q⟩
  · split at h
    · rename_i hm; cases h; simp only [opIx, hm, hx]; exact ⟨trivial, q⟩
    · cases h
  · cases h
theorem atI_some {α : Type} {xs : List α} {i : Int} (h0 : 0 ≤ i) (h1 : i < xs.length) : ∃ x, atI xs i = some x ∧ x ∈ xs := by
  have h2 : i.toNat < xs.length := by omega
  refine ⟨xs[i.toNat], ?_, List.getElem_mem h2⟩
  unfold atI ixN
  rw [if_pos h0, if_pos h1]
  simp [h2]
theorem filter_tt {α : Type} (xs : List α) : xs.filter (fun _ => true) = xs := List.filter_eq_self.mpr fun _ _ => rfl
theorem atI_cons {α : Type} {x : α} {r : List α} {i : Int} : atI (x :: r) i = (ixN (r.length + 1) i).bind fun j => (x :: r)[j]? := rfl
theorem atI_zero {α : Type} {x : α} {r : List α} : atI (x :: r) 0 = some x := by
  unfold atI ixN
  simp
theorem atI_get {α : Type} {xs : List α} {i : Int} (h0 : 0 ≤ i) (h1 : i < xs.length) : atI xs i = some (xs[i.toNat]'(by omega)) := by
  unfold atI ixN
  rw [if_pos h0, if_pos h1]
  exact List.getElem?_eq_getElem _
theorem atI_natI {α : Type} {xs : List α} {i : Nat} (h1 : i < xs.length) : atI xs (i : Int) = some xs[i] := by
  rw [atI_get (by omega) (by omega)]
  simp
theorem atI_nat' {α : Type} {xs : List α} {i : Nat} (h1 : i < xs.length) : atI xs (0 + (i : Int)) = some xs[i] := by
  rw [Int.zero_add, atI_get (by omega) (by omega)]
  simp
def sp_one_of : DSp := fun ds M Q E => ∃ a b d es, ds = [.ob a, d] ∧ StAt M a b ∧ seqI M d = some es ∧ ofA a d = false ∧ es ≠ [] ∧ es.length < 16777216 ∧ ∀ x M', x ∈ es → StAt M' a b → Keep [a] M M' → Q x M'
/-! data of a law: ints, texts, tuples of such -/
mutual
def D.dat : D → Bool
  | .v (.int _) | .v (.str _) => true
  | .v _ => false
  | .tup ds => decide (ds.length < 1000000) && datL ds
def datL : List D → Bool
  | [] => true
  | d :: ds => d.dat && datL ds
end
theorem datL_mem : ∀ {ds : List D}, datL ds = true → ∀ d ∈ ds, d.dat = true
  | d :: ds, h, e, he => by
    simp only [datL, Bool.and_eq_true] at h
    rcases List.mem_cons.mp he with z | z
    · rw [z]; exact h.1
    · exact datL_mem h.2 e z
theorem dpL_mem : ∀ {ds : List D} {n : Nat}, dpL ds ≤ n → ∀ d ∈ ds, d.dp ≤ n
  | d :: ds, n, h, e, he => by
    simp only [dpL] at h
    rcases List.mem_cons.mp he with z | z
    · rw [z]; omega
    · exact dpL_mem (by omega) e z
def sp_is_int : DSp := fun ds M Q E => ∃ i, ds = [.int i] ∧ Q (.bl true) M
def sp_same (n : Nat) : DSp := fun ds M Q E => ∃ d, ds = [d, d] ∧ d.dat = true ∧ d.dp < n ∧ ∀ M', Keep [] M M' → Q (.bl true) M'
/-! isinstance of plain data -/
def isR (a : Option String) (n : String) : Res := match a with
  | some a => .val True (.bl (isi a n))
  | none => .bad
theorem q_is_tuple {d : D} {M : Mem} {Q : DK} : (bIsi [d, .v (.ty "tuple")] M).run M Q = (isR (tyN M d) "tuple").run M Q := by
  simp only [bIsi, isR]
  cases tyN M d with
  | none => rfl
  | some a => simp [Res.run]
theorem q_is_str {d : D} {M : Mem} {Q : DK} : (bIsi [d, .v (.ty "str")] M).run M Q = (isR (tyN M d) "str").run M Q := by
  simp only [bIsi, isR]
  cases tyN M d with
  | none => rfl
  | some a => simp [Res.run]
theorem q_is_int {d : D} {M : Mem} {Q : DK} : (bIsi [d, .v (.ty "int")] M).run M Q = (isR (tyN M d) "int").run M Q := by
  simp only [bIsi, isR]
  cases tyN M d with
  | none => rfl
  | some a => simp [Res.run]
theorem q_is_bool {d : D} {M : Mem} {Q : DK} : (bIsi [d, .v (.ty "bool")] M).run M Q = (isR (tyN M d) "bool").run M Q := by
  simp only [bIsi, isR]
  cases tyN M d with
  | none => rfl
  | some a => simp [Res.run]
theorem q_is_list {d : D} {M : Mem} {Q : DK} : (bIsi [d, .v (.ty "list")] M).run M Q = (isR (tyN M d) "list").run M Q := by
  simp only [bIsi, isR]
  cases tyN M d with
  | none => rfl
  | some a => simp [Res.run]
theorem q_isR {a n : String} {M : Mem} {Q : DK} : (isR (some a) n).run M Q = Q (.bl (isi a n)) M := by simp [isR, Res.run]
theorem i_NoneType_tuple : isi "NoneType" "tuple" = false := by decide
theorem i_NoneType_str : isi "NoneType" "str" = false := by decide
theorem i_NoneType_int : isi "NoneType" "int" = false := by decide
theorem i_NoneType_bool : isi "NoneType" "bool" = false := by decide
theorem i_NoneType_list : isi "NoneType" "list" = false := by decide
theorem i_bool_tuple : isi "bool" "tuple" = false := by decide
theorem i_bool_str : isi "bool" "str" = false := by decide
theorem i_bool_int : isi "bool" "int" = true := by decide
theorem i_bool_bool : isi "bool" "bool" = true := by decide
theorem i_bool_list : isi "bool" "list" = false := by decide
theorem i_int_tuple : isi "int" "tuple" = false := by decide
theorem i_int_str : isi "int" "str" = false := by decide
theorem i_int_int : isi "int" "int" = true := by decide
theorem i_int_bool : isi "int" "bool" = false := by decide
theorem i_int_list : isi "int" "list" = false := by decide
theorem i_str_tuple : isi "str" "tuple" = false := by decide
theorem i_str_str : isi "str" "str" = true := by decide
theorem i_str_int : isi "str" "int" = false := by decide
theorem i_str_bool : isi "str" "bool" = false := by decide
theorem i_str_list : isi "str" "list" = false := by decide
theorem i_tuple_tuple : isi "tuple" "tuple" = true := by decide
theorem i_tuple_str : isi "tuple" "str" = false := by decide
theorem i_tuple_int : isi "tuple" "int" = false := by decide
theorem i_tuple_bool : isi "tuple" "bool" = false := by decide
theorem i_tuple_list : isi "tuple" "list" = false := by decide
theorem i_list_tuple : isi "list" "tuple" = false := by decide
theorem i_list_str : isi "list" "str" = false := by decide
theorem i_list_int : isi "list" "int" = false := by decide
theorem i_list_bool : isi "list" "bool" = false := by decide
theorem i_list_list : isi "list" "list" = true := by decide
theorem i_dict_tuple : isi "dict" "tuple" = false := by decide
theorem i_dict_str : isi "dict" "str" = false := by decide
theorem i_dict_int : isi "dict" "int" = false := by decide
theorem i_dict_bool : isi "dict" "bool" = false := by decide
theorem i_dict_list : isi "dict" "list" = false := by decide
/-! == of plain data -/
theorem q_eqI {i j : Int} {M : Mem} {Q : DK} : (opEq (.int i) (.int j) M).run M Q = Q (.bl (decide (i = j))) M := by
  simp [opEq, pyM, D.pure, D.py, Res.run, PyData.depth, PyData.eqv, mostDeep, Bool.beq_eq_decide_eq]
theorem q_neI {i j : Int} {M : Mem} {Q : DK} : (opNe (.int i) (.int j) M).run M Q = Q (.bl (!decide (i = j))) M := by
  simp [opNe, pyM, D.pure, D.py, Res.run, PyData.depth, PyData.eqv, mostDeep, Bool.beq_eq_decide_eq]
theorem q_eqS {x y : Str} {M : Mem} {Q : DK} : (opEq (.str x) (.str y) M).run M Q = Q (.bl (decide (x = y))) M := by
  simp [opEq, pyM, D.pure, D.py, Res.run, PyData.depth, PyData.eqv, mostDeep, Bool.beq_eq_decide_eq]
theorem q_neS {x y : Str} {M : Mem} {Q : DK} : (opNe (.str x) (.str y) M).run M Q = Q (.bl (!decide (x = y))) M := by
  simp [opNe, pyM, D.pure, D.py, Res.run, PyData.depth, PyData.eqv, mostDeep, Bool.beq_eq_decide_eq]
mutual
theorem dat_pure : ∀ {d : D}, d.dat = true → d.pure = true
  | .v x, h => by cases x <;> first | rfl | (simp [D.dat] at h)
  | .tup ds, h => by
    simp only [D.dat, Bool.and_eq_true] at h
    simp only [D.pure]
    exact datL_pure h.2
theorem datL_pure : ∀ {ds : List D}, datL ds = true → pureL ds = true
  | [], _ => rfl
  | d :: ds, h => by
    simp only [datL, Bool.and_eq_true] at h
    simp only [pureL, Bool.and_eq_true]
    exact ⟨dat_pure h.1, datL_pure h.2⟩
end
mutual
theorem eqv_dat : ∀ {d e : D}, d.dat = true → e.dat = true → (D.eqv d e = true ↔ d = e)
  | .v x, .v y, h, g => by
    cases x <;> first | (simp [D.dat] at h; done) | skip
    all_goals cases y <;> first | (simp [D.dat] at g; done) | simp [D.eqv, D.py, PyData.eqv]
  | .v x, .tup es, h, g => by
    cases x <;> first | (simp [D.dat] at h; done) | simp [D.eqv, D.py, PyData.eqv]
  | .tup es, .v x, h, g => by
    cases x <;> first | (simp [D.dat] at g; done) | simp [D.eqv, D.py, PyData.eqv]
  | .tup ds, .tup es, h, g => by
    simp only [D.dat, Bool.and_eq_true] at h g
    have := eqvL_dat h.2 g.2
    simp only [D.eqv, D.py, PyData.eqv, D.tup.injEq]
    exact this
theorem eqvL_dat : ∀ {ds es : List D}, datL ds = true → datL es = true → (PyData.eqvAll (pyL ds) (pyL es) = true ↔ ds = es)
  | [], [], _, _ => by simp [pyL, PyData.eqvAll]
  | [], e :: es, _, _ => by simp [pyL, PyData.eqvAll]
  | d :: ds, [], _, _ => by simp [pyL, PyData.eqvAll]
  | d :: ds, e :: es, h, g => by
    simp only [datL, Bool.and_eq_true] at h g
    have h1 := eqv_dat h.1 g.1
    have h2 := eqvL_dat h.2 g.2
    simp only [pyL, PyData.eqvAll, Bool.and_eq_true, List.cons.injEq]
    unfold D.eqv at h1
    rw [h1, h2]
end
theorem ofS_inj {a b : String} : (Str.ofString a = Str.ofString b) = (a = b) := by
  apply propext
  constructor
  · intro h
    have h2 := congrArg TL.tl h
    rw [TL.tl_ofString, TL.tl_ofString] at h2
    have inj : ∀ xs ys : List Char, xs.map Char.toNat = ys.map Char.toNat → xs = ys := by
      intro xs
      induction xs with
      | nil => intro ys h; cases ys with
        | nil => rfl
        | cons y r => simp at h
      | cons x r ih => intro ys h; cases ys with
        | nil => simp at h
        | cons y t =>
          simp only [List.map_cons, List.cons.injEq] at h
          rw [Char.toNat_inj.mp h.1, ih t h.2]
    have h3 : a.toList = b.toList := inj _ _ h2
    exact String.toList_inj.mp h3
  · rintro rfl; rfl
/-! in of plain data -/
theorem any_str {x : Str} {fs : List Str} : ((fs.map D.str).any fun d => D.eqv d (.str x)) = decide (x ∈ fs) := by
  rw [List.any_map]
  induction fs with
  | nil => simp
  | cons y r ih =>
    rw [List.any_cons, ih]
    simp only [Function.comp, D.eqv, D.py, PyData.eqv, List.mem_cons, Bool.decide_or, Bool.beq_eq_decide_eq]
    congr 1
    exact decide_eq_decide.mpr eq_comm
theorem pureL_strs : ∀ {fs : List Str}, pureL (fs.map D.str) = true
  | [] => rfl
  | x :: r => by simp only [List.map_cons, pureL, D.pure, Bool.true_and]; exact pureL_strs
theorem dpL_strs : ∀ {fs : List Str}, dpL (fs.map D.str) = 0
  | [] => rfl
  | x :: r => by simp only [List.map_cons, dpL, D.dp, Nat.zero_max]; exact dpL_strs
theorem isIn_strs {x : Str} {fs : List Str} {a : Addr} {M : Mem} (h : M a = some (.lst (fs.map D.str)) ∨ M a = some (.rol (fs.map D.str))) : isIn (.str x) (.ob a) M = some (0, decide (x ∈ fs)) := by
  rcases h with h | h <;> simp [isIn, h, pureL_strs, dpL_strs, D.pure, D.dp] <;> (have := any_str (x := x) (fs := fs); simp only [List.any_map, Function.comp] at this; exact this)
theorem in_strs {x : Str} {fs : List Str} {a : Addr} {M : Mem} {Q : DK} (h : M a = some (.lst (fs.map D.str))) : (opIn (.str x) (.ob a) M).run M Q = Q (.bl (decide (x ∈ fs))) M := by
  simp [opIn, isIn_strs (.inl h), Res.run, mostDeep]
theorem notIn_strs {x : Str} {fs : List Str} {a : Addr} {M : Mem} {Q : DK} (h : M a = some (.lst (fs.map D.str))) : (opNotIn (.str x) (.ob a) M).run M Q = Q (.bl (!decide (x ∈ fs))) M := by
  simp [opNotIn, isIn_strs (.inl h), Res.run, mostDeep]
theorem in_tup {d : D} {ds : List D} {M : Mem} {Q : DK} (h1 : datL ds = true) (h2 : d.dat = true) (hm : d ∈ ds) (hd : dpL ds ≤ 150) (q : Q (.bl true) M) : (opIn d (.tup ds) M).run M Q := by
  have e : (ds.any fun e => D.eqv e d) = true := List.any_eq_true.mpr ⟨d, hm, (eqv_dat h2 h2).mpr rfl⟩
  simp only [opIn, isIn, datL_pure h1, dat_pure h2, Bool.and_self, if_true, e]
  exact ⟨Nat.le_trans (Nat.min_le_left _ _) hd, q⟩
/-! all, any of made bools -/
theorem run_all {α : Type} {xs : List α} {g : α → Bool} {a : Addr} {M : Mem} {Q : DK} (h : M a = some (.lst (xs.map fun x => D.bl (g x)))) (q : Q (.bl (xs.all g)) M) : (bAll [.ob a] M).run M Q := by
  simp only [bAll, h]
  rw [show (xs.map fun x => D.bl (g x)) = (xs.map g).map D.bl by rw [List.map_map]; rfl, bools_map]
  refine ⟨trivial, ?_⟩
  have e : (xs.map g).all id = xs.all g := by rw [List.all_map]; rfl
  rw [e]
  exact q
theorem run_any {α : Type} {xs : List α} {g : α → Bool} {a : Addr} {M : Mem} {Q : DK} (h : M a = some (.lst (xs.map fun x => D.bl (g x)))) (q : Q (.bl (xs.any g)) M) : (bAny [.ob a] M).run M Q := by
  simp only [bAny, h]
  rw [show (xs.map fun x => D.bl (g x)) = (xs.map g).map D.bl by rw [List.map_map]; rfl, bools_map]
  refine ⟨trivial, ?_⟩
  have e : (xs.map g).any id = xs.any g := by rw [List.any_map]; rfl
  rw [e]
  exact q
/-- a def of the module -/
structure Src (K : PySem.W.Frag) (mg : Str → Option Value) (x : Str) (st : Stmt) (ps : List Str) : Prop where
  ex : ∃ f fd, Fun K x x st f fd ∧ mg x = some (.ref f) ∧ PySem.W.keepIn K (.ref f) = true ∧ Binds K fd ps []
theorem Src.fn {P : Program} {w : World} {K : PySem.W.Frag} {mg : Str → Option Value} {base : Heap} {x : Str} {st : Stmt} {ps : List Str} {k : Nat} {sp : DSp} (S : Src K mg x st ps) (m : MonoSp sp)
    (h : ∀ f fd, Fun K x x st f fd → FnOk P w K mg base (L2.CX P w) k f fd ps (liftSp K sp)) : Fn P w K mg base k x sp [] := by
  obtain ⟨f, fd, F, h1, h2, h3⟩ := S.ex
  exact mkFn m (h f fd F) h1 h2 h3
theorem fn_none {P : Program} {w : World} {K : PySem.W.Frag} {mg : Str → Option Value} {base : Heap} {f : Addr} {fd : FuncData} {ps : List Str} {k : Nat} {sp : DSp} (h : ∀ ds M Q E, ¬ sp ds M Q E) : FnOk P w K mg base (L2.CX P w) k f fd ps (liftSp K sp) :=
  ⟨fun vs H Q E ⟨ds, M, _, _, z⟩ => (h _ _ _ _ z).elim, fun A outer s H args us vs Q E _ _ _ _ ⟨ds, M, _, _, z⟩ => (h _ _ _ _ z).elim⟩
theorem mono_start {K : PySem.W.Frag} : MonoSp (sp_start K) := by
  rintro ds M Q Q' E E' hQ hE ⟨a, ns, h1, h2, h⟩
  exact ⟨a, ns, h1, h2, fun r b M' z1 z2 z3 z4 => hQ _ _ (h r b M' z1 z2 z3 z4)⟩
theorem mono_draw : MonoSp sp_draw := by
  rintro ds M Q Q' E E' hQ hE ⟨a, b, m, h1, h2, h3, h4, h⟩
  exact ⟨a, b, m, h1, h2, h3, h4, fun r M' z1 z2 z3 z4 => hQ _ _ (h r M' z1 z2 z3 z4)⟩
theorem mono_one_of : MonoSp sp_one_of := by
  rintro ds M Q Q' E E' hQ hE ⟨a, b, d, es, h1, h2, h3, h4, h5, h6, h⟩
  exact ⟨a, b, d, es, h1, h2, h3, h4, h5, h6, fun x M' z1 z2 z3 => hQ _ _ (h x M' z1 z2 z3)⟩
theorem mono_is_int : MonoSp sp_is_int := by
  rintro ds M Q Q' E E' hQ hE ⟨i, h1, h⟩
  exact ⟨i, h1, hQ _ _ h⟩
theorem mono_same {n : Nat} : MonoSp (sp_same n) := by
  rintro ds M Q Q' E E' hQ hE ⟨d, h1, h2, h3, h⟩
  exact ⟨d, h1, h2, h3, fun M' z => hQ _ _ (h M' z)⟩
end PL

namespace PL
open PySem PySem.Spec PyProof.Rows L2

/-! own errors without fields -/
structure ECls (K : PySem.W.Frag) (mg : Str → Option Value) (x : Str) (C : Addr) : Prop where
  g : mg x = some (.ref C)
  n : PySem.W.excIn K C [.type "ValueError", .type "Exception", .type "BaseException", .type "object"] "ValueError.__new__" = true
  k : PySem.W.keepIn K (.ref C) = true
  b : PySem.W.subIn K (.ref C) (.type "BaseException") = some true
  t : PySem.W.typeIn K (.ref C) = some (.type "type")
  e : PySem.W.exmOne K (.ref C) (.ref C) = some true
  c : ExcC K C
theorem xs_raiseC {X : Cx} {W : WX} {pos p p2 pos2 : Pos} {x m : Str} {j : Nat} {C : Addr} (E : ECls X.K X.mg x C) (hc : X.calm = true) (tk : Takes X W) (hg : Gl X x) (hdb : (x == ("__debug__" : Str)) = false := by decide) :
    XS X W (.Raise (some (.Call (.Name x p) [.Constant (.str m) j p2] [] pos2)) none pos) (dRaise (.ref C) []) :=
  xs_raise0 hc tk (pmk_own PySem.F.excBase_ValueError E.n E.g E.k (raises_own E.b E.t) hg hdb)
/-- a suite that only errors of the class C reach -/
theorem suite_by {X : Cx} {C : Value} {st : List Stmt} {ts : Addr → DS} (h : ∀ (a : Addr) (oe : Obj) (pn : List (Addr × Obj)), Zc C none oe → (∃ vs, oe.data = .fields vs) → XSs (X.suite a ((a, oe) :: pn)) W0 st (ts a)) :
    ∀ (a : Addr) (oe : Obj) (cls : Value) (pn : List (Addr × Obj)), Zc cls none oe → (∃ vs, oe.data = .fields vs) → XSs (X.suite a ((a, oe) :: pn)) W0 st (fun D env M => cls = C ∧ ts a D env M) := by
  intro a oe cls pn hz hf
  by_cases e : cls = C
  · subst e
    have q := h a oe pn hz hf
    refine ⟨fun D D' env M l z => ⟨z.1, q.mono _ _ _ _ l z.2⟩, ⟨fun pins s σ H D I z => ?_⟩⟩
    obtain ⟨env, M, re, sm, _, z⟩ := z
    exact q.ps.run pins s σ H D I ⟨env, M, re, sm, z⟩
  · refine ⟨fun D D' env M l z => (e z.1).elim, ⟨fun pins s σ H D I z => ?_⟩⟩
    obtain ⟨env, M, re, sm, z, _⟩ := z
    exact (e z).elim
theorem suite_mono {C : Value} {ts : Addr → DS} (h : ∀ a, MonoS (ts a)) : ∀ (a : Addr) (cls : Value), MonoS (fun D env M => cls = C ∧ ts a D env M) := fun a cls D D' env M l z => ⟨z.1, h a _ _ _ _ l z.2⟩
theorem xs_tryC {X : Cx} {K : PySem.W.Frag} {mg : Str → Option Value} {W : WX} {x n : Str} {C : Addr} (i : Nat) {body suite : List Stmt} {b₀ : Stmt} {np pos' pos : Pos} {tb : DS} {ts : Addr → DS} (E : ECls K mg x C) (hK : X.K = K) (hmg : X.mg = mg) (hg : Gl X x) (hs : X.stack = X.env :: X.outer) (hf : X.env.frame = some X.env.locals) (hN : X.N.Nodup) (hln : X.env.kindOf n = some .local) (tk : Takes X W)
    (hb : ∀ (W : WX) (pn : List (Addr × Obj)) (xe : Value → Shared → Prop), Takes (X.tr pn xe) W → PassesOwn (model X.prog X.w) X.A X.env xe → XSs (X.tr pn xe) W body tb)
    (h : ∀ (a : Addr) (oe : Obj) (pn : List (Addr × Obj)), Zc (.ref C) none oe → (∃ vs, oe.data = .fields vs) → XSs (X.suite a ((a, oe) :: pn)) W0 (b₀ :: suite) (ts a)) (hdb : (x == ("__debug__" : Str)) = false := by decide) (hi : X.N[i]? = some n := by rfl) :
    XS X W (.Try body [.ExceptHandler (some (.Name x np)) (some n) (b₀ :: suite) pos'] [] [] pos) (dTryAs (fun z => PySem.W.exmOne K z (.ref C)) i tb (fun a cls D env M => cls = .ref C ∧ ts a D env M)) := by
  subst hK hmg
  have mb : MonoS tb := (hb W0 [] (fun _ _ => False) takes0 PassesOwn.never).mono
  have mt : ∀ a, MonoS (ts a) := fun a => (h a { cls := .ref C, dict := none, data := .fields #[] } [] ⟨rfl, rfl⟩ ⟨_, rfl⟩).mono
  exact xs_tryAs i hs hf hN hln ⟨hg, hdb, .inl E.g⟩ tk (suite_mono mt) hb (suite_by h) mb hi
/-- isinstance of the error that the suite holds -/
def bIsE (K : PySem.W.Frag) (D a : Addr) : DCallG := fun ds M Q => ∃ (c : V) (cv : Value) (b : Bool), ds = [.ob a, .v c] ∧ (∀ u, RelV c u → u = cv) ∧ PySem.W.kitOne K (.ref D) cv = some b ∧ Q (.bl b) M
theorem bIsE_mono {K : PySem.W.Frag} {D a : Addr} : MonoC (bIsE K D a) := by
  rintro ds M Q Q' hQ ⟨c, cv, b, h1, h2, h3, h⟩
  exact ⟨c, cv, b, h1, h2, h3, hQ _ _ h⟩
theorem c_isE {X : Cx} {K : PySem.W.Frag} {a D : Addr} {oe : Obj} {pn : List (Addr × Obj)} (C : ExcC K D) (hK : X.K = K) (hz : Zc (.ref D) none oe) (hf : ∃ vs, oe.data = .fields vs) : CallR (X.suite a ((a, oe) :: pn)) (.builtin "isinstance") (upCallG X.K (bIsE K D a)) := by
  subst hK
  rintro pins s σ H xs us Q I r ⟨ds, M, rl, sm, c, cv, b, rfl, h1, h2, h⟩
  obtain ⟨u, v, rfl, q1, q2⟩ := rl2 rl
  rw [rep_v q1, rep_v q2] at r
  exact call_isE C hz hf pins s σ H _ us Q I r ⟨c, cv, b, rfl, h1, h2, fin_val h sm⟩

/-! more of texts -/
def seqS (M : Mem) (d : D) : Option (List Str) := match d with
  | .tup ds => strsOf ds
  | d => (lstAt M d).bind strsOf
def mJoin : DMeth
  | .v (.str a), [d], M => match seqS M d with
    | some ys => .val ((ys.map (·.length)).sum + ys.length * a.length ≤ 16777216) (.str (Txt.join a ys))
    | none => .bad
  | _, _, _ => .bad
def mZfill : DMeth
  | .v (.str a), [.v (.int i)], _ => .val (PadOk i = true) (.str (Txt.zfill a i))
  | _, _, _ => .bad
def mFind3 : DMeth
  | .v (.str a), [.v (.str b), .v (.int i)], _ => .val True (.int (Txt.find3 a b i))
  | _, _, _ => .bad
section
variable {X : Cx}
theorem m_join : MtR X "str.join" (upMeth X.K mJoin) := by
  rintro pins s σ H x xs v us Q I rx rxs ⟨d, ds, M, r1, rl, sm, h⟩
  unfold mJoin at h
  split at h <;> first | exact h.elim | skip
  rename_i a d'
  split at h <;> first | exact h.elim | skip
  rename_i ys hy
  obtain ⟨u, rfl, q⟩ := rl1 rl
  rw [rep_v r1] at rx
  cases d' with
  | tup es =>
    obtain ⟨p, ws, rfl, q1, l1⟩ := rep_tup q
    rw [strsOf_eq (show strsOf es = some ys from hy)] at l1
    rw [l1.strs] at q1
    exact mt_join pins s σ H _ _ v us Q I rx rxs ⟨_, p, ys, rfl, rfl, .inr q1, h.1, fin_val h.2 sm⟩
  | v x =>
    obtain ⟨es, h1, h2⟩ := Option.bind_eq_some_iff.mp (show (lstAt M (.v x)).bind strsOf = some ys from hy)
    obtain ⟨p, ws, rfl, q1, l1⟩ := lstAt_rep sm q h1
    rw [strsOf_eq h2] at l1
    rw [l1.strs] at q1
    exact mt_join pins s σ H _ _ v us Q I rx rxs ⟨_, p, ys, rfl, rfl, .inl q1, h.1, fin_val h.2 sm⟩
theorem m_zfill : MtR X "str.zfill" (upMeth X.K mZfill) := by
  rintro pins s σ H x xs v us Q I rx rxs ⟨d, ds, M, r1, rl, sm, h⟩
  unfold mZfill at h
  split at h <;> first | exact h.elim | skip
  obtain ⟨u, rfl, q⟩ := rl1 rl
  rw [rep_v r1] at rx
  rw [rep_v q] at rxs
  exact mt_zfill pins s σ H _ _ v us Q I rx rxs ⟨_, _, rfl, rfl, h.1, fin_val h.2 sm⟩
theorem m_find3 : MtR X "str.find" (upMeth X.K mFind3) := by
  rintro pins s σ H x xs v us Q I rx rxs ⟨d, ds, M, r1, rl, sm, h⟩
  unfold mFind3 at h
  split at h <;> first | exact h.elim | skip
  obtain ⟨u, w, rfl, q, q2⟩ := rl2 rl
  rw [rep_v r1] at rx
  rw [rep_v q, rep_v q2] at rxs
  exact mt_find3 pins s σ H _ _ v us Q I rx rxs ⟨_, _, _, rfl, rfl, fin_val h.2 sm⟩
end
/-! range(i, j, c) -/
def rgc (lo c : Int) (n : Nat) : List D := (List.range n).map fun i => D.int (lo + (i : Nat) * c)
theorem rep_rangeC {K : PySem.W.Frag} {H0 : Hp} {lo c : Int} {n : Nat} : ItRep K H0 (Itc lo c n) ⟨rgc lo c n, fun _ => True⟩ where
  go := fun i H M e s k hi => by
    have hi : i < n := by simpa [rgc] using hi
    exact hi
  yld := fun i H M x H' e s k hi y => by
    obtain ⟨rfl, rfl⟩ := y
    have hi : i < n := by simpa [rgc] using hi
    exact ⟨.int (lo + (i : Nat) * c), by simp [rgc, hi], rep_of, Ext.refl, s⟩
  stop := fun H M e s k => by simp [rgc, Itc]
def rng3K (R : DIt → Mem → Prop) : List D → Mem → Prop := fun ds M => ∃ i j c n, ds = [.int i, .int j, .int c] ∧ RgC i j c n ∧ R ⟨rgc i c n, fun _ => True⟩ M
def dRange3 (ta : DA) : DI := fun env M R E => ta env M (rng3K R) E
theorem s_rng3 {ta : DA} {env M R E} : dRange3 ta env M R E = ta env M (rng3K R) E := id rfl
theorem s_rng3K {R ds M} : rng3K R ds M = ∃ i j c n, ds = [.int i, .int j, .int c] ∧ RgC i j c n ∧ R ⟨rgc i c n, fun _ => True⟩ M := id rfl
section
variable {X : Cx} {W : WX} {tg a b c : Expr} {ta : DA} {pos p : Pos}
theorem xi_range3 (hg : Gl X "range") (hm : X.mg "range" = none) (ha : XA X W [a, b, c] ta) (hs : starEach [a, b, c] X.env = (false, eval a X.env) :: starEach [b, c] X.env := by rfl) (hs2 : (backTo pos (starEach [b, c] X.env)).any (·.1) = false := by rfl) :
    XI X W tg (.Call (.Name "range" p) [a, b, c] [] pos) (dRange3 ta) := by
  refine ⟨fun env M Q Q' E E' hQ hE h => ?_, PIw (pi_range3 hg hm ha.pa hs hs2) ?_⟩
  · refine ha.mono env M _ _ _ _ (fun ds M1 q => ?_) hE h
    obtain ⟨i, j, c, n, h1, h2, h3⟩ := q
    exact ⟨i, j, c, n, h1, h2, hQ _ _ h3⟩
  rintro σ H R ⟨env, M, re, s, h⟩
  refine stepA ha.mono re s h (fun ds M1 us H1 e1 s1 re1 r1 q => ?_) fun _ _ _ z => z
  obtain ⟨i, j, c, n, rfl, h2, h3⟩ := q
  obtain ⟨u, r, rfl, q1, r1⟩ := r1
  obtain ⟨v, w, rfl, q2, q3⟩ := rl2 r1
  rw [rep_v q1, rep_v q2, rep_v q3]
  exact ⟨i, j, c, n, rfl, h2, h3 _ H1 e1 s1 rep_rangeC⟩
end
end PL

namespace PL
open PySem PySem.Spec PyProof.Rows L2 SX
/-! texts as lists of signs -/
theorem cps_S (l : List Nat) : (S l).cps.toList = l := rfl
theorem len_S (l : List Nat) : (S l).length = l.length := SX.S_len l
theorem cut_to {l : List Nat} {k : Nat} : cutS (S l) none (some (k : Int)) = S (l.take k) := by
  unfold cutS
  rw [HT.sIx_none, HT.sIx_nat, len_S, cps_S]
  apply congrArg S
  rw [List.drop_zero, Nat.sub_zero, List.take_eq_take_iff]
  omega
theorem cut_from {l : List Nat} {k : Nat} : cutS (S l) (some (k : Int)) none = S (l.drop k) := by
  unfold cutS
  rw [HT.sIx_none, HT.sIx_nat, len_S, cps_S]
  apply congrArg S
  by_cases h : k ≤ l.length
  · rw [Nat.min_eq_left h, List.take_of_length_le (by rw [List.length_drop]; omega)]
  · rw [Nat.min_eq_right (by omega), List.drop_eq_nil_of_le (Nat.le_refl _), List.drop_eq_nil_of_le (by omega), List.take_nil]
theorem cut_mid {l : List Nat} {i j : Nat} : cutS (S l) (some (i : Int)) (some (j : Int)) = S ((l.drop i).take (j - i)) := by
  unfold cutS
  rw [HT.sIx_nat, HT.sIx_nat, len_S, cps_S]
  apply congrArg S
  by_cases h : i ≤ l.length
  · rw [Nat.min_eq_left h, List.take_eq_take_iff, List.length_drop]
    omega
  · rw [Nat.min_eq_right (show l.length ≤ i by omega), List.drop_eq_nil_of_le (Nat.le_refl _), List.drop_eq_nil_of_le (show l.length ≤ i by omega), List.take_nil, List.take_nil]
theorem in_sign {c : Nat} {z : Str} {M : Mem} {Q : DK} : (opIn (.str (S [c])) (.str z) M).run M Q = Q (.bl (decide (c ∈ z.cps.toList))) M := by
  show ((match (if (1 : Nat) = 1 then some (0, decide (c ∈ z.cps.toList)) else none : Option (Nat × Bool)) with | some (n, b) => Res.val (n ≤ mostDeep) (D.bl b) | none => Res.bad).run M Q) = _
  rw [if_pos rfl]
  simp [Res.run]
theorem notIn_sign {c : Nat} {z : Str} {M : Mem} {Q : DK} : (opNotIn (.str (S [c])) (.str z) M).run M Q = Q (.bl (!decide (c ∈ z.cps.toList))) M := by
  show ((match (if (1 : Nat) = 1 then some (0, decide (c ∈ z.cps.toList)) else none : Option (Nat × Bool)) with | some (n, b) => Res.val (n ≤ mostDeep) (D.bl !b) | none => Res.bad).run M Q) = _
  rw [if_pos rfl]
  simp [Res.run]
theorem zfill_S {l : List Nat} {n : Nat} (h1 : l.length ≤ n) (h2 : ∀ c ∈ l.head?, c ≠ 43 ∧ c ≠ 45) : Txt.zfill (S l) (n : Int) = S (List.replicate (n - l.length) 48 ++ l) := by
  unfold Txt.zfill
  rw [len_S]
  by_cases h : (n : Int) ≤ l.length
  · rw [if_pos h, show n - l.length = 0 by omega]
    rfl
  · rw [if_neg h]
    have e : zfilled (S l) ((n : Int).toNat - l.length) = Builtin.Str.padded (S l) ((n : Int).toNat - l.length) 0 48 := by
      unfold zfilled
      have : (S l).cps[0]? = l.head? := by cases l <;> rfl
      rw [this]
      split
      · rename_i z; exact absurd rfl (h2 43 (by rw [z]; rfl)).1
      · rename_i z; exact absurd rfl (h2 45 (by rw [z]; rfl)).2
      · rfl
    rw [e]
    apply TL.ext_tl
    simp [Builtin.Str.padded, TL.tl]
theorem at_one {l : List Nat} {c i : Nat} : StrLaws.At (S l) (S [c]) (S l).length i ↔ l[i]? = some c := StrLaws.subAt_one (S l) c i
/-- find of one sign -/
theorem find_one {l : List Nat} {c k : Nat} (hk : k ≤ l.length) : Txt.find3 (S l) (S [c]) (k : Int) = if c ∈ l.drop k then ((k + ((l.drop k).takeWhile fun x => decide (x ≠ c)).length : Nat) : Int) else -1 := by
  have ek : fromIndex (S l).length (k : Int) = k := by
    unfold fromIndex
    rw [if_neg (by omega)]
    omega
  unfold Txt.find3
  rw [ek]
  rcases StrLaws.occ_head_from (S l) (S [c]) k 1 (Nat.le_refl 1) with ⟨e, h⟩ | ⟨i, r, e, h1, h2, h3⟩
  · rw [e, if_neg]
    intro hm
    obtain ⟨j, hj, q⟩ := List.getElem_of_mem hm
    refine h (k + j) (by omega) (at_one.mpr ?_)
    rw [← q, List.getElem_drop]
    exact List.getElem?_eq_getElem _
  · rw [e]
    have q := at_one.mp h2
    obtain ⟨hi, q⟩ := List.getElem?_eq_some_iff.mp q
    have hd : (l.drop k)[i - k]? = some c := by
      rw [List.getElem?_drop, show k + (i - k) = i by omega, List.getElem?_eq_getElem hi, q]
    have hm : c ∈ l.drop k := List.mem_of_getElem? hd
    rw [if_pos hm]
    have el : ((l.drop k).takeWhile fun x => decide (x ≠ c)).length = i - k := by
      have h4 : ∀ j, j < i - k → (l.drop k)[j]? ≠ some c := fun j hj z => h3 (k + j) (by omega) (by omega) (at_one.mpr (by rw [List.getElem?_drop] at z; exact z))
      generalize l.drop k = m at hd h4
      generalize i - k = n at hd h4
      clear e h1 h2 h3 q hi hm hk ek r
      induction n generalizing m with
      | zero =>
        cases m with
        | nil => rfl
        | cons a r =>
          have : a = c := by simpa using hd
          simp [List.takeWhile, this]
      | succ n ih =>
        cases m with
        | nil => cases hd
        | cons a r =>
          have ha : a ≠ c := fun z => h4 0 (by omega) (by rw [z]; rfl)
          have := ih r (by simpa using hd) (fun j hj => by have := h4 (j + 1) (by omega); simpa using this)
          simp only [List.takeWhile, decide_eq_true ha, List.length_cons, this]
    rw [el]
    show (i : Int) = _
    omega
end PL

namespace PL
open PySem PySem.Spec PyProof.Rows L2

/-! dicts: plain facts -/
def dropD {κ : Type} [DecidableEq κ] (kvs : List (κ × D)) (k : κ) : List (κ × D) := kvs.filter fun kv => decide (kv.1 ≠ k)
def mergeD {κ : Type} [DecidableEq κ] (kvs more : List (κ × D)) : List (κ × D) := more.foldl (fun acc kv => putD acc kv.1 kv.2) kvs
theorem RepKV.drop {κ : Type} [DecidableEq κ] {K : PySem.W.Frag} {H : Hp} {k : κ} : ∀ {kvs : List (κ × D)} {us : List (κ × V)}, RepKV K H kvs us → RepKV K H (dropD kvs k) (dropK us k)
  | [], _, h => by unfold RepKV at h; subst h; exact rfl
  | (k', d) :: r, _, h => by
    obtain ⟨u, t, rfl, q, z⟩ := h
    have ih := RepKV.drop (k := k) z
    unfold dropD dropK at ih ⊢
    by_cases e : k' = k
    · rw [List.filter_cons_of_neg (by simp [e]), List.filter_cons_of_neg (by simp [e])]
      exact ih
    · rw [List.filter_cons_of_pos (by simp [e]), List.filter_cons_of_pos (by simp [e])]
      exact ⟨u, _, rfl, q, ih⟩
theorem RepKV.merge {K : PySem.W.Frag} {H : Hp} : ∀ {more : List (Key × D)} {ms : List (Key × V)}, RepKV K H more ms → ∀ {kvs : List (Key × D)} {us : List (Key × V)}, RepKV K H kvs us → RepKV K H (mergeD kvs more) (mergeK us ms)
  | [], _, h, _, _, g => by unfold RepKV at h; subst h; exact g
  | (k, d) :: r, _, h, _, _, g => by
    obtain ⟨u, t, rfl, q, z⟩ := h
    exact RepKV.merge z (RepKV.put q g)
theorem RepKV.keys {κ : Type} {K : PySem.W.Frag} {H : Hp} : ∀ {kvs : List (κ × D)} {us : List (κ × V)}, RepKV K H kvs us → us.map (·.1) = kvs.map (·.1)
  | [], _, h => by unfold RepKV at h; subst h; rfl
  | (k, d) :: r, _, h => by
    obtain ⟨u, t, rfl, q, z⟩ := h
    simp only [List.map_cons, RepKV.keys z]
theorem RepKV.getD {K : PySem.W.Frag} {H : Hp} {kvs : List (Key × D)} {us : List (Key × V)} (h : RepKV K H kvs us) (k : Key) {d : D} {u : V} (q : RepD K H d u) : RepD K H ((PL.look kvs k).getD d) ((valV us k).getD u) := by
  have l := h.look k
  cases e : PL.look kvs k with
  | none => cases f : valV us k with
    | none => exact q
    | some _ => rw [e, f] at l; exact l.elim
  | some _ => cases f : valV us k with
    | none => rw [e, f] at l; exact l.elim
    | some _ => rw [e, f] at l; exact l
/-! get, pop -/
def dgetR (M : Mem) (a : Addr) (y z : D) : Res := match M a with
  | some (.dk kvs) => match y.key with
    | some k => .val True ((look kvs k).getD z)
    | none => .bad
  | _ => .bad
def mGet : DMeth
  | .v (.ref a), [y], M => dgetR M a y .non
  | .v (.ref a), [y, z], M => dgetR M a y z
  | _, _, _ => .bad
def mDPop : DMeth
  | .v (.ref a), [y], M => match M a with
    | some (.dk kvs) => match y.key with
      | some k => match look kvs k with
        | some d => .put True a (.dk (dropD kvs k)) d
        | none => .bad
      | none => .bad
    | _ => .bad
  | _, _, _ => .bad
section
variable {X : Cx}
theorem m_get (hu : X.A.units + 200 < cLine) : MtR X "dict.get" (upMeth X.K mGet) := by
  rintro pins s σ H x xs v us Q I rx rxs ⟨d, ds, M, r1, rl, sm, h⟩
  unfold mGet at h
  split at h <;> first | exact h.elim | skip
  all_goals
    unfold dgetR at h
    split at h <;> first | exact h.elim | skip
    split at h <;> first | exact h.elim | skip
  · rename_i kvs hm _ k hk
    obtain ⟨u, rfl, q⟩ := rl1 rl
    rw [rep_v r1] at rx
    obtain rfl : v = Value.ref _ := rx
    obtain ⟨ws, e1, l1⟩ := sm _ _ hm
    have e := key_rep hk q
    subst e
    obtain ⟨w, rfl, rw'⟩ := vals1 rxs
    exact d_get1 (by omega) I (DGet.k e1) rw' fun w' s' I' r' => ⟨_, H, I', r', fin_rep h.2 sm (l1.getD k rep_of)⟩
  · rename_i kvs hm _ k hk
    obtain ⟨u, z, rfl, q, q2⟩ := rl2 rl
    rw [rep_v r1] at rx
    obtain rfl : v = Value.ref _ := rx
    obtain ⟨ws, e1, l1⟩ := sm _ _ hm
    have e := key_rep hk q
    subst e
    obtain ⟨w, w2, rfl, rw', rw2⟩ := vals2 rxs
    exact d_get2 (by omega) I (DGet.k e1) rw' rw2 fun w' s' I' r' => ⟨_, H, I', r', fin_rep h.2 sm (l1.getD k q2)⟩
theorem m_dpop : MtR X "dict.pop" (upMeth X.K mDPop) := by
  rintro pins s σ H x xs v us Q I rx rxs ⟨d, ds, M, r1, rl, sm, h⟩
  unfold mDPop at h
  split at h <;> first | exact h.elim | skip
  split at h <;> first | exact h.elim | skip
  split at h <;> first | exact h.elim | skip
  split at h <;> first | exact h.elim | skip
  rename_i kvs hm _ k hk _ d hd
  obtain ⟨u, rfl, q⟩ := rl1 rl
  rw [rep_v r1] at rx
  obtain rfl : v = Value.ref _ := rx
  obtain ⟨ws, e1, l1⟩ := sm _ _ hm
  have e := key_rep hk q
  subst e
  obtain ⟨w, rfl, rw'⟩ := vals1 rxs
  have l := l1.look k
  rw [hd] at l
  cases hv : valV ws k with
  | none => rw [hv] at l; exact l.elim
  | some x =>
    rw [hv] at l
    have ex : Ext X.K H (upd H _ (.dK (dropK ws k))) := Ext.mut e1 True.intro
    exact d_pop I e1 rw' hv (.inl rfl) fun w' s' I' r' => ⟨x, _, I', r', fin_put h.2 sm e1 True.intro ⟨_, upd_same, RepKV.mono ex l1.drop⟩ l⟩
end
/-! dict(d), dict(pairs) -/
def pairKV : D → Option (Key × D)
  | .tup [x, y] => match x.key with
    | some k => some (k, y)
    | none => none
  | _ => none
def pairsKV : List D → Option (List (Key × D))
  | [] => some []
  | d :: r => match pairKV d, pairsKV r with
    | some p, some ps => some (p :: ps)
    | _, _ => none
def bDict : DCall
  | [.tup ds], _ => match pairsKV ds with
    | some kvs => .new (ds.length ≤ sizeLine) (.dk (mergeD [] kvs))
    | none => .bad
  | [.v (.ref a)], M => match M a with
    | some (.dk kvs) => .new True (.dk kvs)
    | _ => .bad
  | _, _ => .bad
theorem key_kV {d : D} {k : Key} (h : d.key = some k) {K : PySem.W.Frag} {H : Hp} : RepD K H d (kV k) := by
  unfold D.key at h
  split at h <;> cases h <;> exact rep_of
theorem pairs_rep {K : PySem.W.Frag} {H : Hp} : ∀ {ds : List D} {kvs : List (Key × D)} {us : List V}, pairsKV ds = some kvs → RepL K H ds us → ∃ (ps : List Addr) (ws : List (Key × V)), us = ps.map V.ref ∧ Paired (fun p kv => SqT K H p [kV kv.1, kv.2]) ps ws ∧ RepKV K H kvs ws
  | [], kvs, us, h, r => by
    unfold RepL at r
    simp only [pairsKV, Option.some.injEq] at h
    subst h r
    exact ⟨[], [], rfl, .nil, rfl⟩
  | d :: ds, kvs, us, h, r => by
    unfold RepL at r
    obtain ⟨u, t, rfl, q, z⟩ := r
    unfold pairsKV at h
    split at h
    · rename_i p ps h1 h2
      cases h
      obtain ⟨qs, ws, rfl, g1, g2⟩ := pairs_rep h2 z
      unfold pairKV at h1
      split at h1
      · split at h1
        · rename_i x y _ k hk
          cases h1
          obtain ⟨a, vs, rfl, q1, l⟩ := rep_tup q
          obtain ⟨v1, v2, rfl, r1, r2⟩ := rl2 l
          have e := key_rep hk r1
          subst e
          exact ⟨a :: qs, (k, v2) :: ws, rfl, .cons q1 g1, ⟨v2, ws, rfl, r2, g2⟩⟩
        · cases h1
      · cases h1
    · cases h
section
variable {X : Cx}
theorem pairs_at {pins : List (Addr × Obj)} {σ : L2.St} {H : Hp} {s : Shared} (I : Inv X pins σ H s) : ∀ {ps : List Addr} {kvs : List (Key × V)}, Paired (fun p kv => SqT X.K H p [kV kv.1, kv.2]) ps kvs →
    ∃ (prs : List (Key × Value)) (vv : List (Value × Value)), KV kvs prs ∧ prs.length = ps.length ∧ vv.length = ps.length ∧ (∀ (j : Nat) (k v : Value), vv[j]? = some (k, v) → PairAt s.heap (ps.getD j 0) k v ∧ ∃ q, prs[j]? = some q ∧ q.2 = v ∧ (mixKind X.prog X.w).is q.1 k = true)
  | _, _, .nil => ⟨[], [], .nil, rfl, rfl, fun j k v e => by simp at e⟩
  | _, _, .cons (a := p) (b := kv) h t => by
    obtain ⟨prs, vv, r, hl, hl2, hp⟩ := pairs_at I t
    obtain ⟨its, rv, ht, _⟩ := I.tuple h
    obtain ⟨u, y, ei, ru, ry⟩ := vals2 rv
    subst ei
    refine ⟨(kv.1, y) :: prs, (u, y) :: vv, .cons ⟨rfl, ry⟩ r, by rw [List.length_cons, List.length_cons, hl], by rw [List.length_cons, List.length_cons, hl2], fun j k v e => ?_⟩
    cases j with
    | zero =>
      have e' : (u, y) = (k, v) := Option.some.inj e
      cases e'
      exact ⟨.inl ht, (kv.1, y), rfl, rfl, kV_is ru⟩
    | succ j =>
      obtain ⟨g1, g2⟩ := hp j k v (by simpa using e)
      exact ⟨by simpa using g1, by simpa using g2⟩
/-- dict(xs) of a tuple of pairs that has no attributes -/
theorem call_dictPT (hcalm : X.calm = true) : CallR X (.type "dict") (fun xs H Q => ∃ (a : Addr) (o : Obj) (ps : List Addr) (kvs : List (Key × V)), xs = [.ref a] ∧ H a = some (.frz o (.tup (ps.map V.ref))) ∧ o.dict = none ∧ Paired (fun p kv => SqT X.K H p [kV kv.1, kv.2]) ps kvs ∧
    ∀ p, H p = none → Q (.ref p) (upd H p (.dK (mergeK [] kvs)))) := by
  intro pins s σ H xs us Q I r q
  obtain ⟨a, o, ps, kvs, ex, hq, hd, hp, q⟩ := q
  subst ex
  obtain ⟨u, eu, rx⟩ := vals1 r
  subst eu
  cases rx
  obtain ⟨ho, hz, its, rv, o', ho', hc, n, hdat⟩ := I.hok _ _ hq
  rw [ho] at ho'
  cases ho'
  have ei := refs_at rv
  subst ei
  rw [List.length_map] at hz
  obtain ⟨prs, vv, rel, hl, hl2, hpr⟩ := pairs_at I hp
  refine PySem.call_dict_pairs (knd := mixKind X.prog X.w) (kvs := prs) (PairArg.tuple a (ps.map Value.ref).toArray (fun j => ps.getD j 0) vv) (I.ok.hd hcalm) ⟨⟨o, n, ho, hc, hd, hdat⟩, by simp [hl2], fun j k v e => ⟨?_, (hpr j k v e).1⟩⟩ ⟨by rw [hl, hl2], fun i key v e => ?_⟩ (by rw [hl2]; exact hz) fun h' tk hd' k => ?_
  · have hj : j < ps.length := by rw [← hl2]; exact (List.getElem?_eq_some_iff.mp e).1
    simp [List.getElem?_eq_getElem hj]
  · obtain ⟨q', g1, g2, g3⟩ := (hpr i key v e).2
    exact ⟨q'.1, by rw [g1, ← g2], g3⟩
  · have hm : (s.heap.objs.size == sysModules) = false := beq_eq_false_iff_ne.mpr (Nat.ne_of_gt I.big)
    have hlen : (mergeK [] kvs).length ≤ sizeLine := by
      refine Nat.le_trans (length_mergeK kvs []) ?_
      rw [List.length_nil, Nat.zero_add, rel.length, hl]
      exact hz
    exact ⟨.ref s.heap.objs.size, upd H s.heap.objs.size (.dK (mergeK [] kvs)), I.laid (t' := tk) (fun b o e => k b o (by simp) e) (Nat.le_refl _) (show ObjOk X.prog X.w _ _ _ (.dK (mergeK [] kvs)) from ⟨hlen, hm, merged [] prs, KV.merge rel .nil, hd'⟩), rfl, q _ (I.hok.fresh (Nat.le_refl _))⟩
/-- tuple(xs), xs a list: the new tuple has no attributes -/
theorem call_tupleC : CallR X (.type "tuple") (fun xs H Q => ∃ p ys, xs = [.ref p] ∧ SqL X.K H p ys ∧ ∀ l o, o.dict = none → H l = none → Q (.ref l) (upd H l (.frz o (.tup ys)))) := by
  intro pins s σ H xs us Q I r h
  obtain ⟨p, ys, rfl, hq, q⟩ := h
  obtain ⟨u, rfl, rx⟩ := vals1 r
  cases rx
  obtain ⟨its, r', pl, hz⟩ := I.list hq
  have hlen := r'.length
  refine call_tuple_list pl.isList (fun h' kp => ?_) (by simp only [List.size_toArray] <;> omega)
  have I1 : Inv X pins σ H { s with heap := h' } := I.kept (t' := s.toks) kp
  have I2 : Inv X pins σ (upd H h'.objs.size (.frz { cls := .type "tuple", data := .seq its.toArray } (.tup ys))) { s with heap := h'.push { cls := .type "tuple", data := .seq its.toArray } } :=
    I1.laid (t' := s.toks) (fun b o e => Heap.get?_push_of_some _ e) (Nat.le_refl _) ⟨Heap.get?_push_size _ rfl, hz, its, r', IsTup.new _ _⟩
  exact ⟨.ref h'.objs.size, _, I2, rfl, q _ { cls := .type "tuple", data := .seq its.toArray } rfl (I1.hok.fresh (Nat.le_refl _))⟩
end
/-- tuple(list), told as a thing -/
def bTupC : DCall
  | [.v (.ref a)], M => match M a with
    | some (.lst ds) => .new True (.ctp ds)
    | some (.rol ds) => .new True (.ctp ds)
    | _ => .bad
  | _, _ => .bad
def bDictC : DCall
  | [.v (.ref a)], M => match M a with
    | some (.dk kvs) => .new True (.dk kvs)
    | some (.rdk kvs) => .new True (.dk kvs)
    | some (.ctp ds) => match pairsKV ds with
      | some kvs => .new True (.dk (mergeD [] kvs))
      | none => .bad
    | some (.lst ds) => match pairsKV ds with
      | some kvs => .new True (.dk (mergeD [] kvs))
      | none => .bad
    | _ => .bad
  | _, _ => .bad
section
variable {X : Cx}
theorem repO_ctp {K : PySem.W.Frag} {H : Hp} {p : Addr} {o : Obj} {ds : List D} {us : List V} (ex : Ext K H (upd H p (.frz o (.tup us)))) (n : o.dict = none) (l : RepL K H ds us) : RepO K (upd H p (.frz o (.tup us))) p (.ctp ds) := ⟨o, us, upd_same, n, RepL.mono ex _ l⟩
theorem c_tupC : CallR X (.type "tuple") (upCall X.K bTupC) := by
  rintro pins s σ H xs us Q I r ⟨ds, M, rl, sm, h⟩
  unfold bTupC at h
  split at h <;> first | exact h.elim | skip
  obtain ⟨u, rfl, q⟩ := rl1 rl
  rw [rep_v q] at r
  split at h <;> first | exact h.elim | skip
  · rename_i hm
    obtain ⟨ws, q1, l1⟩ := sm.seq (.inl hm)
    exact call_tupleC pins s σ H _ us Q I r ⟨_, _, rfl, q1, fun l o n hl => fin_new h.2 sm hl (repO_ctp (Ext.new hl) n l1)⟩
  · rename_i hm
    obtain ⟨ws, q1, l1⟩ := sm.seq (.inr hm)
    exact call_tupleC pins s σ H _ us Q I r ⟨_, _, rfl, q1, fun l o n hl => fin_new h.2 sm hl (repO_ctp (Ext.new hl) n l1)⟩
theorem repO_dk {K : PySem.W.Frag} {H : Hp} {p : Addr} {kvs : List (Key × D)} {us : List (Key × V)} (ex : Ext K H (upd H p (.dK us))) (l : RepKV K H kvs us) : RepO K (upd H p (.dK us)) p (.dk kvs) := ⟨us, upd_same, RepKV.mono ex l⟩
theorem c_dictC (hcalm : X.calm = true) : CallR X (.type "dict") (upCall X.K bDictC) := by
  rintro pins s σ H xs us Q I r ⟨ds, M, rl, sm, h⟩
  unfold bDictC at h
  split at h <;> first | exact h.elim | skip
  obtain ⟨u, rfl, q⟩ := rl1 rl
  rw [rep_v q] at r
  split at h <;> first | exact h.elim | skip
  · rename_i hm
    obtain ⟨ws, q1, l1⟩ := sm _ _ hm
    exact call_dictD pins s σ H _ us Q I r ⟨_, _, rfl, .inl q1, fun l hl => fin_new h.2 sm hl (repO_dk (Ext.new hl) l1)⟩
  · rename_i hm
    obtain ⟨o, ws, q1, l1⟩ := sm _ _ hm
    exact call_dictD pins s σ H _ us Q I r ⟨_, _, rfl, .inr ⟨o, q1⟩, fun l hl => fin_new h.2 sm hl (repO_dk (Ext.new hl) l1)⟩
  · split at h <;> first | exact h.elim | skip
    rename_i hm _ kvs hk
    obtain ⟨o, ws, q1, n, l1⟩ := sm _ _ hm
    obtain ⟨ps, vs, rfl, g1, g2⟩ := pairs_rep hk l1
    exact call_dictPT hcalm pins s σ H _ us Q I r ⟨_, o, _, _, rfl, q1, n, g1, fun l hl => fin_new h.2 sm hl (repO_dk (Ext.new hl) (RepKV.merge g2 rfl))⟩
  · split at h <;> first | exact h.elim | skip
    rename_i hm _ kvs hk
    obtain ⟨ws, q1, l1⟩ := sm.seq (.inl hm)
    obtain ⟨ps, vs, rfl, g1, g2⟩ := pairs_rep hk l1
    exact call_dictP hcalm pins s σ H _ us Q I r ⟨_, _, _, rfl, q1, g1, fun l hl => fin_new h.2 sm hl (repO_dk (Ext.new hl) (RepKV.merge g2 rfl))⟩
end
/-! == of two dicts, one of them empty -/
def eqDR (M : Mem) (x y : D) (f : Bool → Bool) : Res := match x, y with
  | .v (.ref a), .v (.ref b) => match M a, M b with
    | some (.dk ks), some (.dk ls) => .val (ks = [] ∨ ks.length ≠ ls.length) (.bl (f (decide (ks.length = ls.length))))
    | _, _ => .bad
  | _, _ => .bad
def opEqD : DOp2 := fun x y M => eqDR M x y id
def opNeD : DOp2 := fun x y M => eqDR M x y (!·)
section
variable {X : Cx}
theorem bl_eqD : ∀ x y M Q, (opEqD x y M).run M Q → (opEqD x y M).run M fun d M' => (∃ k, d = .bl k) ∧ Q d M' := fun x y M Q h => by
  unfold opEqD eqDR at h ⊢
  split at h <;> first | exact h.elim | skip
  split at h <;> first | exact h.elim | skip
  exact ⟨h.1, ⟨_, rfl⟩, h.2⟩
theorem bl_neD : ∀ x y M Q, (opNeD x y M).run M Q → (opNeD x y M).run M fun d M' => (∃ k, d = .bl k) ∧ Q d M' := fun x y M Q h => by
  unfold opNeD eqDR at h ⊢
  split at h <;> first | exact h.elim | skip
  split at h <;> first | exact h.elim | skip
  exact ⟨h.1, ⟨_, rfl⟩, h.2⟩
theorem x_eqD (hu : X.A.units + 200 < cLine) : XOp X (compareOp .Eq) opEqD := by
  rintro pins s σ H x y v u Q I rx ry ⟨dx, dy, M, r1, r2, sm, h⟩
  unfold opEqD eqDR at h
  split at h <;> first | exact h.elim | skip
  split at h <;> first | exact h.elim | skip
  rename_i a b _ _ ks ls hm1 hm2
  rw [rep_v r1] at rx
  rw [rep_v r2] at ry
  obtain rfl : v = Value.ref _ := rx
  obtain rfl : u = Value.ref _ := ry
  obtain ⟨us, ea, la⟩ := sm _ _ hm1
  obtain ⟨ws, eb, lb⟩ := sm _ _ hm2
  obtain ⟨_, ya, va, ra, da⟩ := (show ObjOk X.prog X.w H s.heap _ (.dK us) from I.hok _ _ ea)
  obtain ⟨_, yb, vb, rb, db⟩ := (show ObjOk X.prog X.w H s.heap _ (.dK ws) from I.hok _ _ eb)
  have l1 : va.length = ks.length := by rw [← ra.length]; exact la.length
  have l2 : vb.length = ls.length := by rw [← rb.length]; exact lb.length
  refine PySem.W.keq_eq (knd := mixKind X.prog X.w) (r := true) ya yb da db (by omega) (fun e => ?_) ?_
  · rcases h.1 with z | z
    · have : us = [] := List.eq_nil_of_length_eq_zero (by rw [la.length, z]; rfl)
      subst this
      exact hits_all rb ra fun p hp => by cases hp
    · exact absurd (by rw [← l1, ← l2]; exact e) z
  · exact ⟨.bl (decide (ks.length = ls.length)), H, I, by rw [l1, l2, Bool.and_true]; rfl, fin_val h.2 sm⟩
theorem x_neD (hu : X.A.units + 200 < cLine) : XOp X (compareOp .NotEq) opNeD := by
  rintro pins s σ H x y v u Q I rx ry ⟨dx, dy, M, r1, r2, sm, h⟩
  unfold opNeD eqDR at h
  split at h <;> first | exact h.elim | skip
  split at h <;> first | exact h.elim | skip
  rename_i a b _ _ ks ls hm1 hm2
  rw [rep_v r1] at rx
  rw [rep_v r2] at ry
  obtain rfl : v = Value.ref _ := rx
  obtain rfl : u = Value.ref _ := ry
  obtain ⟨us, ea, la⟩ := sm _ _ hm1
  obtain ⟨ws, eb, lb⟩ := sm _ _ hm2
  obtain ⟨_, ya, va, ra, da⟩ := (show ObjOk X.prog X.w H s.heap _ (.dK us) from I.hok _ _ ea)
  obtain ⟨_, yb, vb, rb, db⟩ := (show ObjOk X.prog X.w H s.heap _ (.dK ws) from I.hok _ _ eb)
  have l1 : va.length = ks.length := by rw [← ra.length]; exact la.length
  have l2 : vb.length = ls.length := by rw [← rb.length]; exact lb.length
  refine PySem.W.keq_ne (knd := mixKind X.prog X.w) (r := true) ya yb da db (by omega) (fun e => ?_) ?_
  · rcases h.1 with z | z
    · have : us = [] := List.eq_nil_of_length_eq_zero (by rw [la.length, z]; rfl)
      subst this
      exact hits_all rb ra fun p hp => by cases hp
    · exact absurd (by rw [← l1, ← l2]; exact e) z
  · exact ⟨.bl (!decide (ks.length = ls.length)), H, I, by rw [l1, l2, Bool.and_true]; rfl, fin_val h.2 sm⟩
end
/-! sorted of a dict's keys -/
def sKeys (kvs : List (Key × D)) (ss : List Str) : Prop := kvs.map (·.1) = ss.map Sum.inr
def iKeysD (kvs : List (Key × D)) (ss : List Int) : Prop := kvs.map (·.1) = ss.map Sum.inl
def dkAt (M : Mem) (a : Addr) (kvs : List (Key × D)) : Prop := M a = some (.dk kvs) ∨ M a = some (.rdk kvs)
theorem dkAt.rep {K : PySem.W.Frag} {H : Hp} {M : Mem} {a : Addr} {kvs : List (Key × D)} (h : dkAt M a kvs) (s : Sim K H M) : ∃ us, Rd H a (.dK us) ∧ RepKV K H kvs us := by
  rcases h with h | h
  · obtain ⟨us, q, l⟩ := s _ _ h; exact ⟨us, .inl q, l⟩
  · obtain ⟨o, us, q, l⟩ := s _ _ h; exact ⟨us, .inr ⟨o, q⟩, l⟩
def bSortD : DCallG := fun ds M Q => ∃ a kvs, ds = [.ob a] ∧ dkAt M a kvs ∧ ((∃ ss, sKeys kvs ss ∧ ss.length < 64 ∧ ∀ ys p, sortedS ys = true → ys.Perm ss → M p = none → Q (.ob p) (mupd M p (.lst (ys.map D.str)))) ∨
  ∃ ss, iKeysD kvs ss ∧ ss.length < 64 ∧ ∀ (ys : List Int) p, ys.Perm ss → ys.Pairwise (· ≤ ·) → M p = none → Q (.ob p) (mupd M p (.lst (ys.map D.int))))
theorem bSortD_mono : MonoC bSortD := by
  rintro ds M Q Q' hQ ⟨a, kvs, h1, h2, (⟨ss, h3, h4, h⟩ | ⟨ss, h3, h4, h⟩)⟩
  · exact ⟨a, kvs, h1, h2, .inl ⟨ss, h3, h4, fun ys p a b c => hQ _ _ (h ys p a b c)⟩⟩
  · exact ⟨a, kvs, h1, h2, .inr ⟨ss, h3, h4, fun ys p a b c => hQ _ _ (h ys p a b c)⟩⟩
section
variable {X : Cx}
theorem c_sortD (hcalm : X.calm = true) : CallR X (.builtin "sorted") (upCallG X.K bSortD) := by
  rintro pins s σ H xs us Q I r ⟨ds, M, rl, sm, a, kvs, rfl, hd, h⟩
  obtain ⟨u, rfl, q⟩ := rl1 rl
  rw [rep_v q] at r
  obtain ⟨ws, e1, l1⟩ := hd.rep sm
  rcases h with ⟨ss, h3, h4, h⟩ | ⟨ss, h3, h4, h⟩
  · exact call_sortedD hcalm pins s σ H _ us Q I r ⟨a, ws, ss, rfl, e1, by rw [l1.keys]; exact h3, h4, fun ys p z1 z2 hp => fin_lst (fun p hp => h ys p z2 z1 hp) sm hp .of_strs⟩
  · exact call_sortedDI hcalm pins s σ H _ us Q I r ⟨a, ws, ss, rfl, e1, by rw [l1.keys]; exact h3, h4, fun ys p z1 z2 hp => fin_lst (fun p hp => h ys p z1 z2 hp) sm hp .of_ints⟩
end
/-! a dict is walked by its keys, while it is locked -/
def keyD : Key → D
  | .inl i => .int i
  | .inr x => .str x
theorem keyD_key (k : Key) : (keyD k).key = some k := by cases k <;> rfl
theorem keyD_rep {K : PySem.W.Frag} {H : Hp} (k : Key) : RepD K H (keyD k) (kV k) := key_kV (keyD_key k)
theorem rep_keys {K : PySem.W.Frag} {H0 : Hp} {a : Addr} {o : Obj} {kvs : List (Key × D)} {us : List (Key × V)} (h0 : H0 a = some (.frz o (.dK us))) (l0 : RepKV K H0 kvs us) : ItRep K H0 (Itk a o us) ⟨kvs.map fun kv => keyD kv.1, fun _ => True⟩ where
  go := fun i H M e s _ hi => ⟨e.fz _ _ _ h0, by rw [l0.length]; simpa using hi⟩
  yld := fun i H M x H' e s _ hi y => by
    obtain ⟨rfl, k, v, hk, rfl⟩ := y
    refine ⟨keyD k, ?_, keyD_rep k, Ext.refl, s⟩
    have := congrArg (fun l => l[i]?) l0.keys
    simp only [List.getElem?_map, hk, Option.map_some] at this
    rw [List.getElem?_map]
    cases e2 : kvs[i]? with
    | none => rw [e2] at this; cases this
    | some p => rw [e2] at this; simp only [Option.map_some, Option.some.injEq] at this ⊢; rw [← this]
  stop := fun H M e s _ => ⟨e.fz _ _ _ h0, by rw [l0.length]; simp⟩
def keysR (R : DIt → Mem → Prop) : DK := fun d M => ∃ a kvs, d = .ob a ∧ M a = some (.rdk kvs) ∧ R ⟨kvs.map fun kv => keyD kv.1, fun _ => True⟩ M
def dKeys (te : DE) : DI := fun env M R E => te env M (keysR R) E
theorem s_keys {te env M R E} : dKeys te env M R E = te env M (keysR R) E := id rfl
section
variable {X : Cx} {W : WX} {tg e : Expr} {te : DE}
theorem xi_keys (he : XE X W e te) : XI X W tg e (dKeys te) := by
  refine ⟨fun env M Q Q' E E' hQ hE => he.mono env M _ _ _ _ (fun d M1 ⟨a, kvs, h1, h2, h⟩ => ⟨a, kvs, h1, h2, hQ _ _ h⟩) hE, PIw (pi_keys he.pe) ?_⟩
  rintro σ H R ⟨env, M, re, sm, h⟩
  refine stepE he.mono re sm h (fun d M1 u H1 e1 s1 re1 r1 q => ?_) fun _ _ _ z => z
  obtain ⟨a, kvs, rfl, hm, q⟩ := q
  obtain ⟨o, us, q1, l1⟩ := s1 _ _ hm
  exact ⟨a, o, rep_v r1, .inl ⟨us, q1, q _ H1 e1 s1 (rep_keys q1 l1)⟩⟩
abbrev SqTo (K : PySem.W.Frag) (H H' : Hp) : Prop := ∀ a xs, SqT K H a xs → SqT K H' a xs
mutual
theorem RepD.monoS {K : PySem.W.Frag} {H H' : Hp} (e : SqTo K H H') : ∀ (d : D) {u : V}, RepD K H d u → RepD K H' d u
  | .v _, _, h => by unfold RepD at h ⊢; exact h
  | .tup ds, _, h => by
    unfold RepD at h ⊢
    obtain ⟨a, us, e1, q, r⟩ := h
    exact ⟨a, us, e1, e _ _ q, RepL.monoS e ds r⟩
theorem RepL.monoS {K : PySem.W.Frag} {H H' : Hp} (e : SqTo K H H') : ∀ (ds : List D) {us : List V}, RepL K H ds us → RepL K H' ds us
  | [], _, h => by unfold RepL at h ⊢; exact h
  | d :: ds, _, h => by
    unfold RepL at h ⊢
    obtain ⟨u, r, e1, q, t⟩ := h
    exact ⟨u, r, e1, RepD.monoS e d q, RepL.monoS e ds t⟩
end
theorem RepKV.monoS {κ : Type} {K : PySem.W.Frag} {H H' : Hp} (e : SqTo K H H') : ∀ {kvs : List (κ × D)} {us : List (κ × V)}, RepKV K H kvs us → RepKV K H' kvs us
  | [], _, h => h
  | (k, d) :: r, _, h => by
    obtain ⟨u, t, e1, q, z⟩ := h
    exact ⟨u, t, e1, RepD.monoS e d q, RepKV.monoS e z⟩
theorem RepO.monoS {K : PySem.W.Frag} {H H' : Hp} {a : Addr} (e : SqTo K H H') (h : H' a = H a) : ∀ {o : Ob}, RepO K H a o → RepO K H' a o
  | .lst _, ⟨us, q, r⟩ => ⟨us, by rw [h]; exact q, RepL.monoS e _ r⟩
  | .rol _, ⟨o, us, q, r⟩ => ⟨o, us, by rw [h]; exact q, RepL.monoS e _ r⟩
  | .dk _, ⟨us, q, r⟩ => ⟨us, by rw [h]; exact q, RepKV.monoS e r⟩
  | .rdk _, ⟨o, us, q, r⟩ => ⟨o, us, by rw [h]; exact q, RepKV.monoS e r⟩
  | .ctp _, ⟨o, us, q, n, r⟩ => ⟨o, us, by rw [h]; exact q, n, RepL.monoS e _ r⟩
  | .ins _ _, ⟨dx, us, q, r⟩ => ⟨dx, us, by rw [h]; exact q, RepKV.monoS e r⟩
  | .xd _, ⟨us, q, r⟩ => ⟨us, by rw [h]; exact q, RepKV.monoS e r⟩
/-- while e runs, the dict that te gives is locked -/
def lockK (a : Addr) (kvs : List (Key × D)) (Q : DK) : DK := fun d M => M a = some (.rdk kvs) ∧ Q d (mupd M a (.dk kvs))
def dLock (t : DE) : DE := fun env M Q E => ∃ a kvs, M a = some (.dk kvs) ∧ t env (mupd M a (.rdk kvs)) (lockK a kvs Q) noX
theorem s_lockK {a kvs Q d M} : lockK a kvs Q d M = (M a = some (.rdk kvs) ∧ Q d (mupd M a (.dk kvs))) := id rfl
theorem xe_lock {t : DE} (he : XE X W e t) : XE X W e (dLock t) := by
  refine ⟨fun env M Q Q' E E' hQ hE ⟨a, kvs, h1, h⟩ => ⟨a, kvs, h1, he.mono _ _ _ _ _ _ (fun d M1 z => ⟨z.1, hQ _ _ z.2⟩) (fun _ _ _ z => z) h⟩, PEw (pe_lock he.pe) ?_⟩
  rintro σ H Q ⟨env, M, re, sm, a, kvs, hm, h⟩
  obtain ⟨us, q1, l1⟩ := sm _ _ hm
  refine ⟨a, _, q1, True.intro, fun od => ?_⟩
  have ex : Ext X.K H (upd H a (.frz od (.dK us))) := Ext.mut q1 True.intro
  have sm1 : Sim X.K (upd H a (.frz od (.dK us))) (mupd M a (.rdk kvs)) := sm.put q1 True.intro ⟨od, us, upd_same, RepKV.mono ex l1⟩
  refine stepE he.mono (re.mono ex) sm1 h (fun d M1 u H1 e1 s1 re1 r1 q => ?_) fun _ _ _ z => z.elim
  have hf : H1 a = some (.frz od (.dK us)) := e1.fz _ _ _ upd_same
  refine ⟨hf, ?_⟩
  have sq : ∀ b xs, SqT X.K H1 b xs → SqT X.K (upd H1 a (.dK us)) b xs := fun b xs g => by
    rcases g with (g | ⟨ob, g⟩) | g
    · exact .inl (.inl (by rw [upd_ne (fun z => by rw [z, hf] at g; cases g)]; exact g))
    · exact .inl (.inr ⟨ob, by rw [upd_ne (fun z => by rw [z, hf] at g; cases g)]; exact g⟩)
    · exact .inr g
  have ex2 : Ext X.K H (upd H1 a (.dK us)) := ⟨fun b xs g => sq b xs (e1.sq b xs (ex.sq b xs g)), fun b o v g => by
    have hb : b ≠ a := fun z => by rw [z, q1] at g; cases g
    rw [upd_ne hb]
    exact e1.fz _ _ _ (by rw [upd_ne hb]; exact g)⟩
  refine q.2 u _ ex2 (fun b ob g => ?_) (RepD.monoS sq d r1)
  by_cases hb : b = a
  · subst hb
    rw [mupd_same] at g
    cases g
    exact ⟨us, upd_same, RepKV.monoS sq (RepKV.mono e1 (RepKV.mono ex l1))⟩
  · rw [mupd_ne hb] at g
    exact (s1 b ob g).monoS sq (upd_ne hb)
end
/-! dict comprehensions -/
/-- a: the new dict; the items, what is made so far -/
def dDcGo (keep : Mem → Prop) (p : Pat) (tt : DT) (tk tv : DE) (env : DEnv) (a : Addr) (Q : DK) : List D → List (Key × D) → Mem → Prop
  | [], acc, M => keep M ∧ M a = some (.dk acc) ∧ Q (.ob a) M
  | x :: r, acc, M => keep M ∧ match p.bind M x env with
    | some env1 => tt env1 M (fun b M2 => if b = true then tk env1 M2 (fun y M3 => tv env1 M3 (fun z M4 => ∃ k, y.key = some k ∧ M4 a = some (.dk acc) ∧ acc.length < sizeLine ∧ dDcGo keep p tt tk tv env a Q r (putD acc k z) (mupd M4 a (.dk (putD acc k z)))) noX) noX else dDcGo keep p tt tk tv env a Q r acc M2) noX
    | none => False
def dcK (p : Pat) (tt : DT) (tk tv : DE) (vs : List Nat) (env : DEnv) (Q : DK) : DIt → Mem → Prop := fun J M => ∀ a, M a = none → dDcGo J.keep p tt tk tv (wipeD env vs) a Q J.items [] (mupd M a (.dk []))
def dDc (ti : DI) (p : Pat) (tt : DT) (tk tv : DE) (vs : List Nat) : DE := fun env M Q E => ti env M (dcK p tt tk tv vs env Q) E
theorem dDcGo_mono {keep : Mem → Prop} {p : Pat} {tt : DT} {tk tv : DE} (ht : MonoT tt) (hk : MonoE tk) (he : MonoE tv) {env : DEnv} {a : Addr} {Q Q' : DK} (hQ : ∀ d M, Q d M → Q' d M) : ∀ (xs : List D) (acc : List (Key × D)) (M : Mem), dDcGo keep p tt tk tv env a Q xs acc M → dDcGo keep p tt tk tv env a Q' xs acc M
  | [], acc, M, h => ⟨h.1, h.2.1, hQ _ _ h.2.2⟩
  | x :: r, acc, M, h => by
    refine ⟨h.1, ?_⟩
    have h2 := h.2
    split
    · rename_i env1 hb1
      rw [hb1] at h2
      refine ht _ _ _ _ _ _ (fun b M2 => ?_) (fun _ _ _ z => z) h2
      cases b with
      | true =>
        rw [if_pos rfl, if_pos rfl]
        exact hk _ _ _ _ _ _ (fun y M3 => he _ _ _ _ _ _ (fun z M4 ⟨k, z1, z2, z3, z4⟩ => ⟨k, z1, z2, z3, dDcGo_mono ht hk he hQ r _ _ z4⟩) (fun _ _ _ z => z)) (fun _ _ _ z => z)
      | false =>
        rw [if_neg Bool.false_ne_true, if_neg Bool.false_ne_true]
        exact dDcGo_mono ht hk he hQ r _ _
    · rename_i hb1
      rw [hb1] at h2
      exact h2
section
variable {X : Cx} {W : WX} {kx vx tg iter : Expr} {ifs : List Expr} {scope : Scope} {own : List (Str × Nat)} {pos : Pos} {ti : DI} {p : Pat} {tt : DT} {tk tv : DE}
theorem dc_up (hi : XI X W tg iter ti) (mt : MonoT tt) (mk : MonoE tk) (me : MonoE tv) (vs : List Nat) (hv : ∀ i ∈ p.slots, i ∈ vs) : ∀ σ H Q, liftE X.K W (dDc ti p tt tk tv vs) σ H Q → tDc (liftI X.K W ti) (p.tg X.K) (liftT X.K W0 tt) (liftE X.K W0 tk) (liftE X.K W0 tv) vs σ H Q := by
  rintro σ H Q ⟨env, M, re, s, h⟩
  refine ⟨env, M, re, s, hi.mono _ _ _ _ _ _ (fun J M1 q J' H1 e1 s1 ir => ?_) (fun _ _ _ z => z) h⟩
  intro a ha
  have q := q a (s1.free ha)
  have sA : Sim X.K (upd H1 a (.dK [])) (mupd M1 a (.dk [])) := s1.new ha (repO_dk (us := []) (Ext.new ha) rfl)
  have eA : Ext X.K H1 (upd H1 a (.dK [])) := Ext.new ha
  refine ⟨fun i m H' => m = J.items.length - i ∧ i ≤ J.items.length ∧ Ext X.K H1 H' ∧ ∃ M acc, Sim X.K H' M ∧ dDcGo J.keep p tt tk tv (wipeD env vs) a (upK X.K H Q) (J.items.drop i) acc M,
    ⟨J.items.length, by simp, Nat.zero_le _, eA, _, [], sA, by simpa using q⟩, ?_⟩
  rintro i m H2 ⟨rfl, hi2, e2, M2, acc, s2, q2⟩
  by_cases hlt : i < J.items.length
  · rw [List.drop_eq_getElem_cons hlt] at q2
    obtain ⟨kp, q2⟩ := q2
    refine .inr ⟨ir.go i H2 M2 e2 s2 kp hlt, fun H' => Ext X.K H1 H' ∧ ∃ M acc, Sim X.K H' M ∧ dDcGo J.keep p tt tk tv (wipeD env vs) a (upK X.K H Q) (J.items.drop (i + 1)) acc M, fun H' n => ⟨_, by omega, rfl, hlt, n⟩, fun x H3 y => ?_⟩
    obtain ⟨d, hd, r3, e3, s3⟩ := ir.yld i H2 M2 x H3 e2 s2 kp hlt y
    rw [List.getElem?_eq_getElem hlt] at hd
    obtain rfl := Option.some.inj hd
    split at q2
    · rename_i env3 hb3
      have re3 : RepE X.K H3 (wipeD env vs) (L2.wipe σ vs) := (re.mono ((e1.trans e2).trans e3)).wipe vs
      obtain ⟨σ3, h1, hw, h3⟩ := Pat.rep s3 vs p r3 re3 hb3 hv
      refine h3 _ ⟨hw.trans (wipe_wipe vs), ?_⟩
      refine stepT mt h1 s3 q2 (fun b M4 H4 e4 s4 re4 q4 => ?_) fun _ _ _ z => z.elim
      cases b with
      | true =>
        rw [if_pos rfl] at q4 ⊢
        refine stepE mk re4 s4 q4 (fun y M5 u H5 e5 s5 re5 r5 q5 => ?_) fun _ _ _ z => z.elim
        refine stepE me re5 s5 q5 (fun z M6 v H6 e6 s6 re6 r6 q6 => ?_) fun _ _ _ z => z.elim
        obtain ⟨k, hk, ma6, lz, q6⟩ := q6
        obtain ⟨us, h6, l6⟩ := s6 _ _ ma6
        have ey := key_rep hk r5
        have ex : Ext X.K H6 (upd H6 a (.dK (putK us k v))) := Ext.mut h6 True.intro
        refine ⟨us, k, ey, h6, by rw [l6.length]; exact lz, ((((e2.trans e3).trans e4).trans e5).trans e6).trans ex, _, _, s6.put h6 True.intro (repO_dk ex (RepKV.put r6 l6)), q6⟩
      | false =>
        rw [if_neg Bool.false_ne_true] at q4 ⊢
        exact ⟨(e2.trans e3).trans e4, M4, acc, s4, q4⟩
    · exact q2.elim
  · have e : i = J.items.length := by omega
    subst e
    rw [List.drop_length] at q2
    exact .inl ⟨ir.stop H2 M2 e2 s2 q2.1, q2.2.2 (.ref a) H2 (e1.trans e2) s2 rep_of⟩
theorem xe_dc (hc : X.calm = true) (hN : X.N.Nodup) (hi : XI X W tg iter ti) (ok : BlkOk X.N X.env.scope scope own) (hg : BlkAll X scope fun Y => PG Y tg (p.tg X.K)) (ht : BlkAll X scope fun Y => XTs Y W0 ifs tt) (hk : BlkAll X scope fun Y => XE Y W0 kx tk) (he : BlkAll X scope fun Y => XE Y W0 vx tv)
    (hv : p.slots.all (fun i => decide (i ∈ own.map (·.2))) = true := by decide) (hs : ∀ x, foldedSetIterable iter X.env x = pure x := by intro _; rfl) : XE X W (.DictComp kx vx [⟨tg, iter, ifs, 0⟩] scope pos) (dDc ti p tt tk tv (own.map (·.2))) := by
  have mt := (ht X.s_0 X.H_0 0 [] []).mono
  have mk := (hk X.s_0 X.H_0 0 [] []).mono
  have me := (he X.s_0 X.H_0 0 [] []).mono
  refine ⟨fun env M Q Q' E E' hQ hE => hi.mono _ _ _ _ _ _ (fun J M1 q a ha => dDcGo_mono mt mk me hQ _ _ _ (q a ha)) hE, PEw (pe_dc (g := p.tg X.K) (tt := liftT X.K W0 tt) (tk := liftE X.K W0 tk) (tv := liftE X.K W0 tv) hc hN hi.pi ok hg (fun s H C cl fp => (ht s H C cl fp).pts) (fun s H C cl fp => (hk s H C cl fp).pe) (fun s H C cl fp => (he s H C cl fp).pe) hs) (dc_up hi mt mk me _ fun i h => ?_)⟩
  exact of_decide_eq_true (List.all_eq_true.mp hv i h)
end
end PL

namespace PL
open PySem PySem.Spec PyProof.Rows L2
/-! dict displays -/
abbrev DPs := DEnv → Mem → (List (D × D) → Mem → Prop) → DX → Prop
def dpNil : DPs := fun _ M R _ => R [] M
def dpK3 (x y : D) (R : List (D × D) → Mem → Prop) : List (D × D) → Mem → Prop := fun ps M => R ((x, y) :: ps) M
def dpK2 (x : D) (r : DPs) (env : DEnv) (R : List (D × D) → Mem → Prop) (E : DX) : DK := fun y M => r env M (dpK3 x y R) E
def dpK1 (tv : DE) (r : DPs) (env : DEnv) (R : List (D × D) → Mem → Prop) (E : DX) : DK := fun x M => tv env M (dpK2 x r env R E) E
def dpCons (tk tv : DE) (r : DPs) : DPs := fun env M R E => tk env M (dpK1 tv r env R E) E
def kvOf : List (D × D) → Option (List (Key × D))
  | [] => some []
  | (x, y) :: r => match x.key, kvOf r with
    | some k, some kvs => some ((k, y) :: kvs)
    | _, _ => none
def optKV (o : Option (List (Key × D))) (f : List (Key × D) → Prop) : Prop := match o with
  | some kvs => f kvs
  | none => False
def dispK (p : Addr) (Q : DK) : List (D × D) → Mem → Prop := fun ps M => M p = some (.dk []) ∧ optKV (kvOf ps) fun kvs => kvs.length ≤ 15 ∧ Q (.ob p) (mupd M p (.dk (mergeD [] kvs)))
def dDisp (r : DPs) : DE := fun env M Q E => ∀ p, M p = none → r env (mupd M p (.dk [])) (dispK p Q) E
section
variable {env : DEnv} {M : Mem} {Q : DK} {E : DX} {R : List (D × D) → Mem → Prop}
theorem s_dpNil : dpNil env M R E = R [] M := id rfl
theorem s_dpCons {tk tv r} : dpCons tk tv r env M R E = tk env M (dpK1 tv r env R E) E := id rfl
theorem s_dpK1 {tv r x} : dpK1 tv r env R E x M = tv env M (dpK2 x r env R E) E := id rfl
theorem s_dpK2 {x r y} : dpK2 x r env R E y M = r env M (dpK3 x y R) E := id rfl
theorem s_dpK3 {x y ps} : dpK3 x y R ps M = R ((x, y) :: ps) M := id rfl
theorem s_disp {r} : dDisp r env M Q E = ∀ p, M p = none → r env (mupd M p (.dk [])) (dispK p Q) E := id rfl
theorem s_dispK {p ps} : dispK p Q ps M = (M p = some (.dk []) ∧ optKV (kvOf ps) fun kvs => kvs.length ≤ 15 ∧ Q (.ob p) (mupd M p (.dk (mergeD [] kvs)))) := id rfl
theorem s_optKV {kvs} {f : List (Key × D) → Prop} : optKV (some kvs) f = f kvs := id rfl
theorem kv_nil : kvOf [] = some [] := id rfl
theorem kv_str {x : Str} {y : D} {r kvs} (h : kvOf r = some kvs) : kvOf ((.str x, y) :: r) = some ((.inr x, y) :: kvs) := by
  unfold kvOf
  rw [h]
  rfl
end
def RepPs (K : PySem.W.Frag) (H : Hp) : List (D × D) → List (V × V) → Prop
  | [], us => us = []
  | (x, y) :: r, us => ∃ u v t, us = (u, v) :: t ∧ RepD K H x u ∧ RepD K H y v ∧ RepPs K H r t
theorem kv_rep {K : PySem.W.Frag} {H : Hp} : ∀ {ps : List (D × D)} {kvs : List (Key × D)} {us : List (V × V)}, kvOf ps = some kvs → RepPs K H ps us → ∃ ws : List (Key × V), us = ws.map (fun kv => (kV kv.1, kv.2)) ∧ RepKV K H kvs ws
  | [], kvs, us, h, r => by
    unfold kvOf at h
    unfold RepPs at r
    cases h
    subst r
    exact ⟨[], rfl, rfl⟩
  | (x, y) :: ps, kvs, us, h, r => by
    obtain ⟨u, v, t, rfl, q1, q2, z⟩ := r
    unfold kvOf at h
    split at h
    · rename_i k kvs' hk h2
      cases h
      obtain ⟨ws, rfl, l⟩ := kv_rep h2 z
      have e := key_rep hk q1
      subst e
      exact ⟨(k, v) :: ws, rfl, ⟨v, ws, rfl, q2, l⟩⟩
    · cases h
def MonoPs (t : DPs) : Prop := ∀ env M (Q Q' : List (D × D) → Mem → Prop) (E E' : DX), (∀ d M, Q d M → Q' d M) → (∀ c f M, E c f M → E' c f M) → t env M Q E → t env M Q' E'
def liftPs (K : PySem.W.Frag) (W : WX) (t : DPs) (σ : L2.St) (H : Hp) (Q : List (V × V) → Hp → Prop) : Prop := ∃ env M, RepE K H env σ ∧ Sim K H M ∧ t env M (fun ps M' => ∀ us H', Ext K H H' → Sim K H' M' → RepPs K H' ps us → Q us H') (upX K W H σ)
structure XPs (X : Cx) (W : WX) (pos : Pos) (keys : List (Option Expr)) (values : List Expr) (t : DPs) : Prop where
  mono : MonoPs t
  run : ∀ (pins : List (Addr × Obj)) (s : Shared) (σ : L2.St) (H : Hp) (Q : List (V × V) → Hp → Prop), Inv X pins σ H s → liftPs X.K W t σ H Q →
    wpAny (model X.prog X.w) X.A (evalPairs (pairTrees keys values X.env pos)) (fun vs s' => ∃ ps H', Inv X pins σ H' s' ∧ VV ps vs ∧ Q ps H') X.xe s
section
variable {X : Cx} {W : WX} {pos : Pos} {k v : Expr} {ks : List (Option Expr)} {vs : List Expr} {tk tv : DE} {t : DPs}
theorem xps_nil : XPs X W pos [] [] dpNil := by
  refine ⟨fun env M Q Q' E E' hQ hE h => hQ _ _ h, fun pins s σ H Q I h => ?_⟩
  obtain ⟨env, M, re, sm, h⟩ := h
  exact pairTrees_nil_walk ⟨[], H, I, .nil, h [] H Ext.refl sm rfl⟩
theorem xps_cons (hk : XE X W k tk) (hv : XE X W v tv) (hr : XPs X W pos ks vs t) : XPs X W pos (some k :: ks) (v :: vs) (dpCons tk tv t) := by
  refine ⟨fun env M Q Q' E E' hQ hE => hk.mono _ _ _ _ _ _ (fun x M1 => hv.mono _ _ _ _ _ _ (fun y M2 => hr.mono _ _ _ _ _ _ (fun ps M3 => hQ _ _) hE) hE) hE, fun pins s σ H Q I h => ?_⟩
  obtain ⟨env, M, re, sm, h⟩ := h
  have q : liftE X.K W tk σ H fun u H1 => liftE X.K W tv σ H1 fun v H2 => liftPs X.K W t σ H2 fun us H3 => Q ((u, v) :: us) H3 := by
    refine stepE hk.mono re sm h (fun x M1 u H1 e1 s1 re1 r1 q => ?_) fun _ _ _ z => z
    refine stepE hv.mono re1 s1 q (fun y M2 v H2 e2 s2 re2 r2 q2 => ?_) (upX_mono e1)
    refine ⟨env, M2, re2, s2, hr.mono _ _ _ _ _ _ (fun ps M3 q3 us H3 e3 s3 r3 => ?_) (upX_mono (e1.trans e2)) q2⟩
    exact q3 ((u, v) :: us) H3 ((e1.trans e2).trans e3) s3 ⟨u, v, us, rfl, RepD.mono (e2.trans e3) _ r1, RepD.mono e3 _ r2, r3⟩
  exact pairTrees_cons_walk (thn (hk.pe.run pins s σ H _ I q) fun u s1 ⟨x, H1, I1, rx, q1⟩ => thn (hv.pe.run pins s1 σ H1 _ I1 q1) fun w2 s2 ⟨y, H2, I2, ry, q2⟩ =>
    thn (hr.run pins s2 σ H2 _ I2 q2) fun ws s3 ⟨ps, H3, I3, rel, q3⟩ => ⟨(x, y) :: ps, H3, I3, .cons ⟨rx, ry⟩ rel, q3⟩)
theorem RepKV.len {K : PySem.W.Frag} {H : Hp} {kvs : List (Key × D)} {us : List (Key × V)} (h : RepKV K H kvs us) : us.length = kvs.length := h.length
theorem xe_disp (h : XPs X W pos ks vs t) (hall : ks.all (·.isSome) = true := by rfl) (hl : ks.length = vs.length := by rfl) (h0 : ks ≠ [] := by decide) (h15 : ks.length ≤ 15 := by decide) : XE X W (.Dict ks vs pos) (dDisp t) := by
  have mono : MonoE (dDisp t) := by
    intro env M Q Q' E E' hQ hE z p hp
    refine h.mono _ _ _ _ _ _ ?_ hE (z p hp)
    rintro ps M1 ⟨z1, z2⟩
    refine ⟨z1, ?_⟩
    cases e : kvOf ps with
    | none => rw [e] at z2; exact z2
    | some kvs => rw [e] at z2; exact ⟨z2.1, hQ _ _ z2.2⟩
  refine ⟨mono, ⟨fun pins s σ H Q I q => ?_⟩⟩
  obtain ⟨env, M, re, sm, q⟩ := q
  have hn := I.hok.fresh (Nat.le_refl s.heap.objs.size)
  have I1 := I.laid (a := s.heap.objs.size) (o := .dK []) (h' := s.heap.push { cls := .type "dict", data := .dict #[] }) (t' := s.toks) (fun _ _ q => Heap.get?_push_of_some _ q) (Nat.le_refl _) (dk_empty s.heap I.big)
  have ex : Ext X.K H (upd H s.heap.objs.size (.dK [])) := Ext.new hn
  have q1 : liftPs X.K W t σ (upd H s.heap.objs.size (.dK [])) fun us H2 => H2 s.heap.objs.size = some (.dK []) ∧ ∃ kvs : List (Key × V), us = kvs.map (fun kv => (kV kv.1, kv.2)) ∧ kvs.length ≤ 15 ∧ Q (.ref s.heap.objs.size) (upd H2 s.heap.objs.size (.dK (mergeK [] kvs))) := by
    refine ⟨env, _, re.mono ex, sm.new hn (repO_dk (kvs := []) (us := []) ex rfl), h.mono _ _ _ _ _ _ (fun ps M2 z us H2 e2 s2 r2 => ?_) (upX_mono ex) (q _ (sm.free hn))⟩
    obtain ⟨z1, z2⟩ := z
    cases e : kvOf ps with
    | none => rw [e] at z2; exact z2.elim
    | some kvs =>
      rw [e] at z2
      obtain ⟨z2, z3⟩ := z2
      obtain ⟨ws, rfl, l⟩ := kv_rep e r2
      obtain ⟨xs, hx, lx⟩ := s2 _ _ z1
      unfold RepKV at lx
      subst lx
      refine ⟨hx, ws, rfl, by rw [l.length]; exact z2, ?_⟩
      have ex3 : Ext X.K H2 (upd H2 s.heap.objs.size (.dK (mergeK [] ws))) := Ext.mut hx True.intro
      exact z3 _ _ ((ex.trans e2).trans ex3) (s2.put hx True.intro (repO_dk ex3 (RepKV.merge l rfl))) rep_of
  refine wpAny_Dict_walk (knd := mixKind X.prog X.w) hall hl h0 h15 (thn (h.run pins _ σ _ _ I1 q1) fun ws s2 ⟨ps, H2, I2, rel, e, kvs, ep, lk, q2⟩ => ?_)
  subst ep
  obtain ⟨rs, c, rk⟩ := carries_of (P := X.prog) (w := X.w) rel
  obtain ⟨z, hd, vs0, r0, dd⟩ := dk_of I2.hok e
  cases r0
  refine ⟨rs, c, dd, fun h' dd' hs => ⟨.ref s.heap.objs.size, _, ?_, rfl, q2⟩⟩
  have hz : (mergeK [] kvs).length ≤ sizeLine := by
    have h1 := length_mergeK kvs []
    simp only [List.length_nil, Nat.zero_add] at h1
    rw [sizeLine_eq]; omega
  have he : ∃ q, h'.get? s.heap.objs.size = some q := let ⟨q, _, _, hq, _⟩ := dd'; ⟨q, hq⟩
  exact d_write I2 (by rw [e]; exact True.intro) hs he (dk_new hz hd (rk.merge .nil) dd')
end
section
variable {env : DEnv} {M : Mem} {Q : DK} {E : DX}
theorem s_dc {ti p tt tk tv vs} : dDc ti p tt tk tv vs env M Q E = ti env M (dcK p tt tk tv vs env Q) E := id rfl
theorem s_dcK {p tt tk tv vs its kp} : dcK p tt tk tv vs env Q ⟨its, kp⟩ M = ∀ a, M a = none → dDcGo kp p tt tk tv (wipeD env vs) a Q its [] (mupd M a (.dk [])) := id rfl
end
end PL
namespace PL
open PySem PySem.Spec PyProof.Rows L2
theorem xe_globTE {X : Cx} {W : WX} {x : Str} {ds : List D} {pos : Pos} (hg : Gl X x) (h : ∃ a : Addr, X.mg x = some (.ref a) ∧ ∀ H : Hp, RepD X.K H (.tup ds) (.ref a)) (hd : (x == ("__debug__" : Str)) = false := by decide) : XE X W (.Name x pos) (dC (.tup ds)) := by
  obtain ⟨a, h1, h2⟩ := h
  exact xe_globT hg h1 h2 hd
theorem rep_globT {K : PySem.W.Frag} {H : Hp} {a : Addr} {d : Option Addr} {t : Array Value} {n : Nat} {s : Array (Option Value)} {xs : List Str} (h : K.lookup a = some ⟨.type "tuple", d, .seq t n, s⟩) (hz : t.size ≤ sizeLine) (r : Vals (xs.map V.str) t.toList) : RepD K H (.tup (xs.map D.str)) (.ref a) := by
  unfold RepD
  exact ⟨a, xs.map V.str, rfl, .inr ⟨_, t, n, h, rfl, rfl, hz, r⟩, .of_strs⟩
end PL
namespace PL
theorem merge_nil {κ : Type} [DecidableEq κ] {kvs : List (κ × D)} : mergeD kvs [] = kvs := id rfl
theorem merge_one {k : L2.Key} {d : D} : mergeD [] [(k, d)] = [(k, d)] := id rfl
end PL
namespace PL
open PySem PySem.Spec PyProof.Rows L2
theorem Keep.putN {M M' : Mem} {p : Addr} {o : Ob} (k : Keep [] M M') (h : M p = none) : Keep [] M (mupd M' p o) := (k.weaken (T := [p]) (by simp)).trans (Keep.put (by simp)) |>.drop h
def dcZ (y : D) (N : D → D → Mem → Prop) : DK := fun z M => N y z M
def dcY (tv : DE) (env : DEnv) (N : D → D → Mem → Prop) : DK := fun y M => tv env M (dcZ y N) noX
def dcB (tk tv : DE) (env : DEnv) (N : D → D → Mem → Prop) (sk : Mem → Prop) : Bool → Mem → Prop := fun b M => bifM b (eK tk env (dcY tv env N) noX) sk M
def dcS (tt : DT) (tk tv : DE) (N : D → D → Mem → Prop) (sk : Mem → Prop) (env : DEnv) (M : Mem) : Prop := tt env M (dcB tk tv env N sk) noX
section
variable {tt : DT} {tk tv : DE} {N : D → D → Mem → Prop} {sk : Mem → Prop} {env : DEnv} {M : Mem} {y z : D} {b : Bool}
theorem s_dcZ : dcZ y N z M = N y z M := id rfl
theorem s_dcY : dcY tv env N y M = tv env M (dcZ y N) noX := id rfl
theorem s_dcB : dcB tk tv env N sk b M = bifM b (eK tk env (dcY tv env N) noX) sk M := id rfl
theorem s_dcS : dcS tt tk tv N sk env M = tt env M (dcB tk tv env N sk) noX := id rfl
end
theorem mergeD_snoc {κ : Type} [DecidableEq κ] (acc : List (κ × D)) (xs : List (κ × D)) (p : κ × D) : mergeD acc (xs ++ [p]) = putD (mergeD acc xs) p.1 p.2 := by
  unfold mergeD
  rw [List.foldl_append]
  rfl
theorem putD_len {κ : Type} [DecidableEq κ] (kvs : List (κ × D)) (k : κ) (d : D) : (putD kvs k d).length ≤ kvs.length + 1 := by
  unfold putD
  split
  · rw [List.length_map]; omega
  · simp
theorem mergeD_len {κ : Type} [DecidableEq κ] : ∀ (xs acc : List (κ × D)), (mergeD acc xs).length ≤ acc.length + xs.length
  | [], acc => Nat.le_refl _
  | p :: r, acc => by
    have h1 := mergeD_len r (putD acc p.1 p.2)
    have h2 := putD_len acc p.1 p.2
    show (mergeD (putD acc p.1 p.2) r).length ≤ _
    rw [List.length_cons]; omega
theorem dc_pure {α : Type} (f : α → D) (k : α → Key) (kd g : α → D) (b : α → Bool) {M0 : Mem} {a : Addr} {kp : Mem → Prop} {p : Pat} {tt : DT} {tk tv : DE} {env : DEnv} {Q : DK} (xs : List α) (hkd : ∀ x ∈ xs, (kd x).key = some (k x)) (ha : M0 a = none) (hk : ∀ M', Keep [] M0 M' → kp M') (hlen : xs.length ≤ sizeLine)
    (step : ∀ x ∈ xs, ∀ M' (N : D → D → Mem → Prop) (sk : Mem → Prop), Keep [] M0 M' → (b x = true → ∀ M'', Keep [] M' M'' → N (kd x) (g x) M'') → (b x = false → ∀ M'', Keep [] M' M'' → sk M'') → optE (p.bind M' (f x) env) (dcS tt tk tv N sk) M')
    (done : ∀ M', Keep [] M0 M' → M' a = some (.dk (mergeD [] ((xs.filter b).map fun x => (k x, g x)))) → Q (.ob a) M') : dDcGo kp p tt tk tv env a Q (xs.map f) [] (mupd M0 a (.dk [])) := by
  have go : ∀ (r pre : List α) (M' : Mem), xs = pre ++ r → Keep [] M0 M' → M' a = some (.dk (mergeD [] ((pre.filter b).map fun x => (k x, g x)))) → dDcGo kp p tt tk tv env a Q (r.map f) (mergeD [] ((pre.filter b).map fun x => (k x, g x))) M' := by
    intro r
    induction r with
    | nil =>
      intro pre M' e1 kk e
      rw [List.append_nil] at e1
      subst e1
      exact ⟨hk _ kk, e, done _ kk e⟩
    | cons x r ih =>
      intro pre M' e1 kk e
      refine ⟨hk _ kk, ?_⟩
      have hx : x ∈ xs := by rw [e1]; simp
      have small : (mergeD [] ((pre.filter b).map fun x => (k x, g x))).length < sizeLine := by
        have h1 := mergeD_len ((pre.filter b).map fun x => (k x, g x)) ([] : List (Key × D))
        have h2 := List.length_filter_le b pre
        have h3 : xs.length = pre.length + (r.length + 1) := by rw [e1]; simp
        simp only [List.length_map, List.length_nil] at h1
        omega
      have q := step x hx M' (fun y z M4 => ∃ k', y.key = some k' ∧ M4 a = some (.dk (mergeD [] ((pre.filter b).map fun x => (k x, g x)))) ∧ (mergeD [] ((pre.filter b).map fun x => (k x, g x))).length < sizeLine ∧ dDcGo kp p tt tk tv env a Q (r.map f) (putD (mergeD [] ((pre.filter b).map fun x => (k x, g x))) k' z) (mupd M4 a (.dk (putD (mergeD [] ((pre.filter b).map fun x => (k x, g x))) k' z))))
        (fun M2 => dDcGo kp p tt tk tv env a Q (r.map f) (mergeD [] ((pre.filter b).map fun x => (k x, g x))) M2) kk (fun hb M2 k2 => ?_) (fun hb M2 k2 => ?_)
      · unfold optE at q
        split at q
        · rename_i env1 hb
          first | exact q | (rw [hb]; exact q)
        · exact q.elim
      · have e2 : (((pre ++ [x]).filter b).map fun x => (k x, g x)) = ((pre.filter b).map fun x => (k x, g x)) ++ [(k x, g x)] := by
          rw [List.filter_append, List.map_append]
          simp [hb]
        have e3 : mergeD [] (((pre ++ [x]).filter b).map fun x => (k x, g x)) = putD (mergeD [] ((pre.filter b).map fun x => (k x, g x))) (k x) (g x) := by rw [e2, mergeD_snoc]
        refine ⟨k x, hkd x hx, k2 _ _ e (by simp), small, ?_⟩
        rw [← e3]
        exact ih (pre ++ [x]) _ (by rw [e1]; simp) (Keep.putN (kk.trans k2) ha) mupd_same
      · have e2 : (((pre ++ [x]).filter b).map fun x => (k x, g x)) = ((pre.filter b).map fun x => (k x, g x)) := by
          rw [List.filter_append, List.map_append]
          simp [hb]
        rw [← e2]
        exact ih (pre ++ [x]) _ (by rw [e1]; simp) (kk.trans k2) (by rw [e2]; exact k2 _ _ e (by simp))
  exact go xs [] _ rfl (Keep.new ha) mupd_same
end PL
namespace PL
open PySem PySem.Spec PyProof.Rows L2
theorem in_dkI {i : Int} {a : Addr} {kvs : List (Key × D)} {M : Mem} {Q : DK} (h : M a = some (.dk kvs)) : (opIn (.int i) (.ob a) M).run M Q = Q (.bl (look kvs (.inl i)).isSome) M := by
  simp [opIn, isIn, h, D.key, Res.run, mostDeep]
theorem notIn_dkI {i : Int} {a : Addr} {kvs : List (Key × D)} {M : Mem} {Q : DK} (h : M a = some (.dk kvs)) : (opNotIn (.int i) (.ob a) M).run M Q = Q (.bl (!(look kvs (.inl i)).isSome)) M := by
  simp [opNotIn, isIn, h, D.key, Res.run, mostDeep]
theorem in_dkS {x : Str} {a : Addr} {kvs : List (Key × D)} {M : Mem} {Q : DK} (h : M a = some (.dk kvs)) : (opIn (.str x) (.ob a) M).run M Q = Q (.bl (look kvs (.inr x)).isSome) M := by
  simp [opIn, isIn, h, D.key, Res.run, mostDeep]
theorem notIn_dkS {x : Str} {a : Addr} {kvs : List (Key × D)} {M : Mem} {Q : DK} (h : M a = some (.dk kvs)) : (opNotIn (.str x) (.ob a) M).run M Q = Q (.bl (!(look kvs (.inr x)).isSome)) M := by
  simp [opNotIn, isIn, h, D.key, Res.run, mostDeep]
end PL
namespace PL
open PySem PySem.Spec PyProof.Rows L2
/-! == of two lists, one of them empty -/
def eqLR (M : Mem) (x y : D) (f : Bool → Bool) : Res := match x, y with
  | .v (.ref a), .v (.ref b) => match M a, M b with
    | some (.lst xs), some (.lst ys) => .val (xs = [] ∨ ys = []) (.bl (f (decide (xs.length = ys.length))))
    | _, _ => .bad
  | _, _ => .bad
def opEqL : DOp2 := fun x y M => eqLR M x y id
def opNeL : DOp2 := fun x y M => eqLR M x y (!·)
section
variable {X : Cx}
theorem bl_eqL : ∀ x y M Q, (opEqL x y M).run M Q → (opEqL x y M).run M fun d M' => (∃ k, d = .bl k) ∧ Q d M' := fun x y M Q h => by
  unfold opEqL eqLR at h ⊢
  split at h <;> first | exact h.elim | skip
  split at h <;> first | exact h.elim | skip
  exact ⟨h.1, ⟨_, rfl⟩, h.2⟩
theorem bl_neL : ∀ x y M Q, (opNeL x y M).run M Q → (opNeL x y M).run M fun d M' => (∃ k, d = .bl k) ∧ Q d M' := fun x y M Q h => by
  unfold opNeL eqLR at h ⊢
  split at h <;> first | exact h.elim | skip
  split at h <;> first | exact h.elim | skip
  exact ⟨h.1, ⟨_, rfl⟩, h.2⟩
theorem x_eqL (hu : X.A.units + 200 < cLine) : XOp X (compareOp .Eq) opEqL := by
  rintro pins s σ H x y v u Q I rx ry ⟨dx, dy, M, r1, r2, sm, h⟩
  unfold opEqL eqLR at h
  split at h <;> first | exact h.elim | skip
  split at h <;> first | exact h.elim | skip
  rename_i a b _ _ xs ys hm1 hm2
  rw [rep_v r1] at rx
  rw [rep_v r2] at ry
  obtain rfl : v = Value.ref _ := rx
  obtain rfl : u = Value.ref _ := ry
  obtain ⟨us, ea, la⟩ := sm.seq (.inl hm1)
  obtain ⟨ws, eb, lb⟩ := sm.seq (.inl hm2)
  obtain ⟨i1, v1, p1, z1⟩ := I.list ea
  obtain ⟨i2, v2, p2, z2⟩ := I.list eb
  have l1 : i1.toArray.size = xs.length := by rw [List.size_toArray, ← v1.length, la.length]
  have l2 : i2.toArray.size = ys.length := by rw [List.size_toArray, ← v2.length, lb.length]
  by_cases e : xs.length = ys.length
  · have n1 : xs.length = 0 := by rcases h.1 with z | z <;> simp [z] at e <;> simp_all
    have q := h.2
    rw [decide_eq_true e] at q
    refine SeqAt.RcAt.lists (e := fun _ => true) p1.isList p2.isList (by rw [l1, l2, e]) (by omega) (fun j h1 _ => by rw [l1, n1] at h1; omega) X.prog X.w _ _ ?_
    rw [l1, n1]
    exact ⟨.bl true, H, I, rfl, fin_val q sm⟩
  · have q := h.2
    rw [decide_eq_false e] at q
    exact SeqAt.RcAt.lists_lengths p1.isList p2.isList (by rw [l1, l2]; simpa using e) (by omega) X.prog X.w _ _ ⟨.bl false, H, I, rfl, fin_val q sm⟩
theorem x_neL (hu : X.A.units + 200 < cLine) : XOp X (compareOp .NotEq) opNeL := by
  rintro pins s σ H x y v u Q I rx ry ⟨dx, dy, M, r1, r2, sm, h⟩
  unfold opNeL eqLR at h
  split at h <;> first | exact h.elim | skip
  split at h <;> first | exact h.elim | skip
  rename_i a b _ _ xs ys hm1 hm2
  rw [rep_v r1] at rx
  rw [rep_v r2] at ry
  obtain rfl : v = Value.ref _ := rx
  obtain rfl : u = Value.ref _ := ry
  obtain ⟨us, ea, la⟩ := sm.seq (.inl hm1)
  obtain ⟨ws, eb, lb⟩ := sm.seq (.inl hm2)
  obtain ⟨i1, v1, p1, z1⟩ := I.list ea
  obtain ⟨i2, v2, p2, z2⟩ := I.list eb
  have l1 : i1.toArray.size = xs.length := by rw [List.size_toArray, ← v1.length, la.length]
  have l2 : i2.toArray.size = ys.length := by rw [List.size_toArray, ← v2.length, lb.length]
  by_cases e : xs.length = ys.length
  · have n1 : xs.length = 0 := by rcases h.1 with z | z <;> simp [z] at e <;> simp_all
    have q := h.2
    rw [decide_eq_true e] at q
    refine SeqAt.RcNeAt.lists (e := fun _ => true) p1.isList p2.isList (by rw [l1, l2, e]) (by omega) (fun j h1 _ => by rw [l1, n1] at h1; omega) X.prog X.w _ _ ?_
    rw [l1, n1]
    exact ⟨.bl false, H, I, rfl, fin_val q sm⟩
  · have q := h.2
    rw [decide_eq_false e] at q
    exact SeqAt.RcNeAt.lists_lengths p1.isList p2.isList (by rw [l1, l2]; simpa using e) (by omega) X.prog X.w _ _ ⟨.bl true, H, I, rfl, fin_val q sm⟩
end
end PL

set_option maxHeartbeats 4000000
namespace PL
open PySem PySem.Spec PyProof.Rows L2
/-! sorted(d.items()), keys and values ints -/
abbrev entI (p : Int × Int) : Key × V := (Sum.inl p.1, V.int p.2)
def tSortIt (te : TE) : TE := fun σ H Q => te σ H fun x H1 => ∃ (a : Addr) (ms : List (Int × Int)), x = .ref a ∧ Rd H1 a (.dK (ms.map entI)) ∧ ∀ (H' : Hp) (l : Addr) (ps : List (Addr × Int × Int)), (∀ b o, H1 b = some o → H' b = some o) → H1 l = none → (ps.map (·.2)).Perm ms → (ps.map (·.2)).Pairwise (fun p q => p.1 ≤ q.1) →
  H' l = some (.lst (ps.map fun z => V.ref z.1)) → (∀ z ∈ ps, H' z.1 = some (.tup [.int z.2.1, .int z.2.2])) → Q (.ref l) H'
def backA : Value → Addr
  | .ref a => a
  | _ => 0
def kAt (as : List Addr) (ms : List (Int × Int)) (v : Value) : Int × Int := ((as.zip ms).lookup (backA v)).getD (0, 0)
theorem lookup_zip {β : Type} : ∀ {as : List Addr} {ms : List β} {j : Nat} {b : Addr} {m : β}, as.Nodup → as[j]? = some b → ms[j]? = some m → (as.zip ms).lookup b = some m
  | [], _, _, _, _, _, h, _ => by simp at h
  | _ :: _, [], _, _, _, _, _, h => by simp at h
  | a :: as, m :: ms, 0, b, m', nd, h1, h2 => by
    simp only [List.getElem?_cons_zero, Option.some.injEq] at h1 h2
    subst h1 h2
    simp
  | a :: as, m :: ms, j + 1, b, m', nd, h1, h2 => by
    simp only [List.getElem?_cons_succ] at h1 h2
    rw [List.nodup_cons] at nd
    have ne : b ≠ a := fun z => nd.1 (z ▸ List.mem_of_getElem? h1)
    rw [List.zip_cons_cons, List.lookup_cons]
    have : (b == a) = false := by simpa using ne
    rw [this]
    exact lookup_zip nd.2 h1 h2
section
variable {X : Cx} {e : Expr} {te : TE} {p apos cpos pos : Pos}
theorem pe_sortIt (hc : X.calm = true) (he : PE X e te) (hg : Gl X "sorted") (hm : X.mg "sorted" = none) (hv : bootBuiltins "sorted" = some (.builtin "sorted")) (hbase : attributeBase e "items" X.env (eval e X.env) = eval e X.env := by rfl) (hline : (apos.endLine == cpos.line) = true := by rfl)
    (hs : starEach [.Call (.Attribute e "items" apos) [] [] cpos] X.env = (false, eval (.Call (.Attribute e "items" apos) [] [] cpos) X.env) :: starEach [] X.env := by rfl) :
    PE X (.Call (.Name "sorted" p) [.Call (.Attribute e "items" apos) [] [] cpos] [] pos) (tSortIt te) := by
  refine ⟨fun pins s σ H Q I hq => ?_⟩
  refine wpAny_Call_Name_kw (ld_blt I hg hm hv ?_)
  refine PyProof.Rows.callWith_builtin1 ?_ hs rfl
  rw [hs]
  show wpAny _ _ (spliced ((false, eval (.Call (.Attribute e "items" apos) [] [] cpos) X.env) :: backTo pos (starEach [] X.env))) _ _ s
  refine Calls.spliced_cons ?_
  refine wpAny_Call_method (T := "dict") (id := "dict.items") hbase rfl hline F.plainAttrs_dict F.slot_dict_items F.type_dict_items (thn (he.run pins s σ H _ I hq) fun u s1 ⟨x, H1, I1, rx, d, ms, ex, hd, q⟩ => ?_)
  subst ex
  obtain rfl : u = Value.ref d := rx
  obtain ⟨hz, hs0, vs, kv, hdo⟩ := dk_rd I1.hok hd
  have lk : (ms.map entI).length = vs.length := Paired.length kv
  refine ⟨hdo.typeIs, hdo.mapOf.noDict, ?_⟩
  show wpAny _ _ (callWith cpos (.builtin "dict.items") [.ref d] [] []) _ X.xe s1
  refine method_meetsIn F.slot_dict_items F.entry_dict_items rfl (PySem.evalArgs_none ⟨rfl, hdo.typeIs, F.args_dict_items_1 _, _, meets_dict_items (mixKind X.prog X.w) d hs0, ⟨vs, hdo⟩, ?_⟩)
  refine Calls.spliced_nil ?_
  obtain ⟨es, ep, raw, hsz, hent⟩ := hdo.raw
  have hh : X.A.handled = none := I1.ok.hd hc
  have I2 : Inv X pins σ H1 { s1 with heap := s1.heap.push { cls := .type "dict_items", data := .fields #[.ref d] } } := I1.kept (t' := s1.toks) fun b ob q => Heap.get?_push_of_some _ q
  have view : (s1.heap.push { cls := .type "dict_items", data := .fields #[.ref d] }).IsItemsView s1.heap.objs.size d := ⟨_, Heap.get?_push_size _ rfl, rfl, rfl⟩
  refine DT.sortedI (s := { s1 with heap := s1.heap.push { cls := .type "dict_items", data := .fields #[.ref d] } }) (es := es) (ep := ep) hh view (raw.at fun o e => Heap.get?_push_of_some _ e) (by omega) fun h' tk as hk hlt hl hG => ?_
  have lak : as.length = ms.length := by rw [hl, hsz, ← lk, List.length_map]
  have nd : as.Nodup := List.Pairwise.imp (fun h => Nat.ne_of_lt h) hG.rise
  have hmz : ms.length ≤ sizeLine := by rw [List.length_map] at hz; exact hz
  have kb : ∀ b o, s1.heap.get? b = some o → h'.get? b = some o := fun b o e => hk b o (Heap.get?_push_of_some _ e)
  have low : s1.heap.objs.size < h'.objs.size := by
    have : (s1.heap.push { cls := .type "dict_items", data := .fields #[.ref d] }).objs.size = s1.heap.objs.size + 1 := Heap.size_push _ _
    have h3 : (s1.heap.push { cls := .type "dict_items", data := .fields #[.ref d] }).objs.size < h'.objs.size := hlt
    omega
  -- the pairs
  have pr : ∀ (j : Nat) (b : Addr), as[j]? = some b → ∃ (m : Int × Int) (t t' : Tok), ms[j]? = some m ∧ h'.get? b = some { cls := .type "tuple", data := .seq #[Value.int m.1 t, Value.int m.2 t'] } := by
    intro j b hj
    obtain ⟨en, he, hg⟩ := hG.pairs j b hj
    have hj2 : j < as.length := (List.getElem?_eq_some_iff.mp hj).1
    have hjm : j < ms.length := by omega
    obtain ⟨v, hv', f1, f2⟩ := L2.paired_get kv (i := j) (a := entI ms[j]) (by simp [hjm])
    obtain ⟨k1, k2⟩ := hent j (by omega) v.1 v.2 hv'
    have he2 : es[j]'(by omega) = en := by
      have : es[j]? = some en := he
      rw [Array.getElem?_eq_getElem (by omega)] at this
      exact Option.some.inj this
    rw [he2] at k1 k2
    rw [← f1] at k1
    obtain ⟨t, ht⟩ := relV_key (k := Sum.inl ms[j].1) (show keyIs (Sum.inl ms[j].1) en.key = true from k1)
    obtain ⟨t', ht'⟩ : ∃ t', v.2 = Value.int ms[j].2 t' := f2
    refine ⟨ms[j], t, t', by simp [hjm], ?_⟩
    rw [hg, ht, k2, ht']
  have hkey : ∀ (j : Nat) (b : Addr) (m : Int × Int), as[j]? = some b → ms[j]? = some m → kAt as ms (.ref b) = m := fun j b m h1 h2 => by
    unfold kAt backA
    rw [lookup_zip nd h1 h2]
    rfl
  have hob : (h'.push { cls := .type "list", data := .seq (as.map Value.ref).toArray }).get? h'.objs.size = some (seqObj "list" (as.map Value.ref).toArray 0) := Heap.get?_push_size _ rfl
  have ne0 : ∀ b o, h'.get? b = some o → b ≠ h'.objs.size := fun b o e => Nat.ne_of_lt (Heap.lt_size e)
  generalize hh2 : h'.push { cls := .type "list", data := .seq (as.map Value.ref).toArray } = h2 at hob ⊢
  have ka : ∀ b o, h'.get? b = some o → h2.get? b = some o := fun b o e => by rw [← hh2]; exact Heap.get?_push_of_some _ e
  have vat : ∀ v ∈ as.map Value.ref, ∃ (j : Nat) (b : Addr), v = .ref b ∧ as[j]? = some b := fun v hv' => by
    obtain ⟨b, hb, rfl⟩ := List.mem_map.mp hv'
    obtain ⟨j, hj⟩ := List.mem_iff_getElem?.mp hb
    exact ⟨j, b, rfl, hj⟩
  have vz : (as.map Value.ref).length ≤ sizeLine := by rw [List.length_map, lak]; exact hmz
  have sortable : 2 ≤ (as.map Value.ref).length → SrtO.SortableO X.prog X.w X.A.in1.in1 { s1 with heap := h2, toks := tk } h'.objs.size (as.map Value.ref) (fun v u => SrtO.lexB (kAt as ms v) (kAt as ms u)) := fun h2' => by
    refine SrtO.pairs_sortableO (by omega) (fun v hv' => ?_) fun o e => ?_
    · obtain ⟨j, b, rfl, hj⟩ := vat v hv'
      obtain ⟨m, t, t', hm', hg⟩ := pr j b hj
      rw [hkey j b m hj hm']
      exact ⟨b, _, t, t', 0, rfl, ka _ _ hg, rfl, rfl⟩
    · have e' : some o = some (seqObj "list" (as.map Value.ref).toArray 0) := e.symm.trans hob
      cases e'
      intro c
      exact absurd (Value.type.inj c) (by decide)
  refine wpAny_call_entry PyProof.Rows.slot_list_sort ⟨_, hob, rfl⟩ PyProof.Rows.entry_list_sort ?_ (PyProof.Rows.args_list_sort _)
  refine SrtO.list_sort_ord (s := { s1 with heap := h2, toks := tk }) (SrtO.swo_lex (kAt as ms)) hob vz sortable fun out o1 o2 => ?_
  refine ⟨.none, rfl, ?_⟩
  · obtain ⟨zs, pz, ez⟩ := perm_lift (fun z : Addr × Int × Int => Value.ref z.1) o2.perm (as.zip ms) (by
      rw [show (fun z : Addr × Int × Int => Value.ref z.1) = Value.ref ∘ Prod.fst from rfl, ← List.map_map, List.map_fst_zip (by omega)])
    subst ez
    have idx : ∀ z ∈ zs, ∃ j : Nat, as[j]? = some z.1 ∧ ms[j]? = some z.2 := by
      intro z' hz'
      obtain ⟨j, hj⟩ := List.mem_iff_getElem?.mp (pz.mem_iff.mp hz')
      exact ⟨j, List.getElem?_zip_eq_some.mp hj⟩
    have hperm : (zs.map (·.2)).Perm ms := by
      have e := pz.map (·.2)
      rw [show (as.zip ms).map (·.2) = ms from List.map_snd_zip (by omega)] at e
      exact e
    have hsort : (zs.map (·.2)).Pairwise (fun p q => p.1 ≤ q.1) := by
      have o1 : (zs.map fun z => Value.ref z.1).Pairwise fun x y => SrtO.lexB (kAt as ms y) (kAt as ms x) = false := o1
      rw [List.pairwise_map] at o1 ⊢
      refine List.Pairwise.imp_of_mem (fun {x y} hx hy h => ?_) o1
      obtain ⟨j, j1, j2⟩ := idx x hx
      obtain ⟨i, i1, i2⟩ := idx y hy
      have h := SrtO.lexB_no.mp h
      rw [hkey j _ _ j1 j2, hkey i _ _ i1 i2] at h
      omega
    show EP X pins σ Q (.ref h'.objs.size) { s1 with heap := sortedHeap h2 h'.objs.size (as.map Value.ref) (zs.map fun z => Value.ref z.1).toArray, toks := tk }
    have kF : ∀ b o, b ≠ h'.objs.size → h2.get? b = some o → (sortedHeap h2 h'.objs.size (as.map Value.ref) (zs.map fun z => Value.ref z.1).toArray).get? b = some o := fun b o hb e => (PyProof.Rows.sortedHeap_old hb (Heap.lt_size e)).trans e
    have kS : ∀ b o, s1.heap.get? b = some o → (sortedHeap h2 h'.objs.size (as.map Value.ref) (zs.map fun z => Value.ref z.1).toArray).get? b = some o := fun b o e => kF b o (ne0 _ _ (kb b o e)) (ka _ _ (kb b o e))
    obtain ⟨eF, heF⟩ := PyProof.Rows.sortedHeap_at (vs := as.map Value.ref) (out := (zs.map fun z => Value.ref z.1).toArray) hob
    generalize sortedHeap h2 h'.objs.size (as.map Value.ref) (zs.map fun z => Value.ref z.1).toArray = hF at kF kS heF ⊢
    have I3 : Inv X pins σ H1 { s1 with heap := hF, toks := tk } := I1.kept (t' := tk) kS
    have hn0 : H1 h'.objs.size = none := I1.hok.fresh (Nat.le_of_lt low)
    have hlen : (zs.map fun z => V.ref z.1).length ≤ sizeLine := by
      have e := hperm.length_eq
      rw [List.length_map] at e
      rw [List.length_map]
      omega
    have rv : Vals (zs.map fun z => V.ref z.1) (zs.map fun z => Value.ref z.1) := vals_maps (fun z : Addr × Int × Int => V.ref z.1) (fun z => Value.ref z.1) zs fun _ _ => rfl
    have I4 : Inv X pins σ (upd H1 h'.objs.size (.lst (zs.map fun z => V.ref z.1))) { s1 with heap := hF, toks := tk } :=
      I3.take (h' := hF) (t' := tk) (fun b ob _ e => e) (I1.fpOk (Nat.le_of_lt low) hn0) (show ObjOk X.prog X.w _ _ _ (.lst (zs.map fun z => V.ref z.1)) from ⟨hlen, zs.map (fun z => Value.ref z.1), eF, rv, heF⟩)
    obtain ⟨H2, I5, g, qt⟩ := L2.DX.takeT (P := fun b vs => ∃ (j : Nat) (m : Int × Int), as[j]? = some b ∧ ms[j]? = some m ∧ vs = [.int m.1, .int m.2]) I1 as _ I4 nd fun b hb => by
      obtain ⟨j, hj⟩ := List.mem_iff_getElem?.mp hb
      obtain ⟨m, t, t', hm', hg⟩ := pr j b hj
      have hbl : s1.heap.objs.size ≤ b := by
        have hG := hG.above b hb
        have e : (s1.heap.push { cls := .type "dict_items", data := .fields #[.ref d] }).objs.size = s1.heap.objs.size + 1 := Heap.size_push _ _
        have h3 : (s1.heap.push { cls := .type "dict_items", data := .fields #[.ref d] }).objs.size < b := hG
        omega
      refine ⟨hbl, ?_, [.int m.1, .int m.2], ⟨j, m, hj, hm', rfl⟩, fun H3 => ⟨(by rw [sizeLine_eq]; show 2 ≤ 16777216; omega), [Value.int m.1 t, Value.int m.2 t'], .cons ⟨t, rfl⟩ (.cons ⟨t', rfl⟩ .nil), ⟨_, kF _ _ (ne0 _ _ hg) (ka _ _ hg), rfl, 0, rfl⟩⟩⟩
      rw [upd_ne (ne0 _ _ hg)]
      exact I1.hok.fresh hbl
    have gr : ∀ b o, H1 b = some o → H2 b = some o := fun b o e => g b o (by rw [upd_ne (ne_of_none e hn0)]; exact e)
    refine ⟨.ref h'.objs.size, H2, I5, rfl, q H2 h'.objs.size zs gr hn0 hperm hsort (g _ _ upd_same) fun z' hz' => ?_⟩
    obtain ⟨i, i1, i2⟩ := idx z' hz'
    obtain ⟨vs', ⟨j, m, j1, j2, ev⟩, hH⟩ := qt z'.1 (List.mem_of_getElem? i1)
    have eij : i = j := (List.getElem?_inj (List.getElem?_eq_some_iff.mp i1).1 nd).mp (i1.trans j1.symm)
    subst eij
    have ee : m = z'.2 := Option.some.inj (j2.symm.trans i2)
    rw [ev, ee] at hH
    exact hH
end
/-! .. as a reading -/
abbrev pairI (p : Int × Int) : D := .tup [.int p.1, .int p.2]
abbrev entD (p : Int × Int) : Key × D := (Sum.inl p.1, D.int p.2)
def sortItK (Q : DK) : DK := fun d M => ∃ (a : Addr) (ms : List (Int × Int)), d = .ob a ∧ dkAt M a (ms.map entD) ∧ ∀ (ys : List (Int × Int)) l, ys.Perm ms → ys.Pairwise (fun p q => p.1 ≤ q.1) → M l = none → Q (.ob l) (mupd M l (.lst (ys.map pairI)))
def dSortIt (te : DE) : DE := fun env M Q E => te env M (sortItK Q) E
theorem s_sortIt {te env M Q E} : dSortIt te env M Q E = te env M (sortItK Q) E := id rfl
theorem RepKV.ofI {K : PySem.W.Frag} {H : Hp} : ∀ {ms : List (Int × Int)} {us : List (Key × V)}, RepKV K H (ms.map entD) us → us = ms.map entI
  | [], _, h => by unfold RepKV at h; exact h
  | m :: ms, _, h => by
    obtain ⟨u, t, rfl, q, z⟩ := h
    rw [RepKV.ofI z, rep_v q]
    rfl
section
variable {X : Cx} {W : WX} {e : Expr} {te : DE} {p apos cpos pos : Pos}
theorem xe_sortIt (hc : X.calm = true) (he : XE X W e te) (hg : Gl X "sorted") (hm : X.mg "sorted" = none) (hv : bootBuiltins "sorted" = some (.builtin "sorted")) (hbase : attributeBase e "items" X.env (eval e X.env) = eval e X.env := by rfl) (hline : (apos.endLine == cpos.line) = true := by rfl)
    (hs : starEach [.Call (.Attribute e "items" apos) [] [] cpos] X.env = (false, eval (.Call (.Attribute e "items" apos) [] [] cpos) X.env) :: starEach [] X.env := by rfl) :
    XE X W (.Call (.Name "sorted" p) [.Call (.Attribute e "items" apos) [] [] cpos] [] pos) (dSortIt te) := by
  refine ⟨fun env M Q Q' E E' hQ hE => he.mono _ _ _ _ _ _ (fun d M1 ⟨a, ms, h1, h2, h⟩ => ⟨a, ms, h1, h2, fun ys l z1 z2 z3 => hQ _ _ (h ys l z1 z2 z3)⟩) hE, PEw (pe_sortIt hc he.pe hg hm hv hbase hline hs) ?_⟩
  rintro σ H Q ⟨env, M, re, sm, h⟩
  refine stepE he.mono re sm h (fun d M1 u H1 e1 s1 re1 r1 q => ?_) fun _ _ _ z => z
  obtain ⟨a, ms, rfl, hd, q⟩ := q
  obtain ⟨us, q1, l1⟩ := hd.rep s1
  rw [l1.ofI] at q1
  refine ⟨a, ms, rep_v r1, q1, fun H' l ps gr hl hp hso hL hz => ?_⟩
  have ex : Ext X.K H1 H' := ⟨fun b xs g => by
    rcases g with (g | ⟨ob, g⟩) | g
    · exact .inl (.inl (gr _ _ g))
    · exact .inl (.inr ⟨ob, gr _ _ g⟩)
    · exact .inr g, fun b o v g => gr _ _ g⟩
  refine q (ps.map (·.2)) l hp hso (s1.free hl) _ H' (e1.trans ex) (fun b ob g => ?_) rep_of
  by_cases hb : b = l
  · subst hb
    rw [mupd_same] at g
    cases g
    refine ⟨_, hL, ?_⟩
    clear hL hp hso
    induction ps with
    | nil => exact .nil
    | cons z ps ih =>
      refine .cons ?_ (ih fun z' h' => hz z' (List.mem_cons_of_mem _ h'))
      unfold RepD
      exact ⟨z.1, _, rfl, SqT.of (hz z (List.mem_cons_self)), .cons rep_of (.cons rep_of .nil)⟩
  · rw [mupd_ne hb] at g
    obtain ⟨x, hx⟩ := (s1 b ob g).there
    exact (s1 b ob g).mono ex (by rw [gr _ _ hx, hx])
end
end PL

namespace PL
open PySem PySem.Spec PyProof.Rows L2
/-! instances: their attributes, their methods, how they are made -/
def putFD (fs : List (Str × D)) (f : Str) (d : D) : List (Str × D) := match fs with
  | [] => [(f, d)]
  | (g, x) :: r => if g = f then (g, d) :: r else (g, x) :: putFD r f d
theorem RepKV.putF {K : PySem.W.Frag} {H : Hp} {f : Str} {d : D} {u : V} (q : RepD K H d u) : ∀ {fs : List (Str × D)} {us : List (Str × V)}, RepKV K H fs us → RepKV K H (putFD fs f d) (L2.putF f u us)
  | [], us, h => by
    unfold RepKV at h
    subst h
    exact ⟨u, [], rfl, q, rfl⟩
  | (g, x) :: r, us, h => by
    obtain ⟨y, t, rfl, q2, z⟩ := h
    unfold putFD L2.putF
    split
    · exact ⟨u, t, rfl, q, z⟩
    · exact ⟨y, _, rfl, q2, RepKV.putF q z⟩
theorem RepKV.lookup {K : PySem.W.Frag} {H : Hp} (f : Str) : ∀ {fs : List (Str × D)} {us : List (Str × V)}, RepKV K H fs us → match PL.look fs f, us.lookup f with | some d, some u => RepD K H d u | none, none => True | _, _ => False
  | [], us, h => by
    unfold RepKV at h
    subst h
    simp [PL.look]
  | (g, x) :: r, us, h => by
    obtain ⟨y, t, rfl, q2, z⟩ := h
    have ih := RepKV.lookup f z
    by_cases e : g = f
    · subst e
      simpa [PL.look, List.lookup_cons] using q2
    · have e2 : (f == g) = false := by simpa using fun z => e z.symm
      simpa [PL.look, List.lookup_cons, e, e2] using ih
theorem RepKV.lookup_some {K : PySem.W.Frag} {H : Hp} {f : Str} {fs : List (Str × D)} {us : List (Str × V)} {d : D} (h : RepKV K H fs us) (e : PL.look fs f = some d) : ∃ u, us.lookup f = some u ∧ RepD K H d u := by
  have q := h.lookup f
  rw [e] at q
  cases g : us.lookup f with
  | none => rw [g] at q; exact q.elim
  | some u => rw [g] at q; exact ⟨u, rfl, q⟩
theorem RepKV.lookup_none {K : PySem.W.Frag} {H : Hp} {f : Str} {fs : List (Str × D)} {us : List (Str × V)} (h : RepKV K H fs us) (e : PL.look fs f = none) : us.lookup f = none := by
  have q := h.lookup f
  rw [e] at q
  cases g : us.lookup f with
  | none => rfl
  | some u => rw [g] at q; exact q.elim
/-- what an instance of the class at C holds -/
def insAt (C : Addr) (o : Option Ob) (f : List (Str × D) → Prop) : Prop := match o with
  | some (.ins C' fs) => C' = C ∧ f fs
  | _ => False
def optD (o : Option D) (f : D → Prop) : Prop := match o with
  | some d => f d
  | none => False
theorem s_insAt {C C' : Addr} {fs : List (Str × D)} {f : List (Str × D) → Prop} : insAt C (some (.ins C' fs)) f = (C' = C ∧ f fs) := id rfl
theorem s_optD {d : D} {f : D → Prop} : optD (some d) f = f d := id rfl
theorem insAt_mono {C : Addr} {o : Option Ob} {f g : List (Str × D) → Prop} (h : ∀ fs, f fs → g fs) : insAt C o f → insAt C o g := by
  unfold insAt
  split
  · exact fun ⟨a, b⟩ => ⟨a, h _ b⟩
  · exact id
theorem optD_mono {o : Option D} {f g : D → Prop} (h : ∀ d, f d → g d) : optD o f → optD o g := by
  unfold optD
  split
  · exact h _
  · exact id
def obAt (d : D) (f : Addr → Prop) : Prop := match d with
  | .v (.ref a) => f a
  | _ => False
theorem s_obAt {a : Addr} {f : Addr → Prop} : obAt (.ob a) f = f a := id rfl
theorem obAt_mono {d : D} {f g : Addr → Prop} (h : ∀ a, f a → g a) : obAt d f → obAt d g := by
  unfold obAt
  split
  · exact h _
  · exact id
/-- e.f -/
def fldK (C : Addr) (f : Str) (Q : DK) : DK := fun d M => obAt d fun a => insAt C (M a) fun fs => optD (look fs f) fun x => Q x M
def dFld (C : Addr) (f : Str) (te : DE) : DE := fun env M Q E => te env M (fldK C f Q) E
/-- o.f = e -/
def fputK2 (C : Addr) (f : Str) (z : D) (Z : DEnds) (env : DEnv) : DK := fun d M => obAt d fun a => insAt C (M a) fun fs => fs.length < 1000 ∧ Z.nx env (mupd M a (.ins C (putFD fs f z)))
def fputK1 (C : Addr) (f : Str) (to : DE) (Z : DEnds) (env : DEnv) : DK := fun z M => to env M (fputK2 C f z Z env) (exK Z env)
def dFPut (C : Addr) (f : Str) (te to : DE) : DS := fun Z env M => te env M (fputK1 C f to Z env) (exK Z env)
/-- o.f op= e -/
def faugK3 (C : Addr) (f : Str) (a : Addr) (Z : DEnds) (env : DEnv) : DK := fun z M => insAt C (M a) fun fs => fs.length < 1000 ∧ Z.nx env (mupd M a (.ins C (putFD fs f z)))
def faugK2 (C : Addr) (f : Str) (r : DOp2) (a : Addr) (x : D) (Z : DEnds) (env : DEnv) : DK := fun y M => (r x y M).run M (faugK3 C f a Z env)
def faugK1 (C : Addr) (f : Str) (r : DOp2) (te : DE) (Z : DEnds) (env : DEnv) : DK := fun d M => obAt d fun a => insAt C (M a) fun fs => optD (look fs f) fun x => te env M (faugK2 C f r a x Z env) (exK Z env)
def dFAug (C : Addr) (f : Str) (r : DOp2) (to te : DE) : DS := fun Z env M => to env M (faugK1 C f r te Z env) (exK Z env)
/-- o.m(..); dvs: the defaults behind -/
def methK2 (sp : DSp) (dvs : List D) (a : Addr) (Q : DK) (E : DX) : List D → Mem → Prop := fun ds M => sp (.ob a :: (ds ++ dvs)) M Q E
def methK1 (C : Addr) (m : Str) (sp : DSp) (dvs : List D) (t : DA) (env : DEnv) (Q : DK) (E : DX) : DK := fun d M => obAt d fun a => insAt C (M a) fun fs => look fs m = none ∧ t env M (methK2 sp dvs a Q E) E
def dMeth (C : Addr) (m : Str) (sp : DSp) (dvs : List D) (to : DE) (t : DA) : DE := fun env M Q E => to env M (methK1 C m sp dvs t env Q E) E
/-- C(..) -/
def makeK2 (x : Addr) (Q : DK) : DK := fun d M => d = .non ∧ Q (.ob x) M
def makeK (C : Addr) (sp : DSp) (Q : DK) : List D → Mem → Prop := fun ds M => ∀ x, M x = none → sp (.ob x :: ds) (mupd M x (.ins C [])) (makeK2 x Q) noX
def dMake (C : Addr) (sp : DSp) (t : DA) : DE := fun env M Q E => t env M (makeK C sp Q) E
section
variable {env : DEnv} {M : Mem} {Q : DK} {E : DX} {Z : DEnds} {C a x : Addr} {f m : Str} {d z y : D} {te to : DE} {t : DA} {sp : DSp} {r : DOp2} {ds : List D}
theorem s_fld : dFld C f te env M Q E = te env M (fldK C f Q) E := id rfl
theorem s_fldK : fldK C f Q d M = obAt d fun a => insAt C (M a) fun fs => optD (look fs f) fun x => Q x M := id rfl
theorem s_fput : dFPut C f te to Z env M = te env M (fputK1 C f to Z env) (exK Z env) := id rfl
theorem s_fputK1 : fputK1 C f to Z env z M = to env M (fputK2 C f z Z env) (exK Z env) := id rfl
theorem s_fputK2 : fputK2 C f z Z env d M = obAt d fun a => insAt C (M a) fun fs => fs.length < 1000 ∧ Z.nx env (mupd M a (.ins C (putFD fs f z))) := id rfl
theorem s_faug : dFAug C f r to te Z env M = to env M (faugK1 C f r te Z env) (exK Z env) := id rfl
theorem s_faugK1 : faugK1 C f r te Z env d M = obAt d fun a => insAt C (M a) fun fs => optD (look fs f) fun x => te env M (faugK2 C f r a x Z env) (exK Z env) := id rfl
theorem s_faugK2 : faugK2 C f r a z Z env y M = (r z y M).run M (faugK3 C f a Z env) := id rfl
theorem s_faugK3 : faugK3 C f a Z env z M = insAt C (M a) fun fs => fs.length < 1000 ∧ Z.nx env (mupd M a (.ins C (putFD fs f z))) := id rfl
theorem s_meth {dvs : List D} : dMeth C m sp dvs to t env M Q E = to env M (methK1 C m sp dvs t env Q E) E := id rfl
theorem s_methK1 {dvs : List D} : methK1 C m sp dvs t env Q E d M = obAt d fun a => insAt C (M a) fun fs => look fs m = none ∧ t env M (methK2 sp dvs a Q E) E := id rfl
theorem s_methK2 {dvs : List D} : methK2 sp dvs a Q E ds M = sp (.ob a :: (ds ++ dvs)) M Q E := id rfl
theorem s_make : dMake C sp t env M Q E = t env M (makeK C sp Q) E := id rfl
theorem s_makeK : makeK C sp Q ds M = ∀ x, M x = none → sp (.ob x :: ds) (mupd M x (.ins C [])) (makeK2 x Q) noX := id rfl
theorem s_makeK2 : makeK2 x Q d M = (d = .non ∧ Q (.ob x) M) := id rfl
end
/-- what the top has written of a class and its attributes -/
structure ICls (K : PySem.W.Frag) (C : Addr) (fs : List Str) : Prop where
  c : Cls K C
  no : ∀ f ∈ fs, NoAttr K C f
/-- a method -/
structure MFn (P : Program) (w : World) (K : PySem.W.Frag) (mg : Str → Option Value) (base : Heap) (k : Nat) (C : Addr) (m : Str) (sp : DSp) (dvs : List D) : Prop where
  mono : MonoSp sp
  ex : ∃ (f : Addr) (fd : FuncData) (ps : List Str) (ds : List Value) (vds : List V), FnOk P w K mg base (L2.CX P w) k f fd ps (liftSp K sp) ∧ Meth K C m f ∧ Binds K fd ps ds ∧ Vals vds ds ∧ ∀ H, RepL K H dvs vds
theorem MFn.up {P : Program} {w : World} {K : PySem.W.Frag} {mg : Str → Option Value} {base : Heap} {j k : Nat} {C : Addr} {m : Str} {sp : DSp} {dvs : List D} (F : MFn P w K mg base j C m sp dvs) (h : j ≤ k) : MFn P w K mg base k C m sp dvs := by
  obtain ⟨mo, f, fd, ps, ds, vds, F, r⟩ := F
  exact ⟨mo, f, fd, ps, ds, vds, F.mono h, r⟩
/-- a class that is made -/
structure KFn (P : Program) (w : World) (K : PySem.W.Frag) (mg : Str → Option Value) (base : Heap) (k : Nat) (x : Str) (C : Addr) (sp : DSp) : Prop where
  mono : MonoSp sp
  at_ : mg x = some (.ref C)
  ex : ∃ (f : Addr) (fd : FuncData) (ps : List Str), FnOk P w K mg base (L2.CX P w) k f fd ps (liftSp K sp) ∧ Mk K C f ∧ Binds K fd ps []
section
variable {X : Cx} {W : WX} {C : Addr} {f m x : Str} {o e value : Expr} {es : List Expr} {te to : DE} {t : DA} {sp : DSp} {pos pos' apos tpos p : Pos} {k : Nat} {fs : List Str}
theorem xe_fld (T : ICls X.K C fs) (he : XE X W e te) (hf : f ∈ fs := by simp) (hb : attributeBase e f X.env (eval e X.env) = eval e X.env := by rfl) : XE X W (.Attribute e f pos) (dFld C f te) := by
  refine ⟨fun env M Q Q' E E' hQ hE => he.mono _ _ _ _ _ _ (fun d M1 => obAt_mono fun a => insAt_mono fun fs => optD_mono fun x => hQ _ _) hE, PEw (pe_fld he.pe hb) ?_⟩
  rintro σ H Q ⟨env, M, re, s, h⟩
  refine stepE he.mono re s h (fun d M1 u H1 e1 s1 re1 r1 q => ?_) fun _ _ _ z => z
  unfold fldK obAt at q
  split at q <;> first | exact q.elim | skip
  unfold insAt at q
  split at q <;> first | exact q.elim | skip
  obtain ⟨rfl, q⟩ := q
  rename_i a _ C fs' hm
  unfold optD at q
  split at q <;> first | exact q.elim | skip
  rename_i v hv
  obtain ⟨dx, us, e2, l⟩ := s1 _ _ hm
  obtain ⟨w, hw, rw'⟩ := l.lookup_some hv
  exact ⟨a, C, dx, us, w, rep_v r1, e2, T.c, T.no f hf, hw, q w H1 e1 s1 rw'⟩
theorem repO_ins {K : PySem.W.Frag} {H : Hp} {a dx : Addr} {fs : List (Str × D)} {us : List (Str × V)} (ex : Ext K H (upd H a (.ins C dx us))) (l : RepKV K H fs us) : RepO K (upd H a (.ins C dx us)) a (.ins C fs) := ⟨dx, us, upd_same, RepKV.mono ex l⟩
theorem xs_fput (T : ICls X.K C fs) (he : XE X W value te) (ho : XE X W o to) (hf : f ∈ fs := by simp) (hs : swapsWith value (some (.Attribute o f pos')) pos.line X.env = pure false := by rfl) : XS X W (.Assign [.Attribute o f pos'] value pos) (dFPut C f te to) := by
  refine ⟨fun D D' env M l h => he.mono _ _ _ _ _ _ (fun z M1 => ho.mono _ _ _ _ _ _ (fun d M2 => obAt_mono fun a => insAt_mono fun fs ⟨z1, z2⟩ => ⟨z1, l.nx _ _ z2⟩) (fun c f M' => l.ex c f _ M')) (fun c f M' => l.ex c f _ M') h, PSw (ps_fld ho.pe he.pe hs) ?_⟩
  rintro D σ H ⟨env, M, re, s, h⟩
  refine stepE he.mono re s h (fun z M1 u H1 e1 s1 re1 r1 h1 => ?_) (ends_ex re)
  refine stepE ho.mono re1 s1 h1 (fun d M2 u2 H2 e2 s2 re2 r2 q => ?_) fun c f M' q => upX_mono e1 c f M' (ends_ex re c f M' q)
  unfold fputK2 obAt at q
  split at q <;> first | exact q.elim | skip
  unfold insAt at q
  split at q <;> first | exact q.elim | skip
  obtain ⟨rfl, ql, q⟩ := q
  rename_i a _ C fs' hm
  obtain ⟨dx, us, e3, l⟩ := s2 _ _ hm
  have ex : Ext X.K H2 (upd H2 a (.ins C dx (L2.putF f u us))) := Ext.mut e3 True.intro
  refine ⟨a, C, dx, us, rep_v r2, e3, T.c, T.no f hf, by rw [l.length]; exact ql, ?_⟩
  exact q σ _ ((e1.trans e2).trans ex) (s2.put e3 True.intro (repO_ins ex (RepKV.putF (RepD.mono e2 _ r1) l))) (re2.mono ex)
theorem xs_faug {op : Operator} {r : DOp2} (T : ICls X.K C fs) (ho : XE X W o to) (he : XE X W value te) (hop : XOp X (inplaceOp op) r) (hf : f ∈ fs := by simp) : XS X W (.AugAssign (.Attribute o f tpos) op value pos) (dFAug C f r to te) := by
  refine ⟨fun D D' env M l h => ho.mono _ _ _ _ _ _ (fun z M1 => obAt_mono fun a => insAt_mono fun fs => optD_mono fun x => he.mono _ _ _ _ _ _ (fun y M2 => Res.mono fun z M3 => insAt_mono fun fs ⟨z1, z2⟩ => ⟨z1, l.nx _ _ z2⟩) (fun c f M' => l.ex c f _ M')) (fun c f M' => l.ex c f _ M') h, PSw (ps_fldaug (rd := upR2 X.K r) ho.pe he.pe (fun pins s σ H x y u v Q I rx ry h => hop pins s σ H x y u v Q I rx ry h)) ?_⟩
  rintro D σ H ⟨env, M, re, s, h⟩
  refine stepE ho.mono re s h (fun d M1 u H1 e1 s1 re1 r1 q => ?_) (ends_ex re)
  unfold faugK1 obAt at q
  split at q <;> first | exact q.elim | skip
  unfold insAt at q
  split at q <;> first | exact q.elim | skip
  obtain ⟨rfl, q⟩ := q
  rename_i a _ C fs' hm
  unfold optD at q
  split at q <;> first | exact q.elim | skip
  rename_i v hv
  obtain ⟨dx, us, e3, l⟩ := s1 _ _ hm
  obtain ⟨w, hw, rw'⟩ := l.lookup_some hv
  refine ⟨a, C, dx, us, w, rep_v r1, e3, T.c, T.no f hf, hw, ?_⟩
  refine stepE he.mono re1 s1 q (fun y M2 u2 H2 e2 s2 re2 r2 q2 => ?_) fun c f M' q => upX_mono e1 c f M' (ends_ex re c f M' q)
  refine ⟨v, y, M2, RepD.mono e2 _ rw', r2, s2, Res.mono (fun z M3 q3 w3 H3 e3' s3 r3 => ?_) q2⟩
  unfold faugK3 insAt at q3
  split at q3 <;> first | exact q3.elim | skip
  obtain ⟨rfl, ql, q3⟩ := q3
  rename_i _ C fs2 hm3
  obtain ⟨dx2, us2, e4, l2⟩ := s3 _ _ hm3
  have ex : Ext X.K H3 (upd H3 a (.ins C dx2 (L2.putF f w3 us2))) := Ext.mut e4 True.intro
  refine ⟨dx2, us2, e4, by rw [l2.length]; exact ql, ?_⟩
  exact q3 σ _ (((e1.trans e2).trans e3').trans ex) (s3.put e4 True.intro (repO_ins ex (RepKV.putF r3 l2))) ((re2.mono e3').mono ex)
theorem dMeth_mono {dvs : List D} (ms : MonoSp sp) (mo : MonoE to) (mt : MonoA t) : MonoE (dMeth C m sp dvs to t) := fun env M Q Q' E E' hQ hE => mo _ _ _ _ _ _ (fun d M1 => obAt_mono fun a => insAt_mono fun fs ⟨z1, z2⟩ => ⟨z1, mt _ _ _ _ _ _ (fun ds M2 => ms _ _ _ _ _ _ hQ hE) hE z2⟩) hE
/-- the object of a method call, then what is asked of its arguments -/
theorem meth_up {dvs : List D} {vds : List V} (hd : ∀ H, RepL X.K H dvs vds) (ms : MonoSp sp) (mo : MonoE to) (mt : MonoA t) {σ : L2.St} {H : Hp} {Q : VK} (h : liftE X.K W (dMeth C m sp dvs to t) σ H Q) :
    liftE X.K W to σ H fun x H1 => ∃ a dx us, x = .ref a ∧ H1 a = some (.ins C dx us) ∧ us.lookup m = none ∧ liftA X.K W t σ H1 fun vs H2 => liftSp X.K sp (.ref a :: (vs ++ vds)) H2 Q (WE W σ) := by
  obtain ⟨env, M, re, sm, h⟩ := h
  refine stepE mo re sm h (fun d M1 u H1 e1 s1 re1 r1 q => ?_) fun _ _ _ z => z
  unfold methK1 obAt at q
  split at q <;> first | exact q.elim | skip
  unfold insAt at q
  split at q <;> first | exact q.elim | skip
  obtain ⟨rfl, ql, q⟩ := q
  rename_i a _ C fs' hm
  obtain ⟨dx, us, e3, l⟩ := s1 _ _ hm
  refine ⟨a, dx, us, rep_v r1, e3, l.lookup_none ql, ?_⟩
  refine stepA mt re1 s1 q (fun ds M2 vs H2 e2 s2 re2 r2 q2 => ?_) (upX_mono e1)
  exact ⟨.ob a :: (ds ++ dvs), M2, .cons rep_of (r2.append (hd H2)), s2, ms _ _ _ _ _ _ (upK_mono (e1.trans e2)) (upX_mono (e1.trans e2)) q2⟩
theorem xe_meth {dvs : List D} {pl : Sem Bool} (Mf : MFn X.prog X.w X.K X.mg X.base k C m sp dvs) (T : ICls X.K C fs) (hr : Room k X.A) (tk : Takes X W) (ho : XE X W o to) (ha : XA X W (e :: es) t)
    (hst : starEach (e :: es) X.env = (false, eval e X.env) :: starEach es X.env := by rfl) (hpl : (backTo pos (starEach es X.env)).any (·.1) = false := by rfl)
    (ht : eval (.Call (.Attribute o m apos) (e :: es) [] pos) X.env = (do
      let v ← eval o X.env
      standAt apos.atName
      let (g, own) ← holding [v] (getMethod v m pl)
      callWith pos g own (backTo pos (starEach (e :: es) X.env)) (backToKw pos (keywordEach [] X.env))) := by rfl) : XE X W (.Call (.Attribute o m apos) (e :: es) [] pos) (dMeth C m sp dvs to t) := by
  obtain ⟨mo, f, fd, ps, dsv, vds, F, hm, hb, hvd, hrd⟩ := Mf
  refine ⟨dMeth_mono mo ho.mono ha.mono, ⟨fun pins s σ H Q I h => ?_⟩⟩
  have q := meth_up hrd mo ho.mono ha.mono h
  refine PySem.W.methodCall_KW (pl := pl) (thn (ho.pe.run pins s σ H _ I q) fun u s1 z => ?_) ht
  obtain ⟨x, H1, I1, rx, a, dx, us, rfl, e1, l1, q1⟩ := z
  obtain rfl : u = Value.ref a := rx
  refine getmeth_ok I1 e1 T.c hm l1 ?_
  refine PySem.W.callWith_K (first := [.ref a]) (h₀ := X.base) I.ok.mod.kin hm.kp (thn (ha.pa.run pos pins s1 σ H1 _ I1 q1) fun us2 s2 z2 => ?_) hst hpl
  obtain ⟨vs, H2, I2, r2, q2⟩ := z2
  refine ⟨I2.kIn, ?_⟩
  exact run_fnSD (E := WE W) (us := .ref a :: us2) (vs := .ref a :: vs) F hr hb hvd (passAt tk σ) I2 (.cons rfl r2) q2
theorem xe_meth0 {dvs : List D} {pl : Sem Bool} (Mf : MFn X.prog X.w X.K X.mg X.base k C m sp dvs) (T : ICls X.K C fs) (hr : Room k X.A) (tk : Takes X W) (ho : XE X W o to)
    (ht : eval (.Call (.Attribute o m apos) [] [] pos) X.env = (do
      let v ← eval o X.env
      standAt apos.atName
      let (g, own) ← holding [v] (getMethod v m pl)
      callWith pos g own (backTo pos (starEach [] X.env)) (backToKw pos (keywordEach [] X.env))) := by rfl) : XE X W (.Call (.Attribute o m apos) [] [] pos) (dMeth C m sp dvs to dNil) := by
  obtain ⟨mo, f, fd, ps, dsv, vds, F, hm, hb, hvd, hrd⟩ := Mf
  have mn : MonoA dNil := fun _ _ _ _ _ _ hQ _ h => hQ _ _ h
  refine ⟨dMeth_mono mo ho.mono mn, ⟨fun pins s σ H Q I h => ?_⟩⟩
  have q := meth_up hrd mo ho.mono mn h
  refine PySem.W.methodCall_KW (pl := pl) (thn (ho.pe.run pins s σ H _ I q) fun u s1 z => ?_) ht
  obtain ⟨x, H1, I1, rx, a, dx, us, rfl, e1, l1, q1⟩ := z
  obtain rfl : u = Value.ref a := rx
  refine getmeth_ok I1 e1 T.c hm l1 ?_
  have q2 : liftSp X.K sp (.ref a :: ([] ++ vds)) H1 Q (WE W σ) := by
    obtain ⟨env, M, re, sm, q1⟩ := q1
    exact q1 [] H1 Ext.refl sm .nil
  exact PySem.W.callWith_K0 (first := [.ref a]) I1.kIn hm.kp (run_fnSD (E := WE W) (us := [.ref a]) (vs := [.ref a]) F hr hb hvd (passAt tk σ) I1 (.cons rfl .nil) q2)
theorem passNo {X : Cx} : Passes (L2.CX X.prog X.w) X fun _ _ _ => False := fun _ _ _ _ _ _ _ h => by
  obtain ⟨_, _, _, _, _, _, _, _, _, _, _, _, z⟩ := h
  exact z.elim
theorem dMake_mono (ms : MonoSp sp) (mt : MonoA t) : MonoE (dMake C sp t) := fun env M Q Q' E E' hQ hE => mt _ _ _ _ _ _ (fun ds M1 z x hx => ms _ _ _ _ _ _ (fun d M2 ⟨z1, z2⟩ => ⟨z1, hQ _ _ z2⟩) (fun _ _ _ z => z) (z x hx)) hE
theorem make_rep {H : Hp} {M : Mem} {Q : VK} {vs : List V} {ds : List D} {H0 : Hp} (e0 : Ext X.K H0 H) (ms : MonoSp sp) (sm : Sim X.K H M) (r : RepL X.K H ds vs) (q : makeK C sp (upK X.K H0 Q) ds M) {x dx : Addr} (hx : H x = none) (hd : H dx = none) (ne : dx ≠ x) :
    liftSp X.K sp (.ref x :: vs) (upd (upd H dx (.own x)) x (.ins C dx [])) (fun v H2 => v = .non ∧ Q (.ref x) H2) fun _ _ _ => False := by
  have hx2 : upd H dx (.own x) x = none := by rw [upd_ne ne.symm]; exact hx
  have ex : Ext X.K H (upd (upd H dx (.own x)) x (.ins C dx [])) := (Ext.new hd).trans (Ext.new hx2)
  refine ⟨.ob x :: ds, _, .cons rep_of (RepL.mono ex _ r), (sm.laid hd).new hx2 (repO_ins (fs := []) (us := []) (Ext.new hx2) rfl), ms _ _ _ _ _ _ (fun d M2 z u H2 e2 s2 r2 => ?_) (fun _ _ _ z => z.elim) (q x (sm.free hx))⟩
  obtain ⟨rfl, z⟩ := z
  exact ⟨rep_v r2, z _ H2 ((e0.trans ex).trans e2) s2 rep_of⟩
theorem xe_make (Kf : KFn X.prog X.w X.K X.mg X.base k x C sp) (hr : Room (k + 1) X.A) (hg : Gl X x) (ha : XA X W (e :: es) t) (hdb : (x == ("__debug__" : Str)) = false := by decide)
    (he : starEach (e :: es) X.env = (false, eval e X.env) :: starEach es X.env := by rfl) (hpl : (backTo pos (starEach es X.env)).any (·.1) = false := by rfl) : XE X W (.Call (.Name x p) (e :: es) [] pos) (dMake C sp t) := by
  obtain ⟨mo, hm, f, fd, ps, F, Mk, hb⟩ := Kf
  refine ⟨dMake_mono mo ha.mono, PEw (pe_make (ds := []) (dvs := []) Mk F hr hg hm hb .nil passNo ha.pa hdb he hpl) ?_⟩
  rintro σ H Q ⟨env, M, re, s, h⟩
  refine stepA ha.mono re s h (fun ds M1 vs H1 e1 s1 re1 r1 q => ?_) fun _ _ _ z => z
  intro y dy hy hdy ne
  rw [List.append_nil]
  exact make_rep e1 mo s1 r1 q hy hdy ne
theorem xe_make0 (Kf : KFn X.prog X.w X.K X.mg X.base k x C sp) (hr : Room (k + 1) X.A) (hg : Gl X x) (hdb : (x == ("__debug__" : Str)) = false := by decide) : XE X W (.Call (.Name x p) [] [] pos) (dMake C sp dNil) := by
  obtain ⟨mo, hm, f, fd, ps, F, Mk, hb⟩ := Kf
  refine ⟨dMake_mono mo (fun _ _ _ _ _ _ hQ _ h => hQ _ _ h), PEw (pe_make0 (ds := []) (dvs := []) Mk F hr hg hm hb .nil passNo hdb) ?_⟩
  rintro σ H Q ⟨env, M, re, s, h⟩
  intro y dy hy hdy ne
  exact make_rep Ext.refl mo s .nil h hy hdy ne
end
/-- a def by its body, defaults or not -/
structure Def (K : PySem.W.Frag) (qual : Str) (st : Stmt) (f : Addr) (fd : FuncData) : Prop where
  ok : ∀ {P : Program} {w : World} {mg : Str → Option Value} {base : Heap} {N ps : List Str} {k : Nat} {sp : Sp}, FnScope N ps (defScope st) → (∀ vs H Q E, sp vs H Q E → vs.length = ps.length) →
    (∀ (cdv : Value) (A : Around) (outer : List Env) (s : Shared) (H : Hp) (vs : List V) (Q : VK) (E : XK), Room k (A.deeper (envOfC qual (defScope st) s.heap.objs.size f cdv)) → sp vs H Q E →
      ∃ t, PSs (cxOf (L2.CX P w) P w K mg base N qual (defScope st) f cdv A outer s H E) (defBody st) t ∧ t { nx := fun _ H' => Q .non H', rt := Q } (L2.start N vs) H) → FnOk P w K mg base (L2.CX P w) (k + 1) f fd ps sp
theorem def_fun {K : PySem.W.Frag} {x qual : Str} {st : Stmt} {f : Addr} {fd : FuncData} (F : Fun K x qual st f fd) : Def K qual st f fd := ⟨fun S len h => F.okX S len h⟩
theorem def_funD {K : PySem.W.Frag} {x qual : Str} {st : Stmt} {f : Addr} {fd : FuncData} {dvs : List V} (F : FunD K x qual (defArgs st) (defBody st) (defScope st) dvs [] f fd) : Def K qual st f fd := ⟨fun S len h => F.ok S len h⟩
theorem def_ok {P : Program} {w : World} {K : PySem.W.Frag} {mg : Str → Option Value} {base : Heap} {qual : Str} {st : Stmt} {f : Addr} {fd : FuncData} {N ps : List Str} {k : Nat} {sp : DSp} (F : Def K qual st f fd) (S : FnScope N ps (defScope st))
    (len : ∀ ds M Q E, sp ds M Q E → ds.length = ps.length)
    (hb : ∃ t : DS, (∀ cdv A outer s H E, Room k (A.deeper (envOfC qual (defScope st) s.heap.objs.size f cdv)) → XSs (bx P w K mg base N qual st f cdv A outer s H E) (bW E) (defBody st) t) ∧
      ∀ ds M Q E, sp ds M Q E → t (retEnds Q E) (startD N ds) M) : FnOk P w K mg base (L2.CX P w) (k + 1) f fd ps (liftSp K sp) := by
  obtain ⟨t, ht, hq⟩ := hb
  refine F.ok S (fun vs H Q E h => ?_) (fun cdv A outer s H vs Q E hr h => ?_)
  · obtain ⟨ds, M, r, _, h⟩ := h
    rw [r.length]
    exact len _ _ _ _ h
  · obtain ⟨ds, M, r, sm, h⟩ := h
    refine ⟨_, (ht cdv A outer s H E hr).ps, startD N ds, M, rep_start r, sm, (ht cdv A outer s H E hr).mono _ _ _ _ ⟨?_, ?_, ?_, ?_, ?_⟩ (hq _ _ _ _ h)⟩
    · exact fun e M' q σ' H' e' s' _ => q .non H' e' s' rep_of
    · exact fun d M' q => q
    · exact fun e M' q => q.elim
    · exact fun e M' q => q.elim
    · exact fun c fs e M' q d σ' H' e' s' _ x => q d H' e' s' x
/-- what the top has written of a method -/
structure MSrc (K : PySem.W.Frag) (C : Addr) (m qual : Str) (st : Stmt) (ps : List Str) (dvs : List D) : Prop where
  ex : ∃ (f : Addr) (fd : FuncData) (ds : List Value) (vds : List V), Def K qual st f fd ∧ Meth K C m f ∧ Binds K fd ps ds ∧ Vals vds ds ∧ ∀ H, RepL K H dvs vds
theorem MSrc.fn {P : Program} {w : World} {K : PySem.W.Frag} {mg : Str → Option Value} {base : Heap} {C : Addr} {m qual : Str} {st : Stmt} {ps : List Str} {dvs : List D} {k : Nat} {sp : DSp} (S : MSrc K C m qual st ps dvs) (mo : MonoSp sp)
    (h : ∀ f fd, Def K qual st f fd → FnOk P w K mg base (L2.CX P w) k f fd ps (liftSp K sp)) : MFn P w K mg base k C m sp dvs := by
  obtain ⟨f, fd, ds, vds, F, h1, h2⟩ := S.ex
  exact ⟨mo, f, fd, ps, ds, vds, h f fd F, h1, h2⟩
/-- what the top has written of how a class is made -/
structure KSrc (K : PySem.W.Frag) (mg : Str → Option Value) (x : Str) (C : Addr) (qual : Str) (st : Stmt) (ps : List Str) : Prop where
  at_ : mg x = some (.ref C)
  ex : ∃ (f : Addr) (fd : FuncData), Def K qual st f fd ∧ Mk K C f ∧ Binds K fd ps []
theorem KSrc.fn {P : Program} {w : World} {K : PySem.W.Frag} {mg : Str → Option Value} {base : Heap} {C : Addr} {x qual : Str} {st : Stmt} {ps : List Str} {k : Nat} {sp : DSp} (S : KSrc K mg x C qual st ps) (mo : MonoSp sp)
    (h : ∀ f fd, Def K qual st f fd → FnOk P w K mg base (L2.CX P w) k f fd ps (liftSp K sp)) : KFn P w K mg base k x C sp := by
  obtain ⟨f, fd, F, h1, h2⟩ := S.ex
  exact ⟨mo, S.at_, f, fd, ps, h f fd F, h1, h2⟩
theorem msrc_dfl {K : PySem.W.Frag} {x qual : Str} {st : Stmt} {f T C : Addr} {m : Str} {oT oc : Value} {dT od an : Option Addr} {its : List Value} {n : Nat} {sT osl : Array (Option Value)} {kV dc pm cdv ct : Value} {ps : List Str} {dvs : List V}
    (l : K.lookup f = some ⟨oc, od, .func (PySem.W.fnOf x qual (defArgs st) (defBody st) (defScope st) (.ref T) kV dc pm an cdv ct), osl⟩) (c : PySem.W.codeIn K cdv qual = true) (k : PySem.W.keepIn K (.ref f) = true) (hm : Meth K C m f)
    (lT : K.lookup T = some ⟨oT, dT, .seq its.toArray n, sT⟩) (hv : Vals dvs its) (hd : dvs ≠ []) (j : Nat) (hn : j + (dvs.length - 0) = ps.length)
    (h : ∀ (T : Addr) (kV doc pm : Value) (an : Option Addr) (cdv ct : Value) (us its : List Value), us.length = j → its.length = dvs.length →
      ∃ k, bindArgs (PySem.W.fnOf x qual (defArgs st) (defBody st) (defScope st) (.ref T) kV doc pm an cdv ct) ⟨us, []⟩ = seqItems? (.ref T) >>= k ∧ k (some its.toArray) = pure (ps.zip (us ++ its.drop 0))) : MSrc K C m qual st ps (dvs.map D.v) := by
  have F : FunD K x qual (defArgs st) (defBody st) (defScope st) dvs [] f _ := ⟨⟨oc, od, .ref T, kV, dc, pm, an, cdv, ct, osl, rfl, l, c, .inr ⟨hd, T, _, its, n, rfl, lT, rfl, hv⟩, .inl rfl⟩, k⟩
  obtain ⟨ds, h1, h2⟩ := F.binds1 (ps := ps) j 0 hd hn h
  refine ⟨f, _, ds, dvs, def_funD F, hm, h2, by simpa using h1, fun H => ?_⟩
  clear h1 h2 h hn F hv hd
  induction dvs with
  | nil => exact .nil
  | cons v r ih => exact .cons rep_of ih
end PL

namespace PL
open PySem PySem.Spec PyProof.Rows L2
/-! what is never reached; a try whose body raises nothing -/
def dDead : DS := fun _ _ _ => False
theorem s_dead {Z : DEnds} {env : DEnv} {M : Mem} : dDead Z env M = False := id rfl
theorem xs_dead {X : Cx} {W : WX} {st : Stmt} : XS X W st dDead := ⟨fun _ _ _ _ _ h => h, ⟨fun pins s σ H D I h => by obtain ⟨_, _, _, _, z⟩ := h; exact z.elim⟩⟩
def DEnds.noX (Z : DEnds) : DEnds := { Z with ex := fun _ _ _ _ => False }
def dTryN (tb : DS) : DS := fun Z env M => tb Z.noX env M
section
variable {Z : DEnds} {env : DEnv} {M : Mem} {tb : DS}
theorem s_tryN : dTryN tb Z env M = tb Z.noX env M := id rfl
theorem noX_nx : Z.noX.nx = Z.nx := id rfl
theorem noX_rt : Z.noX.rt = Z.rt := id rfl
theorem noX_bk : Z.noX.bk = Z.bk := id rfl
theorem noX_ct : Z.noX.ct = Z.ct := id rfl
end
theorem xs_tryN {X : Cx} {W : WX} {body : List Stmt} {h₀ : ExceptHandler} {hs : List ExceptHandler} {pos : Pos} {tb : DS} (hb : XSs X.nox W0 body tb) : XS X W (.Try body (h₀ :: hs) [] [] pos) (dTryN tb) := by
  refine ⟨fun D D' env M l h => hb.mono D.noX D'.noX env M ⟨l.nx, l.rt, l.bk, l.ct, fun _ _ _ _ z => z⟩ h, PSw (ps_try_thru0 hb.ps) ?_⟩
  rintro D σ H ⟨env, M, re, s, h⟩
  exact ⟨env, M, re, s, hb.mono (upEnds X.K W H D).noX (upEnds X.K W0 H D) env M ⟨fun _ _ z => z, fun _ _ z => z, fun _ _ z => z, fun _ _ z => z, fun _ _ _ _ z => False.elim z⟩ h⟩
/-! x.split(y) -/
def mSplit : DMeth
  | .v (.str a), [.v (.str b)], _ => .new ((b.length == 0) = false ∧ a.length + 2 ≤ sizeLine) (.lst ((Txt.split a b).map D.str))
  | _, _, _ => .bad
theorem m_split {X : Cx} : MtR X "str.split" (upMeth X.K mSplit) := by
  rintro pins s σ H x xs v us Q I rx rxs ⟨d, ds, M, r1, rl, sm, h⟩
  unfold mSplit at h
  split at h <;> first | exact h.elim | skip
  obtain ⟨u, rfl, q⟩ := rl1 rl
  rw [rep_v r1] at rx
  rw [rep_v q] at rxs
  exact mt_split pins s σ H _ _ v us Q I rx rxs ⟨_, _, rfl, rfl, h.1.1, h.1.2, fun p hp => fin_lst (fun p hp => h.2 p hp) sm hp .of_strs⟩
/-! texts * n -/
def opMulS : DOp2
  | .v (.str x), .v (.int k), _ => .val (1 ≤ x.length ∧ 0 ≤ k ∧ k ≤ 1000 ∧ x.length ≤ 1000) (.str ⟨(List.replicate k.toNat x.cps.toList).flatten.toArray⟩)
  | _, _, _ => .bad
theorem x_mulS {X : Cx} : XOp X (binaryOp .Mult) opMulS := by
  rintro pins s σ H x y v u Q I rx ry ⟨dx, dy, M, r1, r2, sm, h⟩
  unfold opMulS at h
  split at h <;> first | exact h.elim | skip
  rename_i z k
  obtain ⟨h1, h2, h3, h4⟩ := h.1
  by_cases h5 : 2 ≤ k
  · exact x_mul pins s σ H x y v u Q I rx ry ⟨_, _, M, r1, r2, sm, ⟨h1, h5, h3, h4⟩, h.2⟩
  rw [rep_v r1] at rx; rw [rep_v r2] at ry
  obtain ⟨t, rfl⟩ := rx
  obtain ⟨t', rfl⟩ := ry
  rcases (show k = 0 ∨ k = 1 by omega) with rfl | rfl
  · refine PySem.P.mul_str_none (by decide) (by decide) ⟨.str _, H, I.tok _, ⟨_, rfl⟩, fin_val h.2 sm⟩
  · refine PySem.P.mul_str (by decide) (fun _ q => by cases q) (fun _ q => by cases q) ?_
    rw [if_neg (by decide), if_pos (by rfl)]
    have e : (⟨(List.replicate (1 : Int).toNat z.cps.toList).flatten.toArray⟩ : Str) = z := by
      obtain ⟨a⟩ := z
      simp
    rw [e] at h
    exact ⟨.str z, H, I, ⟨_, rfl⟩, fin_val h.2 sm⟩
/-! enumerate of a list -/
def nums (i : Nat) : List D → List D
  | [] => []
  | d :: r => .tup [.int (i : Nat), d] :: nums (i + 1) r
theorem nums_get : ∀ {ds : List D} {i j : Nat} {d : D}, ds[j]? = some d → (nums i ds)[j]? = some (.tup [.int ((i + j : Nat) : Int), d])
  | [], _, _, _, h => by simp at h
  | x :: r, i, 0, d, h => by simp at h; subst h; simp [nums]
  | x :: r, i, j + 1, d, h => by
    have := nums_get (i := i + 1) (show r[j]? = some d by simpa using h)
    rw [show i + 1 + j = i + (j + 1) by omega] at this
    simpa [nums] using this
theorem nums_length : ∀ (ds : List D) (i : Nat), (nums i ds).length = ds.length
  | [], _ => rfl
  | _ :: r, i => by simp [nums, nums_length r]
theorem rep_enum {K : PySem.W.Frag} {H0 : Hp} {a : Addr} {ds : List D} : ItRep K H0 (Ite K a) ⟨nums 0 ds, fun M => M a = some (.lst ds)⟩ where
  go := fun i H M _ s k hi => by
    obtain ⟨us, q, l⟩ := s.seq (.inl k)
    have hl : i < us.length := by rw [l.length]; simpa [nums_length] using hi
    exact ⟨us, us[i], q, by simp [hl]⟩
  yld := fun i H M x H' _ s k _ y => by
    obtain ⟨us, q, l⟩ := s.seq (.inl k)
    obtain ⟨T, x, rfl, hT, rfl, y⟩ := y
    obtain ⟨d, h1, h2⟩ := l.get' (y us q)
    refine ⟨_, by have := nums_get (i := 0) h1; rwa [Nat.zero_add] at this, ?_, Ext.new hT, s.laid hT⟩
    unfold RepD
    exact ⟨T, _, rfl, .inl (.inl upd_same), .cons rep_of (.cons (RepD.mono (Ext.new hT) _ h2) .nil)⟩
  stop := fun H M _ s k => by
    obtain ⟨us, q, l⟩ := s.seq (.inl k)
    exact ⟨us, q, by show us.length ≤ (nums 0 ds).length; rw [l.length, nums_length]; exact Nat.le_refl _⟩
def enumK (R : DIt → Mem → Prop) : List D → Mem → Prop := fun es M => ∃ a ds, es = [.ob a] ∧ M a = some (.lst ds) ∧ R ⟨nums 0 ds, fun M => M a = some (.lst ds)⟩ M
def dEnum (ta : DA) : DI := fun env M R E => ta env M (enumK R) E
theorem s_enum {ta : DA} {env M R E} : dEnum ta env M R E = ta env M (enumK R) E := id rfl
theorem s_enumK {R es M} : enumK R es M = ∃ a ds, es = [.ob a] ∧ M a = some (.lst ds) ∧ R ⟨nums 0 ds, fun M => M a = some (.lst ds)⟩ M := id rfl
section
variable {X : Cx} {W : WX} {e : Expr} {ta : DA} {pos p tpos : Pos} {elts : List Expr} {kk : Nat}
theorem xi_enum (hg : Gl X "enumerate") (hm : X.mg "enumerate" = none) (ha : XA X W [e] ta) (hs : starEach [e] X.env = [(false, eval e X.env)] := by rfl) : XI X W (.Tuple elts kk tpos) (.Call (.Name "enumerate" p) [e] [] pos) (dEnum ta) := by
  refine ⟨fun env M Q Q' E E' hQ hE h => ?_, PIw (pi_enum hg hm ha.pa hs) ?_⟩
  · refine ha.mono env M _ _ _ _ (fun ds M1 q => ?_) hE h
    obtain ⟨a, es, h1, h2, h3⟩ := q
    exact ⟨a, es, h1, h2, hQ _ _ h3⟩
  rintro σ H R ⟨env, M, re, s, h⟩
  refine stepA ha.mono re s h (fun ds M1 us H1 e1 s1 re1 r1 q => ?_) fun _ _ _ z => z
  obtain ⟨a, es, rfl, h2, h3⟩ := q
  obtain ⟨u, rfl, q1⟩ := rl1 r1
  obtain ⟨ws, q2, l⟩ := s1.seq (.inl h2)
  rw [rep_v q1]
  exact ⟨a, ws, rfl, q2, h3 _ H1 e1 s1 rep_enum⟩
end
/-! constants that are tuples of tuples -/
theorem rep_tup0 {K : PySem.W.Frag} {H : Hp} {a : Addr} {d : Option Addr} {t : Array Value} {n : Nat} {s : Array (Option Value)} (h : K.lookup a = some ⟨.type "tuple", d, .seq t n, s⟩) (ht : t.toList = []) : RepD K H (.tup []) (.ref a) := by
  unfold RepD
  exact ⟨a, [], rfl, .inr ⟨_, t, n, h, rfl, rfl, by rw [← Array.length_toList, ht]; decide, by rw [ht]; exact .nil⟩, .nil⟩
theorem vals_refs : ∀ (as : List Addr), Vals (as.map V.ref) (as.map Value.ref)
  | [] => .nil
  | a :: as => .cons rfl (vals_refs as)
theorem rep_tups {K : PySem.W.Frag} {H : Hp} {a : Addr} {d : Option Addr} {t : Array Value} {n : Nat} {s : Array (Option Value)} {ds : List D} (as : List Addr) (h : K.lookup a = some ⟨.type "tuple", d, .seq t n, s⟩) (hz : t.size ≤ sizeLine) (ht : t.toList = as.map Value.ref) (r : RepL K H ds (as.map V.ref)) : RepD K H (.tup ds) (.ref a) := by
  unfold RepD
  exact ⟨a, as.map V.ref, rfl, .inr ⟨_, t, n, h, rfl, rfl, hz, by rw [ht]; exact vals_refs as⟩, r⟩
theorem look_nil {β : Type} {f : Str} : look ([] : List (Str × β)) f = none := id rfl
theorem look_cons {β : Type} {f g : Str} {x : β} {r : List (Str × β)} : look ((g, x) :: r) f = if g = f then some x else look r f := id rfl
theorem putFD_nil {f : Str} {d : D} : putFD [] f d = [(f, d)] := id rfl
theorem putFD_cons {f g : Str} {d x : D} {r : List (Str × D)} : putFD ((g, x) :: r) f d = if g = f then (g, d) :: r else (g, x) :: putFD r f d := id rfl
end PL

namespace PL
open PySem PySem.Spec PyProof.Rows L2
/-! def f(p): return p[0] -/
theorem bindL_one {k : Str → Option NameKind} {p : Str} {v : Value} (h : k p = some .local) : PySem.bindL k ([p].zip ([v] ++ [])) (fun _ => none) p = some v := by
  show PySem.bindL k [] (if k p = some .local then fun y => if y = p then some v else none else fun _ => none) p = some v
  rw [if_pos h]
  exact if_pos rfl
theorem key_first {P : Program} {w : World} {K : PySem.W.Frag} {x qual p : Str} {st : Stmt} {f : Addr} {fd : FuncData} {pp p2 p3 p4 : Pos} {kk : Nat} (F : Fun K x qual st f fd) (hb : defBody st = [.Return (some (.Subscript (.Name p pp) (.Constant (.int 0) kk p2) p3)) p4])
    (S : FnScope [p] [p] (defScope st)) (hloc : (defScope st).names.lookup p = some .local) (hbd : Binds K fd [p] []) (hp : (p == ("__debug__" : Str)) = false) {A : Around} {s : Shared} (KX : K.In s.heap) (lim : s.heap.NoLimit) (hr : A.depth < recursionLimit) {t : Addr} {items : Array Value}
    (ht : IsTup s.heap t items) {y : Value} (hy : items[0]? = some y) : wpAny (model P w) A (call (.ref f) [.ref t]) (fun v s' => v = y ∧ ∃ h' tk, s' = { s with heap := h', toks := tk } ∧ ∀ b o, s.heap.get? b = some o → h'.get? b = some o) (fun _ _ => False) s := by
  have hq := hbd s [.ref t] KX rfl
  obtain ⟨oc, od, kV, doc, pm, an, cdv, ct, osl, rfl, lk, hcd⟩ := F.ex
  have hkind : ∀ z ∈ [p].zip ([Value.ref t] ++ []), (defScope st).names.lookup z.1 = some .local ∨ ((defScope st).names.lookup z.1 = some .cell ∧ ((cellsFrom (s.heap.objs.size + 1) (defScope st).names []).lookup z.1).isSome = true) := fun ⟨n, v⟩ hz => by
    have : n = p := by simpa using (List.of_mem_zip hz).1
    subst this
    exact .inl hloc
  refine wpAny_call (codeAny_call_function hr (KX _ _ lk) rfl S.co S.gen rfl (PySem.W.codeRec_of KX hcd) (hq _ _ _ _ ?_))
  refine wpAny_newFunctionEnv_cells S.kind hkind fun env he s1 x => ?_
  subst he
  refine ⟨lim.keeps x.toInCall.keep, codeAny_func ?_⟩
  show wpAny _ _ (execs (defBody st) _) _ _ _
  rw [hb]
  refine wpAny_execs_cons (wpAny_Return_some (wpAny_Subscript_Constant_late (wpAny_Name (ldLC x S.kind hloc (v := .ref t) (by first | exact bindL_one hloc | skip) ?_) hp)))
  refine wpAny_Constant_int ?_
  have ht1 : IsTup s1.heap t items := ht.keeps x.toInCall.keep
  refine ⟨"tuple", "tuple.__getitem__", slot_tuple_getitem.lookup, ht1.typeIs, ?_⟩
  have h0 : 0 < items.size := (Array.getElem?_eq_some_iff.mp hy).1
  refine getItem_tuple (j := 0) ht1 (by decide) (by decide) (by unfold seqIndex?; simp [h0]) hy ?_
  obtain ⟨h1, tk, rfl, hk⟩ := x.done
  exact ⟨rfl, h1, _, rfl, hk⟩
/-! sorted(xs, key=f), f as above: tuples by their first text -/
def nameD : D → Str
  | .tup (.v (.str s) :: _) => s
  | _ => ⟨#[]⟩
def leD (a b : D) : Bool := decide ((nameD a).cps.toList ≤ (nameD b).cps.toList)
def TupS (d : D) : Prop := ∃ s r, d = .tup (.str s :: r)
def sortByK (Q : DK) : DK := fun d M => ∃ ds, lstAt M d = some ds ∧ (∀ d ∈ ds, TupS d) ∧ ∀ p, M p = none → Q (.ob p) (mupd M p (.lst (ds.mergeSort leD)))
def dSortBy (te : DE) : DE := fun env M Q E => te env M (sortByK Q) E
theorem s_sortBy {te env M Q E} : dSortBy te env M Q E = te env M (sortByK Q) E := id rfl
theorem s_sortByK {Q d M} : sortByK Q d M = ∃ ds, lstAt M d = some ds ∧ (∀ d ∈ ds, TupS d) ∧ ∀ p, M p = none → Q (.ob p) (mupd M p (.lst (ds.mergeSort leD))) := id rfl
def rSortBy (K : PySem.W.Frag) (f : Addr) : List V → List V → Hp → VK → Prop := fun vs zs H Q => ∃ (a : Addr) (as : List Addr) (ds : List D), vs = [.ref a] ∧ zs = [.ref f] ∧ SqL K H a (as.map V.ref) ∧ RepL K H ds (as.map V.ref) ∧ (∀ d ∈ ds, TupS d) ∧
  ∀ (p : Addr) (us : List V), H p = none → RepL K H (ds.mergeSort leD) us → Q (.ref p) (upd H p (.lst us))
theorem refs_of {K : PySem.W.Frag} {H : Hp} : ∀ {ds : List D} {us : List V}, (∀ d ∈ ds, TupS d) → RepL K H ds us → ∃ as : List Addr, us = as.map V.ref
  | [], _, _, h => by unfold RepL at h; exact ⟨[], h⟩
  | d :: ds, _, ht, h => by
    unfold RepL at h
    obtain ⟨u, r, rfl, q, t⟩ := h
    obtain ⟨s, r', rfl⟩ := ht d List.mem_cons_self
    unfold RepD at q
    obtain ⟨a, us, rfl, _⟩ := q
    obtain ⟨as, rfl⟩ := refs_of (fun d hd => ht d (List.mem_cons_of_mem _ hd)) t
    exact ⟨a :: as, rfl⟩
theorem rep_zip {K : PySem.W.Frag} {H : Hp} : ∀ {ds : List D} {as : List Addr}, RepL K H ds (as.map V.ref) → (∀ z ∈ as.zip ds, RepD K H z.2 (.ref z.1)) ∧ (as.zip ds).map (·.2) = ds ∧ (as.zip ds).map (·.1) = as
  | [], as, h => by
    unfold RepL at h
    have : as = [] := by simpa using h
    subst this
    exact ⟨by simp, rfl, rfl⟩
  | d :: ds, [], h => by
    unfold RepL at h
    obtain ⟨u, r, e, _⟩ := h
    cases e
  | d :: ds, a :: as, h => by
    unfold RepL at h
    obtain ⟨u, r, e, q, t⟩ := h
    simp only [List.map_cons, List.cons.injEq] at e
    obtain ⟨rfl, rfl⟩ := e
    obtain ⟨h1, h2, h3⟩ := rep_zip t
    refine ⟨fun z hz => ?_, by simp [h2], by simp [h3]⟩
    rw [List.zip_cons_cons] at hz
    rcases List.mem_cons.mp hz with e | e
    · rw [e]; exact q
    · exact h1 z e
theorem rep_unzip {K : PySem.W.Frag} {H : Hp} : ∀ {zs : List (Addr × D)}, (∀ z ∈ zs, RepD K H z.2 (.ref z.1)) → RepL K H (zs.map (·.2)) (zs.map fun z => V.ref z.1)
  | [], _ => .nil
  | z :: zs, h => .cons (h z List.mem_cons_self) (rep_unzip fun z' hz => h z' (List.mem_cons_of_mem _ hz))
theorem eachIs_refs {K : PySem.W.Frag} : ∀ (zs : List (Addr × D)), PySem.W.EachIs (fun (v : Value) (z : Addr × D) => v = .ref z.1) (zs.map fun z => Value.ref z.1) zs
  | [] => .nil
  | z :: zs => .cons rfl (eachIs_refs (K := K) zs)
theorem eachIs_eq : ∀ {vs : List Value} {zs : List (Addr × D)}, PySem.W.EachIs (fun (v : Value) (z : Addr × D) => v = .ref z.1) vs zs → vs = zs.map fun z => Value.ref z.1
  | _, _, .nil => rfl
  | _, _, .cons h t => by rw [h, eachIs_eq t]; rfl
theorem cr_sortBy {X : Cx} {x qual p : Str} {st : Stmt} {f : Addr} {fd : FuncData} {pp p2 p3 p4 : Pos} {kk : Nat} (F : Fun X.K x qual st f fd) (hb : defBody st = [.Return (some (.Subscript (.Name p pp) (.Constant (.int 0) kk p2) p3)) p4])
    (S : FnScope [p] [p] (defScope st)) (hloc : (defScope st).names.lookup p = some .local) (hbd : Binds X.K fd [p] []) (hp : (p == ("__debug__" : Str)) = false) (hr : Room 1 X.A) : CallRK X (.builtin "sorted") [Str.ofString "key"] (rSortBy X.K f) := by
  intro pins s σ H vs zs us ws Q I r rz h
  obtain ⟨a, as, ds, rfl, rfl, hs, hl, hts, q⟩ := h
  obtain rfl := Vals.ref1 r
  obtain ⟨w1, rfl, e1⟩ := vals1 rz
  obtain rfl : w1 = Value.ref f := e1
  obtain ⟨its, rv, p', hz⟩ := I.list hs
  have ei : its = as.map Value.ref := by
    clear p' hz hs hl q
    induction as generalizing its with
    | nil => cases rv; rfl
    | cons b as ih =>
      cases rv with
      | cons r1 rr =>
        cases r1
        rw [ih _ rr]; rfl
  subst ei
  obtain ⟨z1, z2, z3⟩ := rep_zip hl
  have hlen : (as.zip ds).length = as.length := by
    have := congrArg List.length z3
    simpa using this
  have ev : as.map Value.ref = (as.zip ds).map fun z => Value.ref z.1 := by
    rw [show (fun z : Addr × D => Value.ref z.1) = Value.ref ∘ Prod.fst from rfl, ← List.map_map, z3]
  have hz' : as.length ≤ sizeLine := by simpa using hz
  refine PySem.W.sorted_key_data (s := s) (vs := as.map Value.ref) (bs := as.zip ds) (R := fun (v : Value) (z : Addr × D) => v = .ref z.1) (b := false) (f := .ref f) (k := fun z : Addr × D => .str (nameD z.2)) p'.isList (ev ▸ eachIs_refs (K := X.K) _) ?_ ?_ (by rw [hlen]; exact hz') (fun z _ => ?_) (PyProof.Rows.ksk_s1 _ _) (fun _ => PyProof.Rows.ksk_l1 _ _) (fun b => PyProof.Rows.ksk_t1 f b) ?_ ?_
  · intro d hd d' hd'
    obtain ⟨z, _, rfl⟩ := List.mem_map.mp hd
    obtain ⟨z', _, rfl⟩ := List.mem_map.mp hd'
    simp [PySem.W.alike]
  · refine .inr fun d hd => ?_
    obtain ⟨z, _, rfl⟩ := List.mem_map.mp hd
    exact ⟨by simp, by simp⟩
  · have := hr.un
    show X.A.units + 2 + PyData.depth (.str _) < cLine
    simp [PyData.depth]; omega
  · intro v z hv hzm h1 tk kp
    subst hv
    have rd := z1 z hzm
    have hd2 : z.2 ∈ ds := (List.of_mem_zip hzm).2
    obtain ⟨sx, rx, ez⟩ := hts z.2 hd2
    rw [ez] at rd ⊢
    unfold RepD at rd
    obtain ⟨a', us', e, sq, rl⟩ := rd
    cases e
    obtain ⟨its2, rv2, tt, _⟩ := I.tuple sq
    unfold RepL at rl
    obtain ⟨u0, r0, rfl, q0, _⟩ := rl
    rw [rep_v q0] at rv2
    cases rv2 with
    | cons ra rb =>
      obtain ⟨tok, rfl⟩ := ra
      rename_i its3
      refine wpAny_mono (key_first (y := .str sx tok) F hb S hloc hbd hp (A := X.A.in1.in1) (s := { s with heap := h1, toks := tk }) (I.kIn.keeps kp) ((I.env0.mod.nolimit.keeps fun b o e => (I.env0.bs b o e).1).keeps kp) (by have := hr.dp; show X.A.depth < _; omega) (tt.keeps kp) (by simp)) (fun v s' ⟨hv, h', tk', e, kk'⟩ => ?_) fun _ _ z => z
      subst e hv
      exact ⟨h', tk', rfl, kk', .str _ _⟩
  · intro out c h' tk kp fr he ho hE
    rw [eachIs_eq hE, PySem.W.dataLe_str (fun z : Addr × D => nameD z.2)] at he
    have e2 : ((as.zip ds).mergeSort fun a b => decide ((nameD a.2).cps.toList ≤ (nameD b.2).cps.toList)).map (·.2) = ds.mergeSort leD := by
      exact (List.map_mergeSort (r := fun a b : Addr × D => decide ((nameD a.2).cps.toList ≤ (nameD b.2).cps.toList)) (s := leD) (f := fun z : Addr × D => z.2) (l := as.zip ds) (fun a _ b _ => rfl)).trans (by rw [z2])
    have zr : ∀ z ∈ (as.zip ds).mergeSort fun a b => decide ((nameD a.2).cps.toList ≤ (nameD b.2).cps.toList), RepD X.K H z.2 (.ref z.1) := fun z hz => z1 z (List.mem_mergeSort.mp hz)
    generalize (as.zip ds).mergeSort (fun a b => decide ((nameD a.2).cps.toList ≤ (nameD b.2).cps.toList)) = zs at he e2 zr
    have hn : H (s.heap.objs.size + 1) = none := I.hok.fresh (Nat.le_succ _)
    have hls : (zs.map fun z => V.ref z.1).length ≤ sizeLine := by
      have e3 := congrArg List.length e2
      rw [List.length_map, List.length_mergeSort] at e3
      rw [List.length_map, e3]
      have := congrArg List.length z2
      rw [List.length_map, hlen] at this
      omega
    have rl := rep_unzip zr
    rw [e2] at rl
    refine ⟨.ref _, upd H (s.heap.objs.size + 1) (.lst (zs.map fun z => V.ref z.1)), I.laid (t' := tk) kp (Nat.le_succ _) ⟨hls, _, c, vals_maps (fun z : Addr × D => V.ref z.1) (fun z => Value.ref z.1) zs fun _ _ => rfl, he⟩, rfl, q _ _ hn rl⟩
section
variable {X : Cx} {W : WX} {e : Expr} {te : DE} {x y p : Str} {sp kp np pos pp p2 p3 p4 : Pos} {kk : Nat} {st : Stmt}
theorem xe_sortBy (S0 : Src X.K X.mg y st [p]) (hb : defBody st = [.Return (some (.Subscript (.Name p pp) (.Constant (.int 0) kk p2) p3)) p4]) (S : FnScope [p] [p] (defScope st)) (hloc : (defScope st).names.lookup p = some .local) (hr : Room 1 X.A) (he : XE X W e te) (hg : Gl X "sorted") (hm : X.mg "sorted" = none)
    (hv : bootBuiltins "sorted" = some (.builtin "sorted")) (hgy : Gl X y) (hp : (p == ("__debug__" : Str)) = false := by decide) (hdb : (y == ("__debug__" : Str)) = false := by decide)
    (hs0 : starEach [e] X.env = (false, eval e X.env) :: starEach [] X.env := by rfl) (hs : backTo pos (starEach [e] X.env) = (false, eval e X.env) :: backTo pos (starEach [] X.env) := by rfl) (hpl : (backTo pos (starEach [e] X.env)).any (·.1) = false := by rfl)
    (hall : (backToKw pos (keywordEach [⟨some "key", .Name y np, kp⟩] X.env)).all (·.1.isSome) = true := by rfl) (hnone : (backToKw pos (keywordEach [⟨some "key", .Name y np, kp⟩] X.env)).any (·.1.isNone) = false := by rfl) (hks : (backToKw pos (keywordEach [⟨some "key", .Name y np, kp⟩] X.env)).filterMap (·.1) = [Str.ofString "key"] := by rfl) :
    XE X W (.Call (.Name "sorted" sp) [e] [⟨some "key", .Name y np, kp⟩] pos) (dSortBy te) := by
  obtain ⟨f, fd, F, h1, h2, h3⟩ := S0.ex
  refine ⟨fun env M Q Q' E E' hQ hE => he.mono _ _ _ _ _ _ (fun d M1 ⟨ds, h1, h2, h⟩ => ⟨ds, h1, h2, fun p z => hQ _ _ (h p z)⟩) hE, PEw (pe_callBK (cr_sortBy F hb S hloc h3 hp hr) hg hm hv (pa_cons he.pe pa_nil hs0) (pk_cons (pe_glob (v := .ref f) hgy h1 rfl hdb) pk_nil) (he := hs) (hpl := hpl) (hall := hall) (hnone := hnone) (hks := hks)) ?_⟩
  rintro σ H Q ⟨env, M, re, sm, h⟩
  refine stepE he.mono re sm h (fun d M1 u H1 e1 s1 re1 r1 q => ?_) fun _ _ _ z => z
  obtain ⟨ds, hd, hts, q⟩ := q
  obtain ⟨a, us, rfl, hs', l⟩ := lstAt_rep s1 r1 hd
  obtain ⟨as, rfl⟩ := refs_of hts l
  refine ⟨a, as, ds, rfl, rfl, hs', l, hts, fun p us hp hl => ?_⟩
  exact q p (s1.free hp) _ _ (e1.trans (Ext.new hp)) (s1.new hp ⟨us, upd_same, RepL.mono (Ext.new hp) _ hl⟩) rep_of
end
end PL

set_option maxHeartbeats 4000000
namespace PL
open PySem PySem.Spec PyProof.Rows L2 NdefX

/-! an own error whose __init__ says super().__init__(..) -/
section
open PySem.W
variable {prog : Program} {w : World} {A : Around} {E : Value → Shared → Prop} {h : Heap} {g : Array GenState} {d : Drawn} {t : Nat} {os : OsState}
variable {nm q : Str} {C N : Addr} {bs bm bmB : List Value} {hdct : Bool} {sn : List Str} {sub : List Value} {ab : Bool} {col : Option Bool} {dd : Option Addr} {k0 k1 k2 k3 k5 : Option Value} {B i newId : String}
theorem call_mw (FB : ExcBaseFacts B newId i bmB) {u e t0 : Addr} {rest : List Value} {Q : Value → Shared → Prop}
    (hC : h.get? C = some (excClassObj nm q C N bs bm hdct sn sub ab col dd k0 k1 k2 k3 k5 newId)) (he : h.get? e = some (excRec (.ref C) t0 none .none .none (.bool false))) (hu : h.get? u = some (kxs_mw i e)) (hrest : rest.length ≤ sizeLine)
    (hq : ∀ h' t1, (∀ b o, b ≠ e → h.get? b = some o → h'.get? b = some o) → h'.get? e = some (excRec (.ref C) t1 none .none .none (.bool false)) → Q .none ⟨h', g, d, t, os⟩) :
    wpAny (model prog w) A (call (.ref u) rest) Q E ⟨h, g, d, t, os⟩ := by
  refine wpAny_call (codeAny_of_tree ?_)
  show wpAny _ A.in1 (callAny (.ref u) ⟨rest, []⟩) _ _ _
  simp only [callAny]
  refine wpAny_bind (wpAny_load hu ?_)
  simp only [kxs_mw, show (Value.type "method-wrapper" == Value.type "method" || Value.type "method-wrapper" == Value.type "builtin_function_or_method" || Value.type "method-wrapper" == Value.type "method-wrapper") = true by decide, if_true]
  refine KFB.if_so (by decide) ?_
  refine wpAny_bind (check_bound_init FB.toExcCallFacts hC he rfl ?_)
  refine wpAny_bind (wpAny_pure (wpAny_pure ?_))
  refine ⟨plainId_quiet FB.init.plain _, codeAny_builtin FB.initEntry ?_⟩
  exact exc_init_tree he hrest fun h' k e' _ => hq h' _ k e'
end
/-- the def -/
structure SupF (P : Program) (K : PySem.W.Frag) (D f : Addr) (qual : Str) (st : Stmt) (ar : Arg) (fd : FuncData) (cc cda : Addr) : Prop where
  fdx : ∃ dV kV dc pm ct an, fd = PySem.W.fnX "__init__" qual (defArgs st) (defBody st) (defScope st) [("__class__", cc)] dV kV dc pm an (.ref cda) ct
  lk : ∃ oc od osl, K.lookup f = some ⟨oc, od, .func fd, osl⟩
  code : PySem.W.codeIn K (.ref cda) qual = true
  file : ∃ ccl cdd vs ccs file tf, K.lookup cda = some ⟨ccl, cdd, .fields vs, ccs⟩ ∧ vs[2]? = some (.str file tf) ∧ ((P.main.file : Str) == file) = true
  cell : ∃ cl cld csl, K.lookup cc = some ⟨cl, cld, .cell (some (.ref D)), csl⟩
  cls : ∃ cdD, PySem.W.clsIn K D = some cdD
  top : (P.main.scope.names.lookup ("super" : Str)).isSome = false
  hd : ((defArgs st).posonlyargs ++ (defArgs st).args).head? = some ar
/-- the class C that is made, D the one whose __init__ it is -/
structure SupB (K : PySem.W.Frag) (D C : Addr) (B i newId : String) (bmB : List Value) : Prop where
  KF : PySem.W.KxsFacts B i
  FB : ExcBaseFacts B newId i bmB
  cls : ∃ nm q N bs bm hdct sn sub ab col dd k0 k1 k2 k3 k5, K.lookup C = some (excClassObj nm q C N bs bm hdct sn sub ab col dd k0 k1 k2 k3 k5 newId)
  sub : PySem.W.mroIn K C (.ref D) = some true
  sup : PySem.W.ks_superIn K C D "__init__" = some (some (.builtin i))
  isB : PySem.W.subIn K (.ref C) (.type B) = some true
  tp : PySem.W.nsIn K cStatics "thirdparty.any" = some none
abbrev SNF (qual : Str) (st : Stmt) (cc cda : Addr) : NF := ⟨"__init__", qual, defArgs st, defBody st, defScope st, [("__class__", cc)], cda⟩
section
variable {CX : CXT} {P : Program} {w : World} {K : PySem.W.Frag} {mg : Str → Option Value} {base : Heap} {N : List Str} {qual : Str} {st : Stmt} {ar : Arg} {fd : FuncData} {cc cda f C D : Addr} {A : Around} {outer : List Env} {s0 : Shared} {H0 : Hp} {E : XK} {B i newId : String} {bmB : List Value}
theorem super_stmt {arg : Expr} {p0 p1 p2 p3 p4 : Pos} {pl : Sem Bool} {σ : L2.St} {H : Hp} {s1 : Shared} {j : Nat} {a : Addr} {ta : TA} (SF : SupF P K D f qual st ar fd cc cda) (SB : SupB K D C B i newId bmB)
    (hks : (defScope st).names.lookup ("super" : Str) = some .globalImplicit) (hkc : (defScope st).names.lookup ("__class__" : Str) = some .free) (hka : (defScope st).names.lookup ar.arg = some .local) (hmg : mg "super" = none)
    (I : Inv (ncx CX P w K mg base N (SNF qual st cc cda) f A outer s0 H0 E) [] σ H s1) (hN : N[j]? = some ar.arg) (hσ : σ[j]? = some (some (.ref a))) (ha : H a = some (exo a C none))
    (hta : PA (ncx CX P w K mg base N (SNF qual st cc cda) f A outer s0 H0 E) [arg] ta) (hT : ∀ Q : List V → Hp → Prop, (∀ v, Q [v] H) → ta σ H Q)
    (hsw : swapsWith (.Call (.Attribute (.Call (.Name "super" p0) [] [] p1) "__init__" p2) [arg] [] p3) none p4.line (envF (SNF qual st cc cda) f s0.heap.objs.size) = pure false)
    (he : eval (.Call (.Attribute (.Call (.Name "super" p0) [] [] p1) "__init__" p2) [arg] [] p3) (envF (SNF qual st cc cda) f s0.heap.objs.size) = (do
      let ov ← attributeBase (.Call (.Name "super" p0) [] [] p1) "__init__" (envF (SNF qual st cc cda) f s0.heap.objs.size) (eval (.Call (.Name "super" p0) [] [] p1) (envF (SNF qual st cc cda) f s0.heap.objs.size))
      standAt p2.atName
      let (f', first) ← holding [ov] (getMethod ov "__init__" pl)
      callWith p3 f' first (backTo p3 (starEach [arg] (envF (SNF qual st cc cda) f s0.heap.objs.size))) []))
    (hse : starEach [arg] (envF (SNF qual st cc cda) f s0.heap.objs.size) = (false, eval arg (envF (SNF qual st cc cda) f s0.heap.objs.size)) :: starEach [] (envF (SNF qual st cc cda) f s0.heap.objs.size)) :
    PySem.wpAt (model P w) (A.deeper (envF (SNF qual st cc cda) f s0.heap.objs.size)) (.func (defBody st) (envF (SNF qual st cc cda) f s0.heap.objs.size))
      (exec (.Expr (.Call (.Attribute (.Call (.Name "super" p0) [] [] p1) "__init__" p2) [arg] [] p3) p4) (envF (SNF qual st cc cda) f s0.heap.objs.size))
      (fun fl s' => fl = .next ∧ Inv (ncx CX P w K mg base N (SNF qual st cc cda) f A outer s0 H0 E) [] σ H s') (ncx CX P w K mg base N (SNF qual st cc cda) f A outer s0 H0 E).xe s1 := by
  obtain ⟨dV, kV, dc, pm, ct, an, hfd⟩ := SF.fdx
  obtain ⟨oc, od, osl, hlk⟩ := SF.lk
  obtain ⟨ccl, cdd, vs, ccs, file, tf, hcode, hvs, hfile⟩ := SF.file
  obtain ⟨cl, cld, csl, hcell⟩ := SF.cell
  obtain ⟨cdD, hD⟩ := SF.cls
  obtain ⟨nm, q, Nc, bs, bm, hdct, sn, sub, ab, col, dd, k0, k1, k2, k3, k5, hC⟩ := SB.cls
  have KX : K.In s1.heap := I.kIn
  obtain ⟨oD, hD1, hD2⟩ : ∃ oD, s1.heap.get? D = some oD ∧ oD.data = .cls cdD := by
    unfold PySem.W.clsIn at hD
    split at hD
    · rename_i c d cd' sl ho
      cases hD
      exact ⟨_, KX _ _ ho, rfl⟩
    · cases hD
  refine PySem.ks_wpAt_Expr_any ?_ I.quiet hsw
  refine PySem.ks_wpAt_MethodCall (pl := pl) ?_ he
  have hdata : ({ cls := oc, dict := od, data := Data.func fd, slots := osl } : Obj).data = .func fd := rfl
  have hpar : (fd.params.posonlyargs ++ fd.params.args).head? = some ar := by rw [hfd]; exact SF.hd
  refine PySem.ks_wpAt_super_base hks hkc (by decide) rfl (KX _ _ hlk) hdata hpar rfl (KX _ _ hcode) rfl hvs hfile SF.top ?_
  obtain ⟨mb, hb1, hb2⟩ := I.mod.blt
  refine PySem.W.ks_loadName_global I.ok.kind hks (Calls.loadGlobal_builtin (show s1.heap.Ns mainGlobals mg from I.mod.glob.keeps I.bk) hmg (show s1.heap.Ns builtinsNs mb from hb1.keeps I.bk) ((hb2 "super" (by decide)).trans (show bootBuiltins "super" = some (.type "super") from by decide +kernel)) ⟨rfl, ?_⟩)
  refine wpAny_loadName_free I.ok.kind hkc rfl ⟨_, KX _ _ hcell, rfl⟩ ?_
  obtain ⟨m, hns, hloc⟩ := I.loc
  obtain ⟨u0, ru0, hlook⟩ := hloc j ar.arg (.ref a) hN hσ (.inl hka)
  have hu0 : u0 = Value.ref a := ru0
  have hm : m ar.arg = some (.ref a) := by
    rcases hlook with ⟨_, z⟩ | ⟨z, _⟩
    · rw [z, hu0]
    · rcases z with z | z
      · exact absurd (hka.symm.trans z) (by simp)
      · exact absurd (hka.symm.trans z) (by simp)
  refine wpAny_loadName_local I.ok.kind hka hns hm ?_
  obtain ⟨t0, hoa⟩ := exo_at I.hok ha
  obtain ⟨hp, g, d, t, os⟩ := s1
  refine PySem.ks_wpAny_isType_cls hD1 hD2 ⟨rfl, ?_⟩
  refine PySem.ks_wpAny_call_super hD1 hD2 hoa rfl (fun c e => by cases e) (PySem.W.looks_mroIn KX SB.sub) (fun h1 e1 kk1 => ?_)
  have I1 : Inv (ncx CX P w K mg base N (SNF qual st cc cda) f A outer s0 H0 E) [] σ H ⟨h1, g, d, t, os⟩ := I.kept (t' := t) kk1
  have X1 : K.In h1 := I1.kIn
  obtain ⟨cd, hcd⟩ : ∃ cd, PySem.W.clsIn K C = some cd := ⟨_, by unfold PySem.W.clsIn; rw [hC] <;> rfl⟩
  have hsup := SB.sup
  unfold PySem.W.ks_superIn at hsup
  rw [hcd] at hsup
  have II : PySem.W.InstAt h1 a { cls := .ref C, dict := none, data := .fields #[.ref t0, .none, .none, .none, .bool false, .none] } C none := ⟨kk1 _ _ hoa, rfl, rfl, trivial⟩
  have hI : PySem.W.Looks (model P w) h1 (isInstance (.ref a) (.type B)) true := II.type.andThen (PySem.W.looks_subIn X1 SB.isB)
  refine PySem.W.kxs_getMethod SB.KF e1 (PySem.W.looks_opaque X1 SB.tp) (l₀ := cd.mro) ?_ rfl X1 hsup hI (PySem.W.ks_ne X1 II hcd) (by decide) ?_
  · exact fun A Q E s k q => wpAny_bind ((PySem.W.looks_clsIn X1 hcd) A _ E s k (wpAny_pure q))
  have hu : (h1.push (PySem.W.kxs_mw i a)).get? h1.objs.size = some (PySem.W.kxs_mw i a) := Heap.get?_push_at rfl rfl
  have I2 : Inv (ncx CX P w K mg base N (SNF qual st cc cda) f A outer s0 H0 E) [] σ H ⟨h1.push (PySem.W.kxs_mw i a), g, d, t + 1, os⟩ := I1.kept (t' := t + 1) (fun b o e => Heap.get?_push_of_some _ e)
  have I3 : Inv (ncx CX P w K mg base N (SNF qual st cc cda) f A outer s0 H0 E) [(h1.objs.size, PySem.W.kxs_mw i a)] σ H ⟨h1.push (PySem.W.kxs_mw i a), g, d, t + 1, os⟩ := I2.pins_of fun p hp => by
    rw [List.mem_singleton.mp hp]
    refine ⟨hu, I1.hok.fresh (Nat.le_refl _), fun z => ?_, I1.nofs (Nat.le_refl _), fun v z => by cases z⟩
    have z' : h1.objs.size = (ncx CX P w K mg base N (SNF qual st cc cda) f A outer s0 H0 E).env.locals := z
    exact absurd I1.lt (by rw [← z']; exact Nat.lt_irrefl _)
  show wpAny _ _ (callWith p3 (.ref h1.objs.size) [] (backTo p3 (starEach [arg] (envF (SNF qual st cc cda) f s0.heap.objs.size))) []) _ _ _
  refine PySem.W.kxs_callWith (i := i) (x := a) (by rw [hse]; rfl) ?_
  have hrun := hta.run p3 [(h1.objs.size, PySem.W.kxs_mw i a)] _ σ H (fun vs H1 => vs.length = 1 ∧ H1 = H) I3 (hT _ fun v => ⟨rfl, rfl⟩)
  have hbk : backTo p3 (starEach [arg] (envF (SNF qual st cc cda) f s0.heap.objs.size)) = (false, eval arg (envF (SNF qual st cc cda) f s0.heap.objs.size)) :: backTo p3 (starEach [] (envF (SNF qual st cc cda) f s0.heap.objs.size)) := by rw [hse]; rfl
  have hrun' : wpAny (model P w) (A.deeper (envF (SNF qual st cc cda) f s0.heap.objs.size)) (spliced (backTo p3 (starEach [arg] (envF (SNF qual st cc cda) f s0.heap.objs.size)))) _ (ncx CX P w K mg base N (SNF qual st cc cda) f A outer s0 H0 E).xe _ := hrun
  rw [hbk] at hrun' ⊢
  refine Calls.evalArgs_plain (thn hrun' fun us s2 hh => ?_)
  obtain ⟨vs2, H2, I4, r4, hv2, rfl⟩ := hh
  have hu4 := (I4.pin _ (List.mem_append_right _ List.mem_cons_self)).1
  refine ⟨hu4, ?_⟩
  obtain ⟨t4, ho4⟩ := exo_at I4.hok ha
  have hus : us.length ≤ sizeLine := by rw [← Paired.length r4, hv2, sizeLine_eq]; decide
  obtain ⟨hp4, g4, d4, tk4, os4⟩ := s2
  show wpAny _ _ (call (.ref h1.objs.size) us) _ _ _
  refine call_mw SB.FB (I4.kIn _ _ hC) ho4 hu4 hus fun h' t2 k hx => ?_
  have J := I4.write (t' := tk4) (x := a) (e := a) (o := exo a C none) (by rw [ha]; exact True.intro) (.inl rfl) k ⟨_, hx⟩ (exo_ok hx)
  have eu : upd H2 a (exo a C none) = H2 := by
    funext b
    by_cases hb : b = a
    · rw [hb, upd_same, ha]
    · rw [upd_ne hb]
  rw [eu] at J
  exact ⟨rfl, J.unpinned (pins := []) (pl := [(h1.objs.size, PySem.W.kxs_mw i a)])⟩
/-- the def's promise, by what stands behind the super().__init__(..) -/
theorem super_fn {k : Nat} {ps : List Str} {sp : Sp} {rest : List Stmt} {arg : Expr} {p0 p1 p2 p3 p4 : Pos} {j : Nat} (SF : SupF P K D f qual st ar fd cc cda) (S : NScope N ps ["__class__"] (defScope st))
    (hst : defBody st = .Expr (.Call (.Attribute (.Call (.Name "super" p0) [] [] p1) "__init__" p2) [arg] [] p3) p4 :: rest)
    (hks : (defScope st).names.lookup ("super" : Str) = some .globalImplicit) (hkc : (defScope st).names.lookup ("__class__" : Str) = some .free) (hka : (defScope st).names.lookup ar.arg = some .local) (hmg : mg "super" = none) (hN : N[j]? = some ar.arg)
    (len : ∀ vs H Q E, sp vs H Q E → vs.length = ps.length)
    (hpl : ∀ L : Addr, ∃ pl : Sem Bool, swapsWith (.Call (.Attribute (.Call (.Name "super" p0) [] [] p1) "__init__" p2) [arg] [] p3) none p4.line (envF (SNF qual st cc cda) f L) = pure false ∧
      eval (.Call (.Attribute (.Call (.Name "super" p0) [] [] p1) "__init__" p2) [arg] [] p3) (envF (SNF qual st cc cda) f L) = (do
        let ov ← attributeBase (.Call (.Name "super" p0) [] [] p1) "__init__" (envF (SNF qual st cc cda) f L) (eval (.Call (.Name "super" p0) [] [] p1) (envF (SNF qual st cc cda) f L))
        standAt p2.atName
        let (f', first) ← holding [ov] (getMethod ov "__init__" pl)
        callWith p3 f' first (backTo p3 (starEach [arg] (envF (SNF qual st cc cda) f L))) []) ∧
      starEach [arg] (envF (SNF qual st cc cda) f L) = (false, eval arg (envF (SNF qual st cc cda) f L)) :: starEach [] (envF (SNF qual st cc cda) f L))
    (hbody : ∀ (A : Around) (outer : List Env) (s : Shared) (H : Hp) (vs : List V) (Q : VK) (E : XK), Room k (A.deeper (envF (SNF qual st cc cda) f s.heap.objs.size)) → sp vs H Q E →
      ∃ (a C : Addr) (B i newId : String) (bmB : List Value) (ta : TA) (t : TS), SupB K D C B i newId bmB ∧ (startF N vs [none])[j]? = some (some (.ref a)) ∧ H a = some (exo a C none) ∧
        PA (ncx CX P w K mg base N (SNF qual st cc cda) f A outer s H E) [arg] ta ∧ (∀ Q : List V → Hp → Prop, (∀ v, Q [v] H) → ta (startF N vs [none]) H Q) ∧
        PSs (ncx CX P w K mg base N (SNF qual st cc cda) f A outer s H E) rest t ∧ t { nx := fun _ H' => Q .non H', rt := Q } (startF N vs [none]) H) :
    FnOk P w K mg base CX (k + 1) f fd ps sp := by
  refine ⟨len, fun A outer s H args us vs Q E hr e0 hb r hsp => ?_⟩
  obtain ⟨dV, kV, dc, pm, ct, an, hfd⟩ := SF.fdx
  subst hfd
  obtain ⟨oc, od, osl, hlk⟩ := SF.lk
  obtain ⟨cl, cld, csl, hcell⟩ := SF.cell
  have hl := len _ _ _ _ hsp
  have KX : K.In s.heap := e0.mod.kin.keeps fun b o e => (e0.bs b o e).1
  have lim : s.heap.NoLimit := e0.mod.nolimit.keeps fun b o e => (e0.bs b o e).1
  have CA : CellsAt (SNF qual st cc cda).cl ["__class__"] [none] s.heap H := by
    have hone : ∀ y c, [(("__class__" : Str), cc)].lookup y = some c → y = "__class__" ∧ c = cc := fun y c e => by
      simp only [List.lookup] at e
      split at e
      · rename_i z
        exact ⟨by simpa using z, (Option.some.inj e).symm⟩
      · cases e
    refine ⟨rfl, fun y c e => ?_, fun x y c e1 e2 => ?_, fun i y e => ?_⟩
    · obtain ⟨_, rfl⟩ := hone y c e
      exact ⟨(e0.bs _ _ (e0.mod.kin _ _ hcell)).2, _, _, KX _ _ hcell, rfl⟩
    · rw [(hone x c e1).1, (hone y c e2).1]
    · cases i with
      | zero =>
        cases e
        refine ⟨cc, by simp [List.lookup], fun v hv => by simp at hv⟩
      | succ i => simp at e
  refine codeAny_call_function hr.depth (KX _ _ hlk) rfl S.co S.gen rfl (PySem.W.codeRec_of KX SF.code) (hb _ _ _ _ ?_)
  refine wpAny_newFunctionEnv S.nocell (fun ⟨n, _⟩ hy => S.par n (List.of_mem_zip hy).1) (fun h₁ hns hsb => ⟨lim.fresh _ hsb, ?_⟩) S.kind
  show codeAny _ _ (.func (defBody st) (envF (SNF qual st cc cda) f s.heap.objs.size)) _ _
  refine PySem.ks_codeAny_funcAt ?_
  have kp : ∀ b o, s.heap.get? b = some o → h₁.get? b = some o := fun b o e => hsb.extBut b o (Nat.ne_of_lt (Heap.lt_size e)) (Heap.get?_push_of_some _ e)
  obtain ⟨a, C, B, i, newId, bmB, ta, t, SB, hσ, ha, hta, hT, ht, hq⟩ := hbody A outer s H vs Q E (hr.deeper _) hsp
  have I : Inv (ncx CX P w K mg base N (SNF qual st cc cda) f A outer s H E) [] (startF N vs [none]) H { s with heap := h₁, toks := s.toks + (ps.zip us).length } := inv_startN S hr.hd e0 hl r CA hns kp
  obtain ⟨pl, h1, h2, h3⟩ := hpl s.heap.objs.size
  have first := super_stmt (pl := pl) SF SB hks hkc hka hmg I hN hσ ha hta hT h1 h2 h3
  rw [hst] at first ⊢
  refine PySem.ks_wpAt_execs_cons (PySem.ks_wpAt_mono first (fun fl s' hs => ?_) fun e s' hs => hs)
  obtain ⟨rfl, I'⟩ := hs
  refine wpAt_of_wpAny (wpAny_mono (ht.run [] s' _ H _ I' hq) (fun fl s' hs => ?_) fun e s' hs => hs)
  have fin : ∀ {σ' : L2.St} {H' : Hp} {v : V} {u : Value}, Inv (ncx CX P w K mg base N (SNF qual st cc cda) f A outer s H E) [] σ' H' s' → L2.RelV v u → Q v H' → CE outer P w H s Q u s' :=
    fun {σ' H' v u} J rv q => ⟨v, H', J.os, J.bare, J.base, J.hok, rv, q⟩
  cases fl with
  | ret u =>
    obtain ⟨v, σ', H', J, rv, q⟩ := hs
    exact fin J rv q
  | next =>
    obtain ⟨σ', H', J, q⟩ := hs
    exact fin (v := V.non) (u := Value.none) J rfl q
  | brk =>
    obtain ⟨_, _, _, q⟩ := hs
    exact False.elim q
  | cont =>
    obtain ⟨_, _, _, q⟩ := hs
    exact False.elim q
end
/-- __init__(self, x): super().__init__(a + x + b); self.f = x -/
def spI (K : PySem.W.Frag) (D : Addr) (B i newId : String) (bmB : List Value) (f : Str) : Sp := fun vs H Q _ => ∃ (a C : Addr) (x : Str), vs = [.ref a, .str x] ∧ x.length ≤ 1000 ∧ OexC K C ∧ SupB K D C B i newId bmB ∧ PySem.W.findIn K (.ref C) f = some none ∧ H a = some (exo a C none) ∧
  ∀ dx, H dx = none → dx ≠ a → Q .non (upd (upd H dx (exd dx [(f, .str x)])) a (exo a C (some dx)))
section
variable {CX : CXT} {P : Program} {w : World} {K : PySem.W.Frag} {mg : Str → Option Value} {base : Heap} {qual : Str} {st : Stmt} {ar : Arg} {fd : FuncData} {cc cda f D : Addr} {B i newId : String} {bmB : List Value}
theorem exi_fn {k : Nat} {x fld m1 m2 : Str} {j1 j2 : Nat} {p0 p1 p2 p3 p4 q1 q2 q3 q4 q5 q6 q7 q8 q9 : Pos} (SF : SupF P K D f qual st ar fd cc cda) (S : NScope ["self", x, "__class__"] ["self", x] ["__class__"] (defScope st)) (har : ar.arg = "self")
    (hst : defBody st = [.Expr (.Call (.Attribute (.Call (.Name "super" p0) [] [] p1) "__init__" p2) [.BinOp (.BinOp (.Constant (.str m1) j1 q1) .Add (.Name x q2) q3) .Add (.Constant (.str m2) j2 q4) q5] [] p3) p4, .Assign [.Attribute (.Name "self" q6) fld q7] (.Name x q8) q9])
    (hm : m1.length ≤ 1000 ∧ m2.length ≤ 1000) (hks : (defScope st).names.lookup ("super" : Str) = some .globalImplicit) (hmg : mg "super" = none) (hd : (x == ("__debug__" : Str)) = false) (hcd : (x == ("__classdict__" : Str)) = false)
    (hpl : ∀ L : Addr, ∃ pl : Sem Bool, swapsWith (.Call (.Attribute (.Call (.Name "super" p0) [] [] p1) "__init__" p2) [.BinOp (.BinOp (.Constant (.str m1) j1 q1) .Add (.Name x q2) q3) .Add (.Constant (.str m2) j2 q4) q5] [] p3) none p4.line (envF (SNF qual st cc cda) f L) = pure false ∧
      eval (.Call (.Attribute (.Call (.Name "super" p0) [] [] p1) "__init__" p2) [.BinOp (.BinOp (.Constant (.str m1) j1 q1) .Add (.Name x q2) q3) .Add (.Constant (.str m2) j2 q4) q5] [] p3) (envF (SNF qual st cc cda) f L) = (do
        let ov ← attributeBase (.Call (.Name "super" p0) [] [] p1) "__init__" (envF (SNF qual st cc cda) f L) (eval (.Call (.Name "super" p0) [] [] p1) (envF (SNF qual st cc cda) f L))
        standAt p2.atName
        let (f', first) ← holding [ov] (getMethod ov "__init__" pl)
        callWith p3 f' first (backTo p3 (starEach [.BinOp (.BinOp (.Constant (.str m1) j1 q1) .Add (.Name x q2) q3) .Add (.Constant (.str m2) j2 q4) q5] (envF (SNF qual st cc cda) f L))) []) ∧
      starEach [.BinOp (.BinOp (.Constant (.str m1) j1 q1) .Add (.Name x q2) q3) .Add (.Constant (.str m2) j2 q4) q5] (envF (SNF qual st cc cda) f L) = (false, eval (.BinOp (.BinOp (.Constant (.str m1) j1 q1) .Add (.Name x q2) q3) .Add (.Constant (.str m2) j2 q4) q5) (envF (SNF qual st cc cda) f L)) :: starEach [] (envF (SNF qual st cc cda) f L)) :
    FnOk P w K mg base CX (k + 1) f fd ["self", x] (spI K D B i newId bmB fld) := by
  have hself : (defScope st).names.lookup ("self" : Str) = some .local := S.par _ (by simp)
  have hx : (defScope st).names.lookup x = some .local := S.par _ (by simp)
  refine super_fn SF S hst hks (S.frk _ (by simp)) (by rw [har]; exact hself) hmg (j := 0) (by rw [har]; rfl) (fun vs H Q E h => by obtain ⟨a, C, x, rfl, _⟩ := h; rfl) hpl fun A outer s H vs Q E hr h => ?_
  obtain ⟨a, C, y, rfl, hy, T, SB, hno, ha, hq⟩ := h
  have hv1 : Vis (defScope st) x := .inl hx
  have hv0 : Vis (defScope st) "self" := .inl hself
  refine ⟨a, C, B, i, newId, bmB, _, _, SB, rfl, ha, pa_cons (pe_op op_add_str (pe_op op_add_str pe_str (pe_var (i := 1) rfl hv1 hd hcd)) pe_str) pa_nil, fun Q' hQ => ?_, pss_one (ps_ost (pe_var (i := 0) rfl hv0) (pe_var (i := 1) rfl hv1 hd hcd)), ?_⟩
  · refine ⟨.str y, rfl, _, _, rfl, rfl, by rw [sizeLine_eq]; omega, _, _, rfl, rfl, ?_, hQ _⟩
    rw [sizeLine_eq]
    have : (m1 ++ y).length = m1.length + y.length := Array.size_append
    omega
  · exact ⟨.str y, rfl, .ref a, rfl, a, C, rfl, T, hno, .inl ⟨ha, fun dx h1 h2 => hq dx h1 h2⟩⟩
end
end PL

set_option maxHeartbeats 4000000
namespace PL
open PySem PySem.Spec PyProof.Rows L2

/-! own errors with a field -/
structure FCls (P : Program) (w : World) (K : PySem.W.Frag) (mg : Str → Option Value) (base : Heap) (k : Nat) (x : Str) (C : Addr) (f : Str) : Prop where
  g : mg x = some (.ref C)
  T : OexC K C
  no : PySem.W.findIn K (.ref C) f = some none
  made : ∃ (fI D : Addr) (fd : FuncData) (ps : List Str) (B i newId : String) (bmB : List Value), FnOk P w K mg base (L2.CX P w) k fI fd ps (spI K D B i newId bmB f) ∧ SupB K D C B i newId bmB ∧ PySem.W.findIn K (.ref C) "__init__" = some (some (.ref fI)) ∧
    PySem.W.typeIn K (.ref fI) = some (.type "function") ∧ Binds K fd ps []
def raiseFK (C : Addr) (f : Str) (Z : DEnds) (env : DEnv) : DK := fun y M1 => ∃ s : Str, y = .str s ∧ s.length ≤ 1000 ∧ Z.ex (.ref C) [(f, y)] env M1
def dRaiseF (C : Addr) (f : Str) (te : DE) : DS := fun Z env M => te env M (raiseFK C f Z env) (fun c fs M1 => Z.ex c fs env M1)
section
variable {X : Cx} {W : WX} {k : Nat} {x f : Str} {C : Addr} {e : Expr} {te : DE} {p pos pos2 : Pos}
theorem xs_raiseF (F : FCls X.prog X.w X.K X.mg X.base k x C f) (hc : X.calm = true) (hr : Room (k + 1) X.A) (tk : Takes X W) (hg : Gl X x) (he : XE X W e te) (hdb : (x == ("__debug__" : Str)) = false := by decide)
    (hse : starEach [e] X.env = (false, eval e X.env) :: starEach [] X.env := by rfl) : XS X W (.Raise (some (.Call (.Name x p) [e] [] pos2)) none pos) (dRaiseF C f te) := by
  obtain ⟨fI, D, fd, ps, B, i, newId, bmB, Fn, SB, iC, tI, hb⟩ := F.made
  have ha : PA X [e] (tCons (liftE X.K W te) tNil) := pa_cons he.pe pa_nil hse
  have hmk := pmk_oex (p := p) (pos := pos2) F.T iC tI Fn hr hb .nil passNo hg F.g ha hdb hse rfl
  refine ⟨fun Z Z' env M l h => he.mono _ _ _ _ _ _ (fun y M1 ⟨s, h1, h2, h3⟩ => ⟨s, h1, h2, l.ex _ _ _ _ h3⟩) (fun c fs M1 q => l.ex _ _ _ _ q) h, PSw (ps_raise hc tk hmk) ?_⟩
  rintro Z σ H ⟨env, M, re, s, h⟩
  refine stepE he.mono re s h (fun y M1 u H1 e1 s1 re1 r1 q => ?_) (ends_ex re)
  obtain ⟨x', rfl, hx, q⟩ := q
  have hu : u = V.str x' := rep_v r1
  subst hu
  refine ⟨by simp, fun a ha1 => ⟨a, C, x', rfl, hx, F.T, SB, F.no, upd_same, fun dx hdx hne => ?_⟩⟩
  rw [upd_ne hne] at hdx
  refine ⟨rfl, dx, [(f, .str x')], upd_same, by rw [upd_ne hne, upd_same], hdx, ?_⟩
  have eH : upd (del (upd (upd (upd H1 a (exo a C none)) dx (exd dx [(f, .str x')])) a (exo a C (some dx))) a) dx (.xd [(f, .str x')]) = upd H1 dx (.xd [(f, .str x')]) := by
    funext b
    by_cases hb1 : b = dx
    · rw [hb1, upd_same, upd_same]
    · rw [upd_ne hb1, upd_ne hb1]
      by_cases hb2 : b = a
      · rw [hb2, del_same, ha1]
      · rw [del_ne hb2, upd_ne hb2, upd_ne hb1, upd_ne hb2]
  show W (.ref C) (some dx) σ _
  rw [eH]
  have ex : Ext X.K H1 (upd H1 dx (.xd [(f, .str x')])) := Ext.new hdx
  exact q (some dx) σ _ (e1.trans ex) (s1.laid hdx) (re1.mono ex) ⟨by simp, _, upd_same, _, _, rfl, rep_of, rfl⟩
end
/-! try: .. except C as n: .., the errors bear fields -/
def noOb (o : Option Ob) : Prop := ∀ z, o = some z → ∃ fs, z = .xd fs
def exTryF (hd : Value → Option Bool) (i : Nat) (ts : Addr → Value → Addr → DS) (Z : DEnds) : Value → List (Str × D) → DEnv → Mem → Prop := fun c fs e M' => match hd c with
  | some true => fs ≠ [] ∧ ∀ a dd, M' a = none → noOb (M' dd) → ts a c dd (suiteEnds i Z) (e.set i (some (.ob a))) (mupd M' dd (.xd fs))
  | some false => Z.ex c fs e M'
  | none => False
theorem exTryF_mono {hd : Value → Option Bool} {i : Nat} {ts : Addr → Value → Addr → DS} (mt : ∀ a c dd, MonoS (ts a c dd)) {Z Z' : DEnds} (l : Z.Le Z') : ∀ c fs e M', exTryF hd i ts Z c fs e M' → exTryF hd i ts Z' c fs e M' := fun c fs e M' q => by
  unfold exTryF at q ⊢
  cases hq : hd c with
  | none => rw [hq] at q; exact q
  | some b =>
    rw [hq] at q
    cases b with
    | true => exact ⟨q.1, fun a dd ha hd => mt _ _ _ _ _ _ _ (suiteEnds_le l) (q.2 a dd ha hd)⟩
    | false => exact l.ex _ _ _ _ q
def dTryF (hd : Value → Option Bool) (i : Nat) (tb : DS) (ts : Addr → Value → Addr → DS) : DS := fun Z env M => tb { Z with ex := exTryF hd i ts Z } env M
theorem xs_tryF {X : Cx} {W : WX} {x n : Str} {c : Value} (i : Nat) {body suite : List Stmt} {b₀ : Stmt} {np pos' pos : Pos} {tb : DS} {ts : Addr → Value → Addr → DS} (hs : X.stack = X.env :: X.outer) (hf : X.env.frame = some X.env.locals) (hN : X.N.Nodup) (hln : X.env.kindOf n = some .local) (hc : Names X x c) (tk : Takes X W)
    (mt : ∀ a c dd, MonoS (ts a c dd)) (hb : ∀ (W : WX) (pn : List (Addr × Obj)) (xe : Value → Shared → Prop), Takes (X.tr pn xe) W → PassesOwn (model X.prog X.w) X.A X.env xe → XSs (X.tr pn xe) W body tb)
    (hsu : ∀ (a dd : Addr) (oe : Obj) (cls : Value) (pn : List (Addr × Obj)), Zc cls (some dd) oe → (∃ vs, oe.data = .fields vs) → XSs (X.suite a ((a, oe) :: pn)) W0 (b₀ :: suite) (ts a cls dd)) (mb : MonoS tb) (hi : X.N[i]? = some n := by rfl) :
    XS X W (.Try body [.ExceptHandler (some (.Name x np)) (some n) (b₀ :: suite) pos'] [] [] pos) (dTryF (fun z => PySem.W.exmOne X.K z c) i tb ts) := by
  refine ⟨fun Z Z' env M l h => mb { Z with ex := exTryF _ i ts Z } _ _ _ ⟨l.nx, l.rt, l.bk, l.ct, exTryF_mono mt l⟩ h, PSw (ps_try_as (tb := fun W' => liftS X.K W' tb) (ts := fun a cls d D σ H => ∃ dd, d = some dd ∧ liftS X.K W0 (ts a cls dd) D σ H) hs hf hN hi hln hc tk (fun W' pn xe t p => (hb W' pn xe t p).ps) fun a oe cls d pn hz hv => ?_) ?_⟩
  · refine ⟨fun pins s σ H D I h => ?_⟩
    obtain ⟨dd, rfl, h⟩ := h
    exact (hsu a dd oe cls pn hz hv).ps.run pins s σ H D I h
  · rintro D σ H ⟨env, M, re, s, h⟩
    refine ⟨env, M, re, s, mb { upEnds X.K W H D with ex := exTryF (fun z => PySem.W.exmOne X.K z c) i ts (upEnds X.K W H D) } _ _ _ ⟨fun _ _ q => q, fun _ _ q => q, fun _ _ q => q, fun _ _ q => q, fun c' fs e M' q d σ' H' e' s' re' rx => ?_⟩ h⟩
    have q : exTryF (fun z => PySem.W.exmOne X.K z c) i ts (upEnds X.K W H D) c' fs e M' := q
    unfold exTryF at q
    dsimp only at q
    cases hq : PySem.W.exmOne X.K c' c with
    | none => rw [hq] at q; exact q.elim
    | some b =>
      rw [hq] at q
      refine ⟨b, hq, ?_, ?_⟩
      · rintro rfl a ha
        obtain ⟨hfs, q⟩ := q
        cases d with
        | none => exact absurd rx hfs
        | some dd =>
          obtain ⟨_, us, hdd, rkv⟩ := rx
          have hno : noOb (M' dd) := fun z hz => by
            have := s' _ _ hz
            cases z with
            | xd fs => exact ⟨fs, rfl⟩
            | lst ds => obtain ⟨us', q1, _⟩ := this; rw [hdd] at q1; cases q1
            | rol ds => obtain ⟨_, us', q1, _⟩ := this; rw [hdd] at q1; cases q1
            | dk ds => obtain ⟨us', q1, _⟩ := this; rw [hdd] at q1; cases q1
            | rdk ds => obtain ⟨_, us', q1, _⟩ := this; rw [hdd] at q1; cases q1
            | ctp ds => obtain ⟨_, us', q1, _⟩ := this; rw [hdd] at q1; cases q1
            | ins C fs => obtain ⟨_, us', q1, _⟩ := this; rw [hdd] at q1; cases q1
          have s2 : Sim X.K H' (mupd M' dd (.xd fs)) := fun b o hb => by
            by_cases hbd : b = dd
            · subst hbd
              rw [mupd_same] at hb
              cases hb
              exact ⟨us, hdd, rkv⟩
            · rw [mupd_ne hbd] at hb
              exact s' b o hb
          refine ⟨dd, rfl, e.set i (some (.ob a)), mupd M' dd (.xd fs), re'.set rep_of i, s2, mt _ _ _ (suiteEnds i (upEnds X.K W H D)) _ _ _ ⟨?_, ?_, ?_, ?_, ?_⟩ (q a dd (s'.free ha) hno)⟩
          · exact fun e2 M2 z σ2 H2 x2 s2 r2 => z (σ2.set i none) H2 (e'.trans x2) s2 (r2.clear i)
          · exact fun d2 M2 z u2 H2 x2 s2 r2 => z u2 H2 (e'.trans x2) s2 r2
          · exact fun e2 M2 z σ2 H2 x2 s2 r2 => z (σ2.set i none) H2 (e'.trans x2) s2 (r2.clear i)
          · exact fun e2 M2 z σ2 H2 x2 s2 r2 => z (σ2.set i none) H2 (e'.trans x2) s2 (r2.clear i)
          · exact fun c f e2 M2 z => z.elim
      · rintro rfl
        exact q d σ' H' e' s' re' rx
/-! in the suite: the error's class is one of a few -/
section
variable {X : Cx} {W : WX}
theorem suite_cls {ok : Addr → Prop} {st : List Stmt} {ts : Addr → Addr → Addr → DS} (h : ∀ C, ok C → ∀ (a dd : Addr) (oe : Obj) (pn : List (Addr × Obj)), Zc (.ref C) (some dd) oe → (∃ vs, oe.data = .fields vs) → XSs (X.suite a ((a, oe) :: pn)) W0 st (ts C a dd)) :
    ∀ (a dd : Addr) (oe : Obj) (cls : Value) (pn : List (Addr × Obj)), Zc cls (some dd) oe → (∃ vs, oe.data = .fields vs) → XSs (X.suite a ((a, oe) :: pn)) W0 st (fun D env M => ∃ C, ok C ∧ cls = .ref C ∧ ts C a dd D env M) := by
  intro a dd oe cls pn hz hf
  by_cases e : ∃ C, ok C ∧ cls = .ref C
  · obtain ⟨C, hC, rfl⟩ := e
    have q := h C hC a dd oe pn hz hf
    refine ⟨fun D D' env M l z => by
      obtain ⟨C', h1, h2, h3⟩ := z
      cases h2
      exact ⟨C, h1, rfl, q.mono _ _ _ _ l h3⟩, ⟨fun pins s σ H D I z => ?_⟩⟩
    obtain ⟨env, M, re, sm, C', _, h2, h3⟩ := z
    cases h2
    exact q.ps.run pins s σ H D I ⟨env, M, re, sm, h3⟩
  · refine ⟨fun D D' env M l z => (e (by obtain ⟨C, h1, h2, _⟩ := z; exact ⟨C, h1, h2⟩)).elim, ⟨fun pins s σ H D I z => ?_⟩⟩
    obtain ⟨env, M, re, sm, C, h1, h2, _⟩ := z
    exact (e ⟨C, h1, h2⟩).elim
theorem xs_tryL {ok : Addr → Prop} {x n : Str} {B : Addr} {K : PySem.W.Frag} (i : Nat) {body suite : List Stmt} {b₀ : Stmt} {np pos' pos : Pos} {tb : DS} {ts : Addr → Addr → Addr → DS} (hK : X.K = K) (hB : X.mg x = some (.ref B)) (hg : Gl X x) (hs : X.stack = X.env :: X.outer) (hf : X.env.frame = some X.env.locals) (hN : X.N.Nodup) (hln : X.env.kindOf n = some .local) (tk : Takes X W)
    (hb : ∀ (W : WX) (pn : List (Addr × Obj)) (xe : Value → Shared → Prop), Takes (X.tr pn xe) W → PassesOwn (model X.prog X.w) X.A X.env xe → XSs (X.tr pn xe) W body tb)
    (h : ∀ C, ok C → ∀ (a dd : Addr) (oe : Obj) (pn : List (Addr × Obj)), Zc (.ref C) (some dd) oe → (∃ vs, oe.data = .fields vs) → XSs (X.suite a ((a, oe) :: pn)) W0 (b₀ :: suite) (ts C a dd)) (hdb : (x == ("__debug__" : Str)) = false := by decide) (hi : X.N[i]? = some n := by rfl) :
    XS X W (.Try body [.ExceptHandler (some (.Name x np)) (some n) (b₀ :: suite) pos'] [] [] pos) (dTryF (fun z => PySem.W.exmOne K z (.ref B)) i tb (fun a cls dd D env M => ∃ C, ok C ∧ cls = .ref C ∧ ts C a dd D env M)) := by
  subst hK
  have mb : MonoS tb := (hb W0 [] (fun _ _ => False) takes0 PassesOwn.never).mono
  refine xs_tryF i hs hf hN hln ⟨hg, hdb, .inl hB⟩ tk (fun a cls dd D D' env M l z => ?_) hb (suite_cls h) mb hi
  obtain ⟨C, h1, h2, h3⟩ := z
  exact ⟨C, h1, h2, (h C h1 a dd { cls := .ref C, dict := some dd, data := .fields #[] } [] ⟨rfl, rfl⟩ ⟨_, rfl⟩).mono _ _ _ _ l h3⟩
end
/-- a field of the error -/
def xfAt (f : Str) (Q : DK) (M : Mem) : Option Ob → Prop
  | some (.xd fs) => optD (look fs f) fun x => Q x M
  | _ => False
def xfK (a dd : Addr) (f : Str) (Q : DK) : DK := fun d M => d = .ob a ∧ xfAt f Q M (M dd)
def dXf (a dd : Addr) (f : Str) (te : DE) : DE := fun env M Q E => te env M (xfK a dd f Q) E
theorem s_xf {a dd f te env M Q E} : dXf a dd f te env M Q E = te env M (xfK a dd f Q) E := id rfl
theorem s_xfK {a dd f Q d M} : xfK a dd f Q d M = (d = .ob a ∧ xfAt f Q M (M dd)) := id rfl
theorem s_xfAt {f fs Q M} : xfAt f Q M (some (.xd fs)) = optD (look fs f) fun x => Q x M := id rfl
theorem xfAt_mono {f : Str} {Q Q' : DK} {M : Mem} (h : ∀ d M, Q d M → Q' d M) : ∀ {o}, xfAt f Q M o → xfAt f Q' M o := fun {o} q => by
  unfold xfAt at q ⊢
  split at q
  · unfold optD at q ⊢
    split at q
    · exact h _ _ q
    · exact q.elim
  · exact q.elim
section
variable {X : Cx} {W : WX} {a dd C : Addr} {oe : Obj} {pn : List (Addr × Obj)} {e : Expr} {te : DE} {pos : Pos} {n : Str}
theorem xe_xf (T : XfC X.K C) (hno : PySem.W.findIn X.K (.ref C) n = some none) (hz : Zc (.ref C) (some dd) oe) (hf : ∃ vs, oe.data = .fields vs) (he : XE (X.suite a ((a, oe) :: pn)) W e te) (hb : attributeBase e n X.env (eval e X.env) = eval e X.env := by rfl) :
    XE (X.suite a ((a, oe) :: pn)) W (.Attribute e n pos) (dXf a dd n te) := by
  refine ⟨fun env M Q Q' E E' hQ hE h => he.mono _ _ _ _ _ _ (fun d M1 ⟨z1, z2⟩ => ⟨z1, xfAt_mono hQ z2⟩) hE h, PEw (pe_xf T hno hz hf he.pe hb) ?_⟩
  rintro σ H Q ⟨env, M, re, s, h⟩
  refine stepE he.mono re s h (fun d M1 u H1 e1 s1 re1 r1 q => ?_) fun _ _ _ z => z
  obtain ⟨rfl, q⟩ := q
  unfold xfAt at q
  split at q
  · rename_i fs hm
    unfold optD at q
    split at q
    · rename_i v hv
      obtain ⟨us, e2, l⟩ := s1 _ _ hm
      obtain ⟨w, hw, rw'⟩ := l.lookup_some hv
      exact ⟨rep_v r1, rfl, dd, us, w, rfl, e2, hw, q w H1 e1 s1 rw'⟩
    · exact q.elim
  · exact q.elim
/-- isinstance of the error that the suite holds -/
def bIsF (K : PySem.W.Frag) (C a dd : Addr) : DCallG := fun ds M Q => ∃ (c : V) (cv : Value) (b : Bool) (fs : List (Str × D)), ds = [.ob a, .v c] ∧ (∀ u, RelV c u → u = cv) ∧ PySem.W.kitOne K (.ref C) cv = some b ∧ M dd = some (.xd fs) ∧ Q (.bl b) M
theorem bIsF_mono {K : PySem.W.Frag} {C a dd : Addr} : MonoC (bIsF K C a dd) := by
  rintro ds M Q Q' hQ ⟨c, cv, b, fs, h1, h2, h3, h4, h⟩
  exact ⟨c, cv, b, fs, h1, h2, h3, h4, hQ _ _ h⟩
theorem c_isF {K : PySem.W.Frag} (T : ExcC K C) (hK : X.K = K) (hz : Zc (.ref C) (some dd) oe) (hf : ∃ vs, oe.data = .fields vs) : CallR (X.suite a ((a, oe) :: pn)) (.builtin "isinstance") (upCallG X.K (bIsF K C a dd)) := by
  subst hK
  rintro pins s σ H xs us Q I r ⟨ds, M, rl, sm, c, cv, b, fs, rfl, h1, h2, hm, h⟩
  obtain ⟨u, v, rfl, q1, q2⟩ := rl2 rl
  rw [rep_v q1, rep_v q2] at r
  obtain ⟨ud, hdd, _⟩ := sm _ _ hm
  cases r with
  | cons rx rr =>
    cases rr with
    | cons rt rr =>
      cases rr
      cases rx
      have ec := h1 _ rt
      subst ec
      obtain ⟨hget, _⟩ := I.pin (a, oe) (List.mem_append.mpr (.inl List.mem_cons_self))
      obtain ⟨vs, hv⟩ := hf
      have hx : ObjOk X.prog X.w H s.heap dd (.xd ud) := I.hok dd _ hdd
      obtain ⟨mA, hns, _⟩ := hx
      obtain ⟨od, ho, _⟩ := lookIn_ns hns
      have J : PySem.W.InstAt s.heap a oe C (some od) := ⟨hget, hz.1, by unfold PySem.W.notCls; rw [hv] <;> rfl, by rw [hz.2]; exact ho⟩
      have hcl : (PySem.W.clsIn X.K C).isSome = true := by
        obtain ⟨cd, hc, _⟩ := PySem.W.any_some T.hd
        rw [hc]; rfl
      exact PySem.W.kia_one (PySem.W.kitx_exc hcl T.hg T.hk T.hs T.ha T.hn T.ht T.hm) I.kIn J h2 (fun z => nomatch z) fun tk => ⟨.bl b, H, I.kept (t' := tk) fun _ _ z => z, rfl, fin_val h sm⟩
end
end PL

set_option maxHeartbeats 4000000
namespace PL
open PySem PySem.Spec PyProof.Rows L2

/-! [elt for tg in iter if .. for tg1 in iter1 if ..] -/
def dLc2In (keep : Mem → Prop) (p : Pat) (tt : DT) (te : DE) (env : DEnv) (a : Addr) (Nx : List D → Mem → Prop) : List D → List D → Mem → Prop
  | [], acc, M => keep M ∧ Nx acc M
  | x :: r, acc, M => keep M ∧ match p.bind M x env with
    | some env1 => tt env1 M (fun b M2 => if b = true then te env1 M2 (fun y M3 => M3 a = some (.lst acc) ∧ acc.length < sizeLine ∧ dLc2In keep p tt te env a Nx r (acc ++ [y]) (mupd M3 a (.lst (acc ++ [y])))) noX else dLc2In keep p tt te env a Nx r acc M2) noX
    | none => False
def dLc2Go (keep : Mem → Prop) (p : Pat) (tt : DT) (ti1 : DI) (p1 : Pat) (tt1 : DT) (te : DE) (vs1 : List Nat) (env : DEnv) (a : Addr) (Q : DK) : List D → List D → Mem → Prop
  | [], acc, M => keep M ∧ M a = some (.lst acc) ∧ Q (.ob a) M
  | x :: r, acc, M => keep M ∧ match p.bind M x env with
    | some env1 => tt env1 M (fun b M2 => if b = true then ti1 env1 M2 (fun J1 M3 => dLc2In J1.keep p1 tt1 te (wipeD env1 vs1) a (fun acc' M4 => dLc2Go keep p tt ti1 p1 tt1 te vs1 env a Q r acc' M4) J1.items acc M3) noX else dLc2Go keep p tt ti1 p1 tt1 te vs1 env a Q r acc M2) noX
    | none => False
def dLc2 (ti : DI) (p : Pat) (tt : DT) (ti1 : DI) (p1 : Pat) (tt1 : DT) (te : DE) (vs vs1 : List Nat) : DE := fun env M Q E => ti env M (fun J M1 => ∀ a, M1 a = none → dLc2Go J.keep p tt ti1 p1 tt1 te vs1 (wipeD env vs) a Q J.items [] (mupd M1 a (.lst []))) E
theorem dLc2In_mono {keep : Mem → Prop} {p : Pat} {tt : DT} {te : DE} (ht : MonoT tt) (he : MonoE te) {env : DEnv} {a : Addr} {Nx Nx' : List D → Mem → Prop} (hN : ∀ acc M, Nx acc M → Nx' acc M) : ∀ (xs acc : List D) (M : Mem), dLc2In keep p tt te env a Nx xs acc M → dLc2In keep p tt te env a Nx' xs acc M
  | [], acc, M, h => ⟨h.1, hN _ _ h.2⟩
  | x :: r, acc, M, h => by
    refine ⟨h.1, ?_⟩
    have h2 := h.2
    split
    · rename_i env1 hb1
      rw [hb1] at h2
      refine ht _ _ _ _ _ _ (fun b M2 => ?_) (fun _ _ _ z => z) h2
      cases b with
      | true =>
        rw [if_pos rfl, if_pos rfl]
        exact he _ _ _ _ _ _ (fun y M3 z => ⟨z.1, z.2.1, dLc2In_mono ht he hN r _ _ z.2.2⟩) (fun _ _ _ z => z)
      | false =>
        rw [if_neg Bool.false_ne_true, if_neg Bool.false_ne_true]
        exact dLc2In_mono ht he hN r _ _
    · rename_i hb1
      rw [hb1] at h2
      exact h2
theorem dLc2Go_mono {keep : Mem → Prop} {p p1 : Pat} {tt tt1 : DT} {ti1 : DI} {te : DE} {vs1 : List Nat} (ht : MonoT tt) (hi1 : MonoI ti1) (ht1 : MonoT tt1) (he : MonoE te) {env : DEnv} {a : Addr} {Q Q' : DK} (hQ : ∀ d M, Q d M → Q' d M) :
    ∀ (xs acc : List D) (M : Mem), dLc2Go keep p tt ti1 p1 tt1 te vs1 env a Q xs acc M → dLc2Go keep p tt ti1 p1 tt1 te vs1 env a Q' xs acc M
  | [], acc, M, h => ⟨h.1, h.2.1, hQ _ _ h.2.2⟩
  | x :: r, acc, M, h => by
    refine ⟨h.1, ?_⟩
    have h2 := h.2
    split
    · rename_i env1 hb1
      rw [hb1] at h2
      refine ht _ _ _ _ _ _ (fun b M2 => ?_) (fun _ _ _ z => z) h2
      cases b with
      | true =>
        rw [if_pos rfl, if_pos rfl]
        exact hi1 _ _ _ _ _ _ (fun J M3 z => dLc2In_mono ht1 he (fun acc' M4 => dLc2Go_mono ht hi1 ht1 he hQ r acc' M4) _ _ _ z) (fun _ _ _ z => z)
      | false =>
        rw [if_neg Bool.false_ne_true, if_neg Bool.false_ne_true]
        exact dLc2Go_mono ht hi1 ht1 he hQ r _ _
    · rename_i hb1
      rw [hb1] at h2
      exact h2
section
variable {X : Cx} {W : WX} {elt tg iter tg1 iter1 : Expr} {ifs ifs1 : List Expr} {scope : Scope} {own : List (Str × Nat)} {pos : Pos} {ti ti1 : DI} {p p1 : Pat} {tt tt1 : DT} {te : DE}
theorem dLc2_mono {vs vs1 : List Nat} (hi : MonoI ti) (mt : MonoT tt) (hi1 : MonoI ti1) (mt1 : MonoT tt1) (me : MonoE te) : MonoE (dLc2 ti p tt ti1 p1 tt1 te vs vs1) := fun env M Q Q' E E' hQ hE => hi _ _ _ _ _ _ (fun J M1 q a ha => dLc2Go_mono mt hi1 mt1 me hQ _ _ _ (q a ha)) hE
theorem lc2_up (hi : XI X W tg iter ti) (mt : MonoT tt) (hi1 : MonoI ti1) (mt1 : MonoT tt1) (me : MonoE te) (vs vs1 : List Nat) (hv : ∀ i ∈ p.slots, i ∈ vs) (hv1 : ∀ i ∈ p1.slots, i ∈ vs1) :
    ∀ σ H Q, liftE X.K W (dLc2 ti p tt ti1 p1 tt1 te vs vs1) σ H Q → tLc2 (liftI X.K W ti) (p.tg X.K) (liftT X.K W0 tt) (liftI X.K W0 ti1) (p1.tg X.K) (liftT X.K W0 tt1) (liftE X.K W0 te) vs vs1 σ H Q := by
  rintro σ H Q ⟨env, M, re, s, h⟩
  refine ⟨env, M, re, s, hi.mono _ _ _ _ _ _ (fun J M1 q J' H1 e1 s1 ir => ?_) (fun _ _ _ z => z) h⟩
  intro a ha
  have q := q a (s1.free ha)
  have sA : Sim X.K (upd H1 a (.lst [])) (mupd M1 a (.lst [])) := s1.new ha (repO_lst (Ext.new ha) .nil)
  have eA : Ext X.K H1 (upd H1 a (.lst [])) := Ext.new ha
  refine ⟨fun i m H' => m = J.items.length - i ∧ i ≤ J.items.length ∧ Ext X.K H1 H' ∧ ∃ M acc, Sim X.K H' M ∧ dLc2Go J.keep p tt ti1 p1 tt1 te vs1 (wipeD env vs) a (upK X.K H Q) (J.items.drop i) acc M,
    ⟨J.items.length, by simp, Nat.zero_le _, eA, _, [], sA, by simpa using q⟩, ?_⟩
  rintro i m H2 ⟨rfl, hi2, e2, M2, acc, s2, q2⟩
  by_cases hlt : i < J.items.length
  · rw [List.drop_eq_getElem_cons hlt] at q2
    obtain ⟨kp, q2⟩ := q2
    refine .inr ⟨ir.go i H2 M2 e2 s2 kp hlt, fun H' => Ext X.K H1 H' ∧ ∃ M acc, Sim X.K H' M ∧ dLc2Go J.keep p tt ti1 p1 tt1 te vs1 (wipeD env vs) a (upK X.K H Q) (J.items.drop (i + 1)) acc M, fun H' n => ⟨_, by omega, rfl, hlt, n⟩, fun x H3 y => ?_⟩
    obtain ⟨d, hd, r3, e3, s3⟩ := ir.yld i H2 M2 x H3 e2 s2 kp hlt y
    rw [List.getElem?_eq_getElem hlt] at hd
    obtain rfl := Option.some.inj hd
    split at q2
    · rename_i env3 hb3
      have re3 : RepE X.K H3 (wipeD env vs) (L2.wipe σ vs) := (re.mono ((e1.trans e2).trans e3)).wipe vs
      obtain ⟨σ3, h1, hw, h3⟩ := Pat.rep s3 vs p r3 re3 hb3 hv
      refine h3 _ ⟨hw.trans (wipe_wipe vs), ?_⟩
      refine stepT mt h1 s3 q2 (fun b M4 H4 e4 s4 re4 q4 => ?_) fun _ _ _ z => z.elim
      cases b with
      | true =>
        rw [if_pos rfl] at q4 ⊢
        refine ⟨env3, M4, re4, s4, hi1 _ _ _ _ _ _ (fun J1 M5 q5 J1' H5 e5 s5 ir1 => ?_) (fun _ _ _ z => z.elim) q4⟩
        have e15 : Ext X.K H1 H5 := ((e2.trans e3).trans e4).trans e5
        refine ⟨fun j k H' => k = J1.items.length - j ∧ j ≤ J1.items.length ∧ Ext X.K H5 H' ∧ ∃ M acc, Sim X.K H' M ∧ dLc2In J1.keep p1 tt1 te (wipeD env3 vs1) a (fun acc' M4 => dLc2Go J.keep p tt ti1 p1 tt1 te vs1 (wipeD env vs) a (upK X.K H Q) (J.items.drop (i + 1)) acc' M4) (J1.items.drop j) acc M,
          ⟨J1.items.length, by simp, Nat.zero_le _, Ext.refl, M5, acc, s5, by simpa using q5⟩, ?_⟩
        rintro j k H6 ⟨rfl, hj2, e6, M6, acc6, s6, q6⟩
        by_cases hlt1 : j < J1.items.length
        · rw [List.drop_eq_getElem_cons hlt1] at q6
          obtain ⟨kp1, q6⟩ := q6
          refine .inr ⟨ir1.go j H6 M6 e6 s6 kp1 hlt1, fun H' => Ext X.K H5 H' ∧ ∃ M acc, Sim X.K H' M ∧ dLc2In J1.keep p1 tt1 te (wipeD env3 vs1) a (fun acc' M4 => dLc2Go J.keep p tt ti1 p1 tt1 te vs1 (wipeD env vs) a (upK X.K H Q) (J.items.drop (i + 1)) acc' M4) (J1.items.drop (j + 1)) acc M,
            fun H' n => ⟨_, by omega, rfl, hlt1, n⟩, fun x1 H7 y1 => ?_⟩
          obtain ⟨d1, hd1, r7, e7, s7⟩ := ir1.yld j H6 M6 x1 H7 e6 s6 kp1 hlt1 y1
          rw [List.getElem?_eq_getElem hlt1] at hd1
          obtain rfl := Option.some.inj hd1
          split at q6
          · rename_i env7 hb7
            have re7 : RepE X.K H7 (wipeD env3 vs1) (L2.wipe σ3 vs1) := (re4.mono ((e5.trans e6).trans e7)).wipe vs1
            obtain ⟨σ7, h71, hw7, h73⟩ := Pat.rep s7 vs1 p1 r7 re7 hb7 hv1
            refine h73 _ ⟨hw7.trans (wipe_wipe vs1), ?_⟩
            refine stepT mt1 h71 s7 q6 (fun b M8 H8 e8 s8 re8 q8 => ?_) fun _ _ _ z => z.elim
            cases b with
            | true =>
              rw [if_pos rfl] at q8 ⊢
              refine stepE me re8 s8 q8 (fun y M9 u H9 e9 s9 re9 r9 q9 => ?_) fun _ _ _ z => z.elim
              obtain ⟨ma9, lz, q9⟩ := q9
              obtain ⟨us, h9, l9⟩ := s9.lst ma9
              have ex : Ext X.K H9 (upd H9 a (.lst (us ++ [u]))) := Ext.mut h9 True.intro
              refine ⟨us, h9, by rw [l9.length]; exact lz, (((e6.trans e7).trans e8).trans e9).trans ex, _, _, s9.put h9 True.intro (repO_lst ex (RepL.append l9 (.cons r9 .nil))), q9⟩
            | false =>
              rw [if_neg Bool.false_ne_true] at q8 ⊢
              exact ⟨(e6.trans e7).trans e8, M8, acc6, s8, q8⟩
          · exact q6.elim
        · have e : j = J1.items.length := by omega
          subst e
          rw [List.drop_length] at q6
          exact .inl ⟨ir1.stop H6 M6 e6 s6 q6.1, e15.trans e6, M6, acc6, s6, q6.2⟩
      | false =>
        rw [if_neg Bool.false_ne_true] at q4 ⊢
        exact ⟨(e2.trans e3).trans e4, M4, acc, s4, q4⟩
    · exact q2.elim
  · have e : i = J.items.length := by omega
    subst e
    rw [List.drop_length] at q2
    exact .inl ⟨ir.stop H2 M2 e2 s2 q2.1, q2.2.2 (.ref a) H2 (e1.trans e2) s2 rep_of⟩
theorem xe_lc2 {vs1 : List Nat} (hc : X.calm = true) (hN : X.N.Nodup) (hi : XI X W tg iter ti) (ok : BlkOk X.N X.env.scope scope own) (hg : BlkAll X scope fun Y => PG Y tg (p.tg X.K)) (ht : BlkAll X scope fun Y => XTs Y W0 ifs tt)
    (hi1 : BlkAll X scope fun Y => XI Y W0 tg1 iter1 ti1) (hg1 : BlkAll X scope fun Y => PG Y tg1 (p1.tg X.K)) (ht1 : BlkAll X scope fun Y => XTs Y W0 ifs1 tt1) (he : BlkAll X scope fun Y => XE Y W0 elt te)
    (hv : p.slots.all (fun i => decide (i ∈ own.map (·.2))) = true := by decide) (hv1 : p1.slots.all (fun i => decide (i ∈ vs1)) = true := by decide) (hv2 : vs1.all (fun i => decide (i ∈ own.map (·.2))) = true := by decide)
    (hs : ∀ x, foldedSetIterable iter X.env x = pure x := by intro _; rfl) (hs1 : ∀ env x, foldedSetIterable iter1 env x = pure x := by intro _ _; rfl) :
    XE X W (.ListComp elt [⟨tg, iter, ifs, 0⟩, ⟨tg1, iter1, ifs1, 0⟩] scope pos) (dLc2 ti p tt ti1 p1 tt1 te (own.map (·.2)) vs1) := by
  have mt := (ht X.s_0 X.H_0 0 [] []).mono
  have mt1 := (ht1 X.s_0 X.H_0 0 [] []).mono
  have mi1 := (hi1 X.s_0 X.H_0 0 [] []).mono
  have me := (he X.s_0 X.H_0 0 [] []).mono
  refine ⟨dLc2_mono hi.mono mt mi1 mt1 me, PEw (pe_lc2 (vs1 := vs1) (g := p.tg X.K) (g1 := p1.tg X.K) (tt := liftT X.K W0 tt) (tt1 := liftT X.K W0 tt1) (wi1 := liftI X.K W0 ti1) (te := liftE X.K W0 te) hc hN hi.pi ok (fun i hi => of_decide_eq_true (List.all_eq_true.mp hv2 i hi)) hg (fun s H C cl fp => (ht s H C cl fp).pts) (fun s H C cl fp => (hi1 s H C cl fp).pi) hg1 (fun s H C cl fp => (ht1 s H C cl fp).pts) (fun s H C cl fp => (he s H C cl fp).pe) hs hs1)
    (lc2_up hi mt mi1 mt1 me _ _ (fun i h => ?_) fun i h => ?_)⟩
  · exact of_decide_eq_true (List.all_eq_true.mp hv i h)
  · exact of_decide_eq_true (List.all_eq_true.mp hv1 i h)
end
/-! stepping -/
theorem s_lc2 {ti p tt ti1 p1 tt1 te vs vs1 env M Q E} : dLc2 ti p tt ti1 p1 tt1 te vs vs1 env M Q E = ti env M (fun J M1 => ∀ a, M1 a = none → dLc2Go J.keep p tt ti1 p1 tt1 te vs1 (wipeD env vs) a Q J.items [] (mupd M1 a (.lst []))) E := id rfl
end PL

set_option maxHeartbeats 4000000
namespace PL
open PySem PySem.Spec PyProof.Rows L2
section
variable {P : Program} {w : World} {A : Around} {E : Value → Shared → Prop} {s : Shared} {a : Addr}
theorem init_textsT {S l : Addr} {items : Array Value} {xs : List Str} {Q : Value → Shared → Prop} (hh : A.handled = none) (hS : s.heap.get? S = some (newSetO w)) (hl : s.heap.IsTuple l items) (hne : l ≠ S) (hsz : items.size = xs.length) (hv : ∀ (j : Nat) (v : Value), items[j]? = some v → ∃ t, v = Value.str (xs.getD j ⟨#[]⟩) t)
    (hb : xs.length + 1 < scanBound) (h : ∀ h' tk, SetOfTexts w h' S (firsts [] xs) → (∀ b o, b ≠ S → s.heap.get? b = some o → h'.get? b = some o) → Q .none { s with heap := h', toks := tk }) :
    wpAny (model P w) A (Builtin.«set.__init__» ⟨[.ref S, .ref l], []⟩) (fun f s' => ∃ r, f = .done (.ret r) ∧ Q r s') E s := by
  have hT : s.TypeIs (.ref S) "set" := ⟨_, hS, rfl⟩
  obtain ⟨ol, hol, hcl, nl, hdl⟩ := hl
  obtain ⟨ocls, odict, odata, oslots⟩ := ol
  simp only at hcl hdl
  subst hcl
  subst hdl
  have hl2 : s.heap.IsTuple l items := ⟨_, hol, rfl, nl, rfl⟩
  have a1 := F.sub_tuple_set
  have a2 := F.sub_tuple_frozenset
  have a3 : (Value.type "tuple" == Value.type "dict") = false := by decide
  unfold Builtin.«set.__init__» noKeywords Builtin.Frozenset.updateFrom
  generalize hp : pyIter = go
  wp_walk
  subst hp
  refine wpAny_pyIter_tuple hl2 (wpAny_bind (wpAny_runValue ?_))
  have lS : S < s.heap.objs.size := Heap.lt_size hS
  have ll : l < s.heap.objs.size := Heap.lt_size hol
  have hI : l ≠ s.heap.objs.size := Nat.ne_of_lt ll
  have hSI : S ∉ [s.heap.objs.size, l] := by
    simp only [List.mem_cons, List.not_mem_nil, or_false, not_or]
    exact ⟨Nat.ne_of_lt lS, hne.symm⟩
  have e0 : (s.heap.push { cls := .type "tuple_iterator", data := .fields #[.ref l, .int 0 0] }).get? S = some (newSetO w) := Heap.get?_push_of_some _ hS
  refine takes_walk (A := A) (P := P) (w := w) ((Walks.tuple (by simp [hh]) _ l hI items).toS) hSI xs [] 0 _ (by omega) (by simpa using hb) (fun j v pv hj => hv j v (by simpa using pv)) ⟨⟨_, Heap.get?_push_size _ rfl, rfl, rfl⟩, hl2.push _⟩ (empty_held e0) ?_
  intro s1 mv q
  obtain ⟨h', g', d', tk', o'⟩ := s1
  obtain rfl : g' = s.gens := mv.gens
  obtain rfl : d' = s.drawn := mv.drawn
  obtain rfl : o' = s.os := mv.os
  refine wpAny_pure (wpAny_pure ⟨_, rfl, h h' tk' q fun b o hb e => ?_⟩)
  refine mv.heap b o ?_ (Heap.get?_push_of_some _ e)
  simp only [List.mem_cons, List.not_mem_nil, or_false, not_or]
  exact ⟨hb, Nat.ne_of_lt (Heap.lt_size e)⟩
theorem call_set_textsT {l : Addr} {items : Array Value} {xs : List Str} {Q : Value → Shared → Prop} (hh : A.handled = none) (hl : s.heap.IsTuple l items) (hsz : items.size = xs.length) (hv : ∀ (j : Nat) (v : Value), items[j]? = some v → ∃ t, v = Value.str (xs.getD j ⟨#[]⟩) t)
    (hb : xs.length + 1 < scanBound) (h : ∀ h' tk, SetOfTexts w h' s.heap.objs.size (firsts [] xs) → (∀ b o, s.heap.get? b = some o → h'.get? b = some o) → Q (.ref s.heap.objs.size) { s with heap := h', toks := tk }) : wpAny (model P w) A (call (.type "set") [.ref l]) Q E s := by
  have c1 := F.called_set.notType
  have c2 := F.called_set.canCreate
  have c3 := F.called_set.made
  have c4 := F.called_set.sub
  have c5 := F.typeCall_set_1 (.ref l)
  obtain ⟨_, _, c6⟩ := F.called_set.mro
  refine wpAny_call (codeAny_of_tree ?_)
  show wpAny (model P w) _ (callAny (.type "set") ⟨[.ref l], []⟩) _ _ s
  refine wpAny_pure ⟨Code.quiet_builtin _ (by decide +kernel), codeAny_builtin F.entry_type_call ?_⟩
  rw [Around.under_plain (weight_type_call_type "set" [.ref l] []) rfl]
  repeat (any_goals (first | assumption | wp_step))
  refine codeAny_mono (code_set_led1 (.ref l) (E := E) (Q₁ := fun v s1 => v = .ref s.heap.objs.size ∧ s1 = { s with heap := s.heap.push (newSetO w) }) ⟨rfl, rfl⟩) fun r s1 hr => ?_
  obtain e | fl := r
  · exact hr
  cases fl <;> first | exact hr.elim | skip
  obtain ⟨rfl, rfl⟩ := hr
  have new : (s.heap.push (newSetO w)).get? s.heap.objs.size = some (newSetO w) := Heap.get?_push_size _ rfl
  have ty : Shared.TypeIs { s with heap := s.heap.push (newSetO w) } (.ref s.heap.objs.size) "set" := ⟨_, new, rfl⟩
  have c7 := F.called_set.init.lookup
  have c8 := F.called_set.init.bind (.ref s.heap.objs.size)
  have hlt : l ≠ s.heap.objs.size := by
    obtain ⟨o, ho, _⟩ := hl
    exact Nat.ne_of_lt (Heap.lt_size ho)
  repeat (any_goals (first | assumption | wp_step))
  refine codeAny_mono (codeAny_call_builtin (R := wants (fun r s2 => r = .none ∧ ∃ h' tk, s2 = { s with heap := h', toks := tk } ∧ SetOfTexts w h' s.heap.objs.size (firsts [] xs) ∧ ∀ b o, s.heap.get? b = some o → h'.get? b = some o) E) F.called_set.init.plain F.entry_set_init (check_set_init_1 ty ?_)) fun r2 s2 hr2 => ?_
  · refine wpAny_mono (init_textsT (E := E) (Q := fun r s2 => r = .none ∧ ∃ h' tk, s2 = { s with heap := h', toks := tk } ∧ SetOfTexts w h' s.heap.objs.size (firsts [] xs) ∧ ∀ b o, s.heap.get? b = some o → h'.get? b = some o) (by simp [hh]) new (hl.push _) hlt hsz hv hb fun h' tk q k => ⟨rfl, h', tk, rfl, q, fun b o e => k b o (Nat.ne_of_lt (Heap.lt_size e)) (Heap.get?_push_of_some _ e)⟩) ?_ fun e s2 q => q
    rintro f s2 ⟨r, rfl, q⟩
    exact q
  · obtain e | fl := r2
    · exact hr2
    cases fl <;> first | exact hr2.elim | skip
    obtain ⟨rfl, h', tk, rfl, q, k⟩ := hr2
    repeat (any_goals (first | assumption | wp_step))
    exact h _ _ q k
end
/-- len(set(xs)) of a tuple of texts: the texts, each once -/
def lenSetR (d : D) (M : Mem) (Q : DK) : Prop := ∃ ss : List Str, d = .tup (ss.map D.str) ∧ ss.length < 1000 ∧ Q (.int (firsts [] ss).length) M
def lenSetK (Q : DK) : DK := fun d M => lenSetR d M Q
def dLenSet (te : DE) : DE := fun env M Q E => te env M (lenSetK Q) E
theorem s_lenSet {te env M Q E} : dLenSet te env M Q E = te env M (lenSetK Q) E := id rfl
theorem s_lenSetK {d M Q} : lenSetK Q d M = lenSetR d M Q := id rfl
theorem xe_lenSet {X : Cx} {W : WX} {a : Expr} {ta : DE} {p p2 q pos : Pos} (hc : X.calm = true) (hg : Gl X "len") (hm : X.mg "len" = none) (hg2 : Gl X "set") (hm2 : X.mg "set" = none) (ha : XE X W a ta) (na : starEach [a] X.env = (false, eval a X.env) :: starEach [] X.env := by rfl) :
    XE X W (.Call (.Name "len" p) [.Call (.Name "set" p2) [a] [] q] [] pos) (dLenSet ta) := by
  refine ⟨fun env M Q Q' E E' hQ hE => ha.mono _ _ _ _ _ _ (fun d M1 ⟨ss, h1, h2, h⟩ => ⟨ss, h1, h2, hQ _ _ h⟩) hE, ⟨fun pins s σ H Q I h => ?_⟩⟩
  obtain ⟨env, M, re, sm, h⟩ := h
  have h1 : liftE X.K W ta σ H fun u H1 => ∃ (l : Addr) (ss : List Str), u = .ref l ∧ SqT X.K H1 l (ss.map V.str) ∧ ss.length < 1000 ∧ Q (.int (firsts [] ss).length) H1 := by
    refine stepE ha.mono re sm h (fun d M1 u H1 e1 s1 re1 r1 q => ?_) fun _ _ _ z => z
    obtain ⟨ss, rfl, q3, q4⟩ := q
    obtain ⟨l, us, rfl, hs, lr⟩ := rep_tup r1
    rw [lr.strs] at hs
    exact ⟨l, ss, rfl, hs, q3, q4 _ H1 e1 s1 rep_of⟩
  refine Call_ (ld_blt I hg hm (by rfl) ?_)
  refine PyProof.Rows.callWith_builtin1 (PyProof.Rows.args_cons ?_ rfl) rfl rfl
  refine Call_ (ld_blt I hg2 hm2 (by rfl) ?_)
  refine PyProof.Rows.callWith_type1 (PyProof.Rows.args_cons (thn (ha.pe.run pins s σ H _ I h1) fun v s1 ⟨x, H1, I1, r1, q1⟩ => PyProof.Rows.args_nil ?_) na) na rfl
  obtain ⟨l, ss, rfl, hs, few, q⟩ := q1
  cases r1
  obtain ⟨its, rv, pl, hz⟩ := I1.tuple hs
  have sa : StrsAre its ss := strsAre_of rv
  have isz : its.toArray.size = ss.length := by rw [List.size_toArray, ← rv.length, List.length_map]
  refine call_set_textsT (I1.ok.hd hc) pl isz (fun j v e => ?_) (by have : scanBound = 4096 := rfl; omega) fun h' tk S k => PyProof.Rows.args_nil ?_
  · obtain ⟨t, z⟩ := SS.strs_at sa j v (by simpa using e)
    exact ⟨t, z⟩
  have I2 : Inv X pins σ H1 { s1 with heap := h', toks := tk } := I1.kept k
  have fl := firsts_len ss []
  simp only [List.length_nil] at fl
  obtain ⟨es, t, ⟨⟨o, ep, ho, hx, hd⟩, ge, nd, fw, hf, hr, hl⟩, pm⟩ := S
  have sz : es.size = (firsts [] ss).length := by rw [← pm.length_eq, List.length_map, Array.length_toList]
  refine call_len_set ho hx hd hf (by rw [sz]; omega) ⟨.int (firsts [] ss).length, H1, I2.tok _, ⟨_, by rw [sz]⟩, q⟩
/-- each once: as many just if none comes twice -/
theorem firsts_go : ∀ (ss ks : List Str), ks.Nodup → (firsts ks ss).Nodup ∧ (firsts ks ss).length ≤ ks.length + ss.length ∧ ((firsts ks ss).length = ks.length + ss.length ↔ ss.Nodup ∧ ∀ x ∈ ss, x ∉ ks)
  | [], ks, h => ⟨h, by simp [firsts], by simp [firsts]⟩
  | x :: r, ks, h => by
    rw [firsts]
    by_cases e : x ∈ ks
    · rw [if_pos e]
      obtain ⟨h1, h2, h3⟩ := firsts_go r ks h
      refine ⟨h1, by simp only [List.length_cons]; omega, ⟨fun z => ?_, fun z => absurd e (z.2 x List.mem_cons_self)⟩⟩
      simp only [List.length_cons] at z
      omega
    · rw [if_neg e]
      obtain ⟨h1, h2, h3⟩ := firsts_go r (x :: ks) (List.nodup_cons.mpr ⟨e, h⟩)
      simp only [List.length_cons] at h2 h3 ⊢
      refine ⟨h1, by omega, ?_⟩
      rw [show ks.length + (r.length + 1) = ks.length + 1 + r.length by omega, h3, List.nodup_cons]
      constructor
      · rintro ⟨a, b⟩
        refine ⟨⟨fun z => b x z List.mem_cons_self, a⟩, fun y hy => ?_⟩
        rcases List.mem_cons.mp hy with rfl | hy
        · exact e
        · exact fun z => b y hy (List.mem_cons_of_mem _ z)
      · rintro ⟨⟨a, b⟩, c⟩
        refine ⟨b, fun y hy z => ?_⟩
        rcases List.mem_cons.mp z with rfl | z
        · exact a hy
        · exact c y (List.mem_cons_of_mem _ hy) z
theorem firsts_lt {ss : List Str} : (firsts [] ss).length < ss.length ↔ ¬ ss.Nodup := by
  obtain ⟨_, h2, h3⟩ := firsts_go ss [] List.nodup_nil
  simp only [List.length_nil, Nat.zero_add, List.not_mem_nil, not_false_eq_true, implies_true, and_true] at h2 h3
  rw [← h3]; omega
theorem firsts_eq {ss : List Str} : (firsts [] ss).length = ss.length ↔ ss.Nodup := by
  obtain ⟨_, h2, h3⟩ := firsts_go ss [] List.nodup_nil
  simpa using h3
end PL

set_option maxHeartbeats 4000000
namespace PL
open PySem PySem.Spec PyProof.Rows L2
open PySem.AutoSeq1 (wpAny_loadPart')
/-! a tuple * 1 is the tuple -/
theorem tuple_mul1 (l : Addr) (items : Array Value) (n : Nat) (dd : Option Addr) (sl : Array (Option Value)) (u : Tok) :
    PySem.Meets (Builtin.«tuple.__mul__» ⟨[.ref l, .int 1 u], []⟩) (fun _ R s => s.heap.get? l = some { cls := .type "tuple", dict := dd, data := .seq items n, slots := sl } ∧ R (.ok (.ret (Value.ref l))) s) :=
  .of_wp fun prog w A R s h => by
    obtain ⟨hp, g, d, tk, os⟩ := s
    obtain ⟨hl, h⟩ := h
    have f1 := AutoSeq1.idx_int
    have c0 : (decide ((1 : Int) < -(2 ^ 63)) || decide ((1 : Int) ≥ 2 ^ 63)) = false := by decide
    have c1 : (items.isEmpty || (1 : Int) == 1) = true := by simp
    wp_walk using wpAny_loadPart' hl
    repeat (first
      | (refine wpAny_ite_false (decide_eq_false (by rw [c0]; exact Bool.false_ne_true)) ?_; wp_walk using wpAny_loadPart' hl)
      | (refine wpAny_ite_true (decide_eq_true c1) ?_; wp_walk using wpAny_loadPart' hl))
    exact ⟨_, rfl, h⟩
theorem rep_one {α : Type} (xs : List α) : (List.replicate (1 : Int).toNat xs).flatten = xs := by
  show (List.replicate 1 xs).flatten = xs
  simp
theorem op_one {X : Cx} {pins : List (Addr × Obj)} {s : Shared} {σ : L2.St} {H : Hp} {l : Addr} {u : Tok} {xs : List V} {Q : Value → Shared → Prop} {E : Value → Shared → Prop} (I : Inv X pins σ H s) (hT : SqT X.K H l xs) (h : Q (.ref l) s) :
    wpAny (model X.prog X.w) X.A (binaryOp .Mult (.ref l) (.int 1 u)) Q E s := by
  obtain ⟨its, r, ⟨⟨cls, dd, data, sl⟩, ho, hc, n, hd⟩, hs⟩ := I.tuple hT
  simp only at hc hd
  subst hc hd
  exact wpAny_binaryOp_repeat_ref (T := "tuple") (U := "int") (by decide) ⟨_, ho, rfl⟩ (fun s' => typeIs_int s' 1 u) noFill_tuple_mul F.fills_int_mul F.slot_int_rmul repeat_tuple F.slot_int_index.lookup
    (call_meets F.slot_int_rmul (typeIs_int s 1 u) F.entry_int_rmul (F.args_int_rmul_2 _ _) (int_rmul_tuple 1 u l its.toArray n dd sl)
      ⟨ho, rfl, ⟨_, ho, rfl⟩, call_meets F.slot_tuple_mul ⟨_, ho, rfl⟩ F.entry_tuple_mul (F.args_tuple_mul_2 _ _) (tuple_mul1 l its.toArray n dd sl u) ⟨ho, h⟩⟩)
def opMulT : DOp2
  | .tup xs, .v (.int k), _ => .val (xs ≠ [] ∧ 1 ≤ k ∧ k ≤ 1000 ∧ xs.length ≤ 1000) (.tup (List.replicate k.toNat xs).flatten)
  | _, _, _ => .bad
theorem x_mulT {X : Cx} : XOp X (binaryOp .Mult) opMulT := by
  rintro pins s σ H x y v u Q I rx ry ⟨dx, dy, M, r1, r2, sm, h⟩
  unfold opMulT at h
  split at h <;> first | exact h.elim | skip
  rename_i z k
  obtain ⟨h1, h2, h3, h4⟩ := h.1
  by_cases h5 : 2 ≤ k
  · exact x_mul pins s σ H x y v u Q I rx ry ⟨_, _, M, r1, r2, sm, ⟨h1, h5, h3, h4⟩, h.2⟩
  obtain rfl : k = 1 := by omega
  obtain ⟨a, us, rfl, q1, l1⟩ := rep_tup r1
  rw [rep_v r2] at ry
  cases rx
  obtain ⟨t', rfl⟩ := ry
  refine op_one I q1 ⟨.ref a, H, I, rfl, ?_⟩
  have e := h.2
  rw [rep_one] at e
  exact fin_rep e sm r1
/-! sum of a list of ints -/
def bSum : DCall
  | [.v (.ref a)], M => match M a with
    | some (.lst ds) => match intsOf ds with
      | some ns => .val True (.int ns.sum)
      | none => .bad
    | _ => .bad
  | _, _ => .bad
theorem c_sum {X : Cx} (hc : X.calm = true) : CallR X (.builtin "sum") (upCall X.K bSum) := by
  rintro pins s σ H xs us Q I r ⟨ds, M, rl, sm, h⟩
  unfold bSum at h
  split at h <;> first | exact h.elim | skip
  split at h <;> first | exact h.elim | skip
  split at h <;> first | exact h.elim | skip
  rename_i hm _ bs hb
  obtain ⟨u, rfl, q⟩ := rl1 rl
  rw [rep_v q] at r
  obtain ⟨ws, q1, l1⟩ := sm.seq (.inl hm)
  rw [intsOf_eq hb] at l1
  rw [l1.ints] at q1
  exact cr_sum hc pins s σ H _ us Q I r ⟨_, _, rfl, q1, fin_val h.2 sm⟩
end PL

set_option maxHeartbeats 4000000
namespace PL
open PySem PySem.Spec PyProof.Rows L2
/-! stepping a comprehension of two clauses -/
def lc2J (p1 : Pat) (tt1 : DT) (te : DE) (env1 : DEnv) (a : Addr) (acc : List D) (N : List D → Mem → Prop) : DIt → Mem → Prop := fun J M => dLc2In J.keep p1 tt1 te env1 a N J.items acc M
def lc2B (ti1 : DI) (p1 : Pat) (tt1 : DT) (te : DE) (vs1 : List Nat) (a : Addr) (acc : List D) (N : List D → Mem → Prop) (env : DEnv) (M : Mem) : Prop := ti1 env M (lc2J p1 tt1 te (wipeD env vs1) a acc N) noX
def lc2T (ti1 : DI) (p1 : Pat) (tt1 : DT) (te : DE) (vs1 : List Nat) (a : Addr) (acc : List D) (N : List D → Mem → Prop) (env : DEnv) : Bool → Mem → Prop := fun b M => bifM b (lc2B ti1 p1 tt1 te vs1 a acc N env) (N acc) M
def lc2E (tt : DT) (ti1 : DI) (p1 : Pat) (tt1 : DT) (te : DE) (vs1 : List Nat) (a : Addr) (acc : List D) (N : List D → Mem → Prop) (env : DEnv) (M : Mem) : Prop := tt env M (lc2T ti1 p1 tt1 te vs1 a acc N env) noX
section
variable {te : DE} {tt tt1 : DT} {ti1 : DI} {p1 : Pat} {vs1 : List Nat} {a : Addr} {acc : List D} {N : List D → Mem → Prop} {env : DEnv} {M : Mem} {b : Bool}
theorem s_lc2J {J} : lc2J p1 tt1 te env a acc N J M = dLc2In J.keep p1 tt1 te env a N J.items acc M := id rfl
theorem s_lc2B : lc2B ti1 p1 tt1 te vs1 a acc N env M = ti1 env M (lc2J p1 tt1 te (wipeD env vs1) a acc N) noX := id rfl
theorem s_lc2T : lc2T ti1 p1 tt1 te vs1 a acc N env b M = bifM b (lc2B ti1 p1 tt1 te vs1 a acc N env) (N acc) M := id rfl
theorem s_lc2E : lc2E tt ti1 p1 tt1 te vs1 a acc N env M = tt env M (lc2T ti1 p1 tt1 te vs1 a acc N env) noX := id rfl
end
theorem lc2_in {α : Type} (f : α → D) {kp : Mem → Prop} {p : Pat} {tt : DT} {te : DE} {env : DEnv} {a : Addr} {Nx : List D → Mem → Prop} (I : List α → List D → Mem → Prop) (hk : ∀ r acc M, I r acc M → kp M)
    (step : ∀ x r acc M (N : List D → Mem → Prop), I (x :: r) acc M → (∀ acc' M', I r acc' M' → N acc' M') → optE (p.bind M (f x) env) (lcE tt te a acc N) M)
    (done : ∀ acc M, I [] acc M → Nx acc M) : ∀ (xs : List α) (acc : List D) (M : Mem), I xs acc M → dLc2In kp p tt te env a Nx (xs.map f) acc M
  | [], acc, M, h => ⟨hk _ _ _ h, done _ _ h⟩
  | x :: r, acc, M, h => by
    refine ⟨hk _ _ _ h, ?_⟩
    have q := step x r acc M (fun acc' M' => dLc2In kp p tt te env a Nx (r.map f) acc' M') h (fun acc' M' => lc2_in f I hk step done r acc' M')
    unfold optE at q
    split at q
    · rename_i env1 hb
      first | exact q | (rw [hb]; exact q)
    · exact q.elim
theorem lc2_go {α : Type} (f : α → D) {kp : Mem → Prop} {p p1 : Pat} {tt tt1 : DT} {ti1 : DI} {te : DE} {vs1 : List Nat} {env : DEnv} {a : Addr} {Q : DK} (I : List α → List D → Mem → Prop) (hk : ∀ r acc M, I r acc M → kp M ∧ M a = some (.lst acc))
    (step : ∀ x r acc M (N : List D → Mem → Prop), I (x :: r) acc M → (∀ acc' M', I r acc' M' → N acc' M') → optE (p.bind M (f x) env) (lc2E tt ti1 p1 tt1 te vs1 a acc N) M)
    (done : ∀ acc M, I [] acc M → Q (.ob a) M) : ∀ (xs : List α) (acc : List D) (M : Mem), I xs acc M → dLc2Go kp p tt ti1 p1 tt1 te vs1 env a Q (xs.map f) acc M
  | [], acc, M, h => ⟨(hk _ _ _ h).1, (hk _ _ _ h).2, done _ _ h⟩
  | x :: r, acc, M, h => by
    refine ⟨(hk _ _ _ h).1, ?_⟩
    have q := step x r acc M (fun acc' M' => dLc2Go kp p tt ti1 p1 tt1 te vs1 env a Q (r.map f) acc' M') h (fun acc' M' => lc2_go f I hk step done r acc' M')
    unfold optE at q
    split at q
    · rename_i env1 hb
      first | exact q | (rw [hb]; exact q)
    · exact q.elim
/-! raise, try of own errors with a field -/
theorem s_raiseF {C f te Z env M} : dRaiseF C f te Z env M = te env M (raiseFK C f Z env) (fun c fs M1 => Z.ex c fs env M1) := id rfl
theorem s_raiseFK {C f Z env y M} : raiseFK C f Z env y M = ∃ s : Str, y = .str s ∧ s.length ≤ 1000 ∧ Z.ex (.ref C) [(f, y)] env M := id rfl
theorem s_tryF {hd i tb ts Z env M} : dTryF hd i tb ts Z env M = tb { Z with ex := exTryF hd i ts Z } env M := id rfl
end PL

set_option maxHeartbeats 4000000
namespace PL
open PySem PySem.Spec PyProof.Rows L2
/-! xs.insert(i, y), i not below 0 -/
def mInsert : DMeth
  | .v (.ref a), [.v (.int i), y], M => match M a with
    | some (.lst ds) => .put (ds.length < sizeLine ∧ 0 ≤ i ∧ i < 2 ^ 63) a (.lst (ds.take i.toNat ++ [y] ++ ds.drop i.toNat)) .non
    | _ => .bad
  | _, _, _ => .bad
section
variable {X : Cx}
theorem m_insert : MtR X "list.insert" (upMeth X.K mInsert) := by
  rintro pins s σ H x xs v us Q I rx rxs ⟨d, ds, M, r1, rl, sm, h⟩
  unfold mInsert at h
  split at h <;> first | exact h.elim | skip
  split at h <;> first | exact h.elim | skip
  rename_i hm
  obtain ⟨u1, u2, rfl, q1, q2⟩ := rl2 rl
  rw [rep_v r1] at rx
  rw [rep_v q1] at rxs
  obtain ⟨ws, e1, l1⟩ := sm.lst hm
  exact mt_insert pins s σ H _ _ v us Q I rx rxs ⟨_, ws, _, u2, rfl, rfl, e1, by rw [l1.length]; exact h.1.1, h.1.2.1, h.1.2.2,
    fin_put h.2 sm e1 True.intro (repO_lst (Ext.mut e1 True.intro) (RepL.append (RepL.append (l1.take _) (.cons q2 .nil)) (l1.drop _))) rep_of⟩
end
end PL

set_option maxHeartbeats 4000000
namespace K04
open PySem PySem.Spec PyProof.Rows L2 PL NdefX
def topS (i : Nat) : Stmt := PySem.Challenge.pw_cellchains_k04_limits_of_sources.main.body.getD i (.Pass ⟨0, 0, 0, 0⟩)
abbrev s_names_of : Stmt := topS 12
theorem sc_names_of : FnScope ["picture", "found", "part", "one", "other", "name"] ["picture"] (defScope s_names_of) := ⟨rfl, rfl, rfl, by decide +kernel, rfl, by decide +kernel, by decide +kernel⟩
abbrev s_atoms_in : Stmt := topS 13
theorem sc_atoms_in : FnScope ["picture", "part"] ["picture"] (defScope s_atoms_in) := ⟨rfl, rfl, rfl, by decide +kernel, rfl, by decide +kernel, by decide +kernel⟩
abbrev s_statements_in : Stmt := topS 14
theorem sc_statements_in : FnScope ["body", "found", "statement"] ["body"] (defScope s_statements_in) := ⟨rfl, rfl, rfl, by decide +kernel, rfl, by decide +kernel, by decide +kernel⟩
abbrev s_depth_of : Stmt := topS 15
theorem sc_depth_of : FnScope ["body", "found", "statement"] ["body"] (defScope s_depth_of) := ⟨rfl, rfl, rfl, by decide +kernel, rfl, by decide +kernel, by decide +kernel⟩
abbrev s_places_in : Stmt := topS 16
theorem sc_places_in : FnScope ["statement"] ["statement"] (defScope s_places_in) := ⟨rfl, rfl, rfl, by decide +kernel, rfl, by decide +kernel, by decide +kernel⟩
abbrev s_ghosts_of : Stmt := topS 17
theorem sc_ghosts_of : FnScope ["proc", "name"] ["proc"] (defScope s_ghosts_of) := ⟨rfl, rfl, rfl, by decide +kernel, rfl, by decide +kernel, by decide +kernel⟩
abbrev s_check_source : Stmt := topS 19
theorem sc_check_source : FnScope ["source", "names", "place", "name", "checker", "proc"] ["source"] (defScope s_check_source) := ⟨rfl, rfl, rfl, by decide +kernel, rfl, by decide +kernel, by decide +kernel⟩
abbrev s__law_start : Stmt := topS 21
theorem sc__law_start : FnScope ["script"] ["script"] (defScope s__law_start) := ⟨rfl, rfl, rfl, by decide +kernel, rfl, by decide +kernel, by decide +kernel⟩
abbrev s__law_draw : Stmt := topS 22
theorem sc__law_draw : FnScope ["state", "most", "found", "cell", "mixed"] ["state", "most"] (defScope s__law_draw) := ⟨rfl, rfl, rfl, by decide +kernel, rfl, by decide +kernel, by decide +kernel⟩
abbrev s__law_one_of : Stmt := topS 23
theorem sc__law_one_of : FnScope ["state", "items"] ["state", "items"] (defScope s__law_one_of) := ⟨rfl, rfl, rfl, by decide +kernel, rfl, by decide +kernel, by decide +kernel⟩
abbrev s__law_shuffled : Stmt := topS 24
theorem sc__law_shuffled : FnScope ["state", "items", "found", "item"] ["state", "items"] (defScope s__law_shuffled) := ⟨rfl, rfl, rfl, by decide +kernel, rfl, by decide +kernel, by decide +kernel⟩
abbrev s__law_names : Stmt := topS 25
theorem sc__law_names : FnScope ["state", "many", "letters", "start", "step", "shared", "k"] ["state", "many"] (defScope s__law_names) := ⟨rfl, rfl, rfl, by decide +kernel, rfl, by decide +kernel, by decide +kernel⟩
abbrev s__law_parts : Stmt := topS 26
theorem sc__law_parts : FnScope ["state", "names", "many", "found", "k", "row"] ["state", "names", "many"] (defScope s__law_parts) := ⟨rfl, rfl, rfl, by decide +kernel, rfl, by decide +kernel, by decide +kernel⟩
abbrev s__law_nested : Stmt := topS 27
theorem sc__law_nested : FnScope ["state", "deep", "test"] ["state", "deep"] (defScope s__law_nested) := ⟨rfl, rfl, rfl, by decide +kernel, rfl, by decide +kernel, by decide +kernel⟩
abbrev s__law_fitting : Stmt := topS 28
theorem sc__law_fitting : FnScope ["state", "name", "pick", "more", "empty", "known", "many", "need", "ensures", "wide", "body", "k"] ["state", "name", "pick", "more"] (defScope s__law_fitting) := ⟨rfl, rfl, rfl, by decide +kernel, rfl, by decide +kernel, by decide +kernel⟩
abbrev s__law_told : Stmt := topS 29
theorem sc__law_told : FnScope ["source", "kinds", "e"] ["source"] (defScope s__law_told) := ⟨rfl, rfl, rfl, by decide +kernel, rfl, by decide +kernel, by decide +kernel⟩
abbrev s_law : Stmt := topS 30
theorem sc_law : FnScope ["script", "state", "names", "turn", "many", "right", "at", "wrong", "bad", "nine", "name"] ["script"] (defScope s_law) := ⟨rfl, rfl, rfl, by decide +kernel, rfl, by decide +kernel, by decide +kernel⟩
abbrev s_Checker___init__ : Stmt := inClass (topS 18) 0
theorem sc_Checker___init__ : FnScope ["self", "source", "proc"] ["self", "source"] (defScope s_Checker___init__) := ⟨rfl, rfl, rfl, by decide +kernel, rfl, by decide +kernel, by decide +kernel⟩
abbrev s_Checker_is_call : Stmt := inClass (topS 18) 1
theorem sc_Checker_is_call : FnScope ["self", "statement", "name", "args"] ["self", "statement"] (defScope s_Checker_is_call) := ⟨rfl, rfl, rfl, by decide +kernel, rfl, by decide +kernel, by decide +kernel⟩
abbrev s_Checker_is_right : Stmt := inClass (topS 18) 2
theorem sc_Checker_is_right : FnScope ["self", "proc", "name", "parameters", "places", "need", "ensures", "body", "known", "allowed", "statement", "one", "picture"] ["self", "proc"] (defScope s_Checker_is_right) := ⟨rfl, rfl, rfl, by decide +kernel, rfl, by decide +kernel, by decide +kernel⟩
abbrev s_Checker_is_small : Stmt := inClass (topS 18) 3
theorem sc_Checker_is_small : FnScope ["self", "proc", "name", "parameters", "places", "need", "ensures", "body", "many", "picture"] ["self", "proc"] (defScope s_Checker_is_small) := ⟨rfl, rfl, rfl, by decide +kernel, rfl, by decide +kernel, by decide +kernel⟩
abbrev s_BadProgram___init__ : Stmt := inClass (topS 2) 0
theorem exi_BadProgram {P : Program} {w : World} {K : PySem.W.Frag} {mg : Str → Option Value} {base : Heap} {D fI cc cda : Addr} {fd : FuncData} {bmB : List Value} {ar : Arg} (SF : SupF P K D fI "BadProgram.__init__" s_BadProgram___init__ ar fd cc cda) (har : ar.arg = "self") (hmg : mg "super" = none) : FnOk P w K mg base (L2.CX P w) 1 fI fd ["self", "name"] (spI K D "ValueError" "ValueError.__init__" "ValueError.__new__" bmB "name") := exi_fn SF (nscope_by (by decide +kernel)) har rfl (by decide +kernel) rfl hmg (by decide) (by decide) fun L => ⟨_, rfl, rfl, rfl⟩
structure GF (K : PySem.W.Frag) (mg : Str → Option Value) (C_CellchainsError C_BadProgram C_TooLarge C_Checker : Addr) : Prop where
  ValueError : mg "ValueError" = none
  tuple : mg "tuple" = none
  sum : mg "sum" = none
  enumerate : mg "enumerate" = none
  range : mg "range" = none
  sorted : mg "sorted" = none
  len : mg "len" = none
  any : mg "any" = none
  list : mg "list" = none
  abs : mg "abs" = none
  int : mg "int" = none
  max : mg "max" = none
  all : mg "all" = none
  isinstance : mg "isinstance" = none
  set : mg "set" = none
  NIL : ∃ u, mg "NIL" = some u ∧ RelV (.str "nil") u
  MOST_PROCS : ∃ u, mg "MOST_PROCS" = some u ∧ RelV (.int 8) u
  MOST_NAMES : ∃ u, mg "MOST_NAMES" = some u ∧ RelV (.int 6) u
  MOST_GHOSTS : ∃ u, mg "MOST_GHOSTS" = some u ∧ RelV (.int 3) u
  MOST_ATOMS : ∃ u, mg "MOST_ATOMS" = some u ∧ RelV (.int 6) u
  MOST_ENSURES : ∃ u, mg "MOST_ENSURES" = some u ∧ RelV (.int 3) u
  MOST_DEEP : ∃ u, mg "MOST_DEEP" = some u ∧ RelV (.int 4) u
  N_CellchainsError : mg "CellchainsError" = some (.ref C_CellchainsError)
  N_BadProgram : mg "BadProgram" = some (.ref C_BadProgram)
  N_TooLarge : mg "TooLarge" = some (.ref C_TooLarge)
  M_BadProgram : PySem.W.exmOne K (.ref C_BadProgram) (.ref C_CellchainsError) = some true
  M_TooLarge : PySem.W.exmOne K (.ref C_TooLarge) (.ref C_CellchainsError) = some true
  S_BadProgram_BadProgram : PySem.W.kitOne K (.ref C_BadProgram) (.ref C_BadProgram) = some true
  S_BadProgram_ValueError : PySem.W.kitOne K (.ref C_BadProgram) (.type "ValueError") = some true
  S_BadProgram_TooLarge : PySem.W.kitOne K (.ref C_BadProgram) (.ref C_TooLarge) = some false
  S_TooLarge_BadProgram : PySem.W.kitOne K (.ref C_TooLarge) (.ref C_BadProgram) = some true
  S_TooLarge_ValueError : PySem.W.kitOne K (.ref C_TooLarge) (.type "ValueError") = some true
  S_TooLarge_TooLarge : PySem.W.kitOne K (.ref C_TooLarge) (.ref C_TooLarge) = some true
  OKX : ∀ C, (C = C_BadProgram ∨ C = C_TooLarge) → XfC K C ∧ ExcC K C ∧ PySem.W.findIn K (.ref C) "name" = some none
  T_Checker : ICls K C_Checker ["source", "many"]
end K04

set_option maxHeartbeats 4000000
namespace K04
open PySem PySem.Spec PyProof.Rows L2 PL
variable {P : Program} {w : World} {K : PySem.W.Frag} {mg : Str → Option Value} {base : Heap} {C_CellchainsError C_BadProgram C_TooLarge C_Checker : Addr}
local macro_rules | `(tactic| simp! [$ls,*]) => `(tactic| simp only [s_fld, s_fldK, s_insAt, s_optD, s_obAt, s_fput, s_fputK1, s_fputK2, s_faug, s_faugK1, s_faugK2, s_faugK3, s_meth, s_methK1, s_methK2, s_make, s_makeK, s_makeK2, s_dead, s_tryN, noX_nx, noX_rt, noX_bk, noX_ct, mSplit, opMulS, s_enum, s_enumK, s_sortBy, s_sortByK, look_nil, look_cons, putFD_nil, putFD_cons, List.append_nil, to_nx, to_rt, to_bk, to_ct, to_ex, lp_nx, lp_rt, lp_bk, lp_ct, lp_ex, ret_nx, ret_rt, ret_ex, s_exK, s_bif1, s_bif0, s_optB, s_optE, s_nxD, s_ifK, s_asgN, s_asgT, s_asgL, b_nil, b_nm, b_tp, s_next, s_seq, s_drop, s_ret, s_retN, s_ifS, s_asg, s_brk, s_cont, s_put, s_put1, s_put2, s_put3, s_aug, s_augV, s_augK, s_augK2, s_bin, s_bin1, s_bin2, s_var, s_varK, s_C, s_cb, s_cbK, s_call, s_callK, s_m, s_m1, s_m2, s_nil, s_cons, s_cons1, s_cons2, s_tup, s_tupK, s_lst, s_lstK, s_truth, s_trK, s_tK, s_eK, s_cK, s_and, s_andK, s_or, s_orK, s_not, s_notK, s_ife, s_ifeK, s_andV, s_orV, s_andvK, s_orvK, s_andvK2, s_orvK2, s_notV, s_notvK, s_blK, s_neg, s_negK, s_sl, s_sl1, s_sl2, s_sl3, s_noPart, s_part, s_partK, s_rev, s_revK, s_for, s_forK, s_lc, s_lcK, s_yes, s_walk, s_walkT, s_walkS, s_walkA, s_walkL, s_walkR, s_rng1, s_rng2, s_rng1K, s_rng2K, s_callL, s_callLK, s_callLO, s_clK, s_raise, r_val, r_new, r_put, s_whK, s_lcY, s_lcT, s_lcE, s_cg, s_cgK, s_rng3, s_rng3K, s_lcB, s_lcS, wipeD, Pat.bind, seqOf, rg, s_dict0, s_sortSet, s_sortSetK, q_is_tuple, q_is_str, q_is_int, q_is_bool, q_is_list, q_isR, ofS_inj, String.reduceEq, q_eqI, q_neI, q_eqS, q_neS, decide_true, decide_false, Int.reduceEq, reduceCtorEq, i_NoneType_tuple, i_NoneType_str, i_NoneType_int, i_NoneType_bool, i_NoneType_list, i_bool_tuple, i_bool_str, i_bool_int, i_bool_bool, i_bool_list, i_int_tuple, i_int_str, i_int_int, i_int_bool, i_int_list, i_str_tuple, i_str_str, i_str_int, i_str_bool, i_str_list, i_tuple_tuple, i_tuple_str, i_tuple_int, i_tuple_bool, i_tuple_list, i_list_tuple, i_list_str, i_list_int, i_list_bool, i_list_list, i_dict_tuple, i_dict_str, i_dict_int, i_dict_bool, i_dict_list, tyN, startD, mupd_same, mupd_ne, ne_eq, not_false_eq_true, List.map_cons, List.map_nil, List.length_cons, List.length_nil, List.replicate_succ, List.replicate_zero, Nat.zero_add, Nat.reduceAdd, Nat.reduceSub, Int.cast_ofNat_Int, List.cons_append, List.nil_append, List.getElem?_cons_zero, List.getElem?_cons_succ, List.set_cons_zero, List.set_cons_succ, opIx, atI_cons, ixN, opPut, opAdd, opSub, opMul, opFdiv, opMod, opPow, opLt, opLe, opGt, opGe, opIs, opIsNot, D.isNon, truth, bLen, bAbs, bInt, bTuple, bList, isTy, mAppend, mExtend, mPop, Int.reduceLE, Int.reduceLT, Int.reduceToNat, Int.reduceNeg, Int.reduceNe, Option.bind_some, if_true, if_false, ite_true, ite_false, true_and, and_true, Bool.not_true, Bool.not_false, opIadd, Nat.reduceLT, Nat.reduceLeDiff, Int.ofNat_lt, s_lc2, s_lc2J, s_lc2B, s_lc2T, s_lc2E, s_raiseF, s_raiseFK, s_tryF, s_xf, s_xfK, s_xfAt, s_lenSet, s_lenSetK, opMulT, mInsert, s_dpNil, s_dpCons, s_dpK1, s_dpK2, s_dpK3, s_disp, s_dispK, s_optKV, kvOf, s_dc, s_dcK, s_keys, s_lockK, s_sortIt, mGet, mDPop, dgetR, bDictC, bTupC, opEqD, opNeD, eqDR, D.key, merge_one, optKV, id, opEqL, opNeL, eqLR, $ls,*])
theorem fn_start (S : Src K mg "_law_start" s__law_start ["script"]) (G : GF K mg C_CellchainsError C_BadProgram C_TooLarge C_Checker) : Fn P w K mg base 1 "_law_start" (sp_start K) [] := by
  refine S.fn mono_start fun f fd F => fn_ok F sc__law_start (fun ds M Q E h => by obtain ⟨a, m, rfl, _⟩ := h; rfl) ⟨_, fun cdv A outer s H E hr => have hu := hr.u200
    (xss_one (xs_ret (xe_lst (n := 4) (xa_cons (xe_callTyG bListS_mono c_listS (by rfl) G.list (by decide +kernel) (xa_cons (xe_var 0) xa_nil)) (xa_cons xe_int (xa_cons xe_int (xa_cons xe_int xa_nil))))))), fun ds M Q E h => ?_⟩
  obtain ⟨a, ns, rfl, hs, h⟩ := h
  simp! []
  refine ⟨a, ns, rfl, hs, fun p hp => ?_⟩
  simp! []
  intro q hq
  have hqp : q ≠ p := (mupd_none ▸ hq : _ ∧ _).1
  have hq' : M q = none := (mupd_none ▸ hq : _ ∧ _).2
  exact h _ _ _ hq' hp ⟨0, 0, 0, ns, by simp only [mupd_same], by rw [mupd_ne (Ne.symm hqp), mupd_same], by decide, by decide, Ne.symm hqp⟩ ((Keep.new hp).trans (Keep.new hq))
theorem fn_draw (S : Src K mg "_law_draw" s__law_draw ["state", "most"]) (G : GF K mg C_CellchainsError C_BadProgram C_TooLarge C_Checker) : Fn P w K mg base 1 "_law_draw" sp_draw [] := by
  refine S.fn mono_draw fun f fd F => fn_ok F sc__law_draw (fun ds M Q E h => by obtain ⟨a, b, m, rfl, _⟩ := h; rfl) ⟨_, fun cdv A outer s H E hr => have hu := hr.u200
    (xss_cons (xs_put hu (xe_bin x_add (xe_ix hu (xe_var 0) xe_int) xe_int) (xe_var 0) xe_int)
 (xss_cons (xs_if (xt_cmp x_gt (xe_ix hu (xe_var 0) xe_int) xe_int (nomark _) bl_gt)
 (xss_cons (xs_set 2 sc__law_draw.nd (xe_bin x_mod (xe_callTy c_int (by rfl) G.int (by decide +kernel) (xa_cons (xe_ix hu (xe_var 0) xe_int) xa_nil)) (xe_var 1)))
 (xss_cons (xs_put hu (xe_bin x_fdiv (xe_ix hu (xe_var 0) xe_int) (xe_var 1)) (xe_var 0) xe_int)
 (xss_one (xs_ret (xe_var 2)))))
 xss_nil)
 (xss_cons (xs_set 3 sc__law_draw.nd xe_int)
 (xss_cons (xs_if (xt_cmp x_gt (xe_callB c_len (by rfl) G.len (by decide +kernel) (xa_cons (xe_ix hu (xe_var 0) xe_int) xa_nil)) xe_int (nomark _) bl_gt)
 (xss_one (xs_set 3 sc__law_draw.nd (xe_callB c_abs (by rfl) G.abs (by decide +kernel) (xa_cons (xe_ix hu (xe_ix hu (xe_var 0) xe_int) (xe_bin x_mod (xe_callTy c_int (by rfl) G.int (by decide +kernel) (xa_cons (xe_ix hu (xe_var 0) xe_int) xa_nil)) (xe_callB c_len (by rfl) G.len (by decide +kernel) (xa_cons (xe_ix hu (xe_var 0) xe_int) xa_nil)))) xa_nil))))
 xss_nil)
 (xss_cons (xs_put hu (xe_bin x_add (xe_ix hu (xe_var 0) xe_int) xe_int) (xe_var 0) xe_int)
 (xss_cons (xs_if (xt_cmp x_ge (xe_var 3) (xe_bin x_pow xe_int xe_int) (nomark _) bl_ge)
 (xss_cons (xs_put hu (xe_bin x_fdiv (xe_var 3) (xe_var 1)) (xe_var 0) xe_int)
 (xss_one (xs_ret (xe_bin x_mod (xe_callTy c_int (by rfl) G.int (by decide +kernel) (xa_cons (xe_var 3) xa_nil)) (xe_var 1)))))
 xss_nil)
 (xss_cons (xs_set 4 sc__law_draw.nd (xe_bin x_mod (xe_callTy c_int (by rfl) G.int (by decide +kernel) (xa_cons (xe_bin x_add (xe_bin x_mul (xe_bin x_add (xe_var 3) xe_int) xe_int) (xe_bin x_mul (xe_ix hu (xe_var 0) xe_int) xe_int)) xa_nil)) xe_int))
 (xss_cons (xs_set 4 sc__law_draw.nd (xe_bin x_mod (xe_callTy c_int (by rfl) G.int (by decide +kernel) (xa_cons (xe_bin x_add (xe_bin x_add (xe_bin x_mul (xe_var 4) xe_int) (xe_bin x_fdiv (xe_var 3) xe_int)) (xe_ix hu (xe_var 0) xe_int)) xa_nil)) xe_int))
 (xss_one (xs_ret (xe_bin x_mod (xe_bin x_fdiv (xe_var 4) xe_int) (xe_var 1)))))))))))), fun ds M Q E h => ?_⟩
  obtain ⟨a, b, m, rfl, ⟨p, q, c, ns, ha, hb, hp, hq, hne⟩, h0, h1, h⟩ := h
  have fin : ∀ (r : Int) (M' : Mem) (p q : Int), 0 ≤ r → r < m → 0 ≤ p → 0 ≤ q → M' a = some (.lst [.ob b, .int p, .int q, .int (c + 1)]) → (∀ b, b ≠ a → M' b = M b) → Q (.int r) M' := fun r M' p q r0 r1 p0 q0 e k =>
    h r M' r0 r1 ⟨p, q, c + 1, ns, e, by rw [k b hne]; exact hb, p0, q0, hne⟩ fun b' o e' n => by rw [k b' (by simpa using n)]; exact e'
  simp! [ha]
  refine bif_dec (fun hq0 => ?_) fun hq0 => ?_
  · simp! [ha, h0, h1]
    exact fin _ _ p (q / m) (Int.emod_nonneg _ (by omega)) (Int.emod_lt_of_pos _ h0) hp (Int.ediv_nonneg hq (by omega)) (by simp only [mupd_same]) fun b' hb' => by simp only [mupd_ne hb']
  · simp! [ha, hb, mupd_ne hne]
    refine bif_midD (fun e M' => ∃ cell : Int, e = [some (D.ob a), some (D.int m), none, some (D.int cell), none] ∧ M' = mupd M a (.lst [.ob b, .int p, .int q, .int (c + 1)]) ∧ 0 ≤ cell) (fun hl N hN => ?_) (fun hl N hN => ?_) ?_
    · rw [List.length_map] at hl
      simp! [ha, hb, mupd_ne hne, List.length_map]
      refine ⟨hl, ?_⟩
      have h2 := Int.emod_nonneg p (b := (ns.length : Int)) (by omega)
      have h3 := Int.emod_lt_of_pos p (b := (ns.length : Int)) hl
      have hx : atI (ns.map D.int) (p % (ns.length : Int)) = some (D.int (ns[(p % (ns.length : Int)).toNat]'(by omega))) := by rw [atI_map', atI_get h2 h3]; rfl
      simp! [hx]
      exact hN _ _ ⟨_, rfl, rfl, by split <;> omega⟩
    · simp! []
      exact hN _ _ ⟨_, rfl, rfl, by omega⟩
    · rintro e M' ⟨cell, rfl, rfl, hc⟩
      simp! [ha, hb, mupd_ne hne]
      refine ⟨by decide, bif_dec (fun hl => ?_) fun hl => ?_⟩
      · simp! [ha, h0, h1]
        exact fin _ _ (p + 1) (cell / m) (Int.emod_nonneg _ (by omega)) (Int.emod_lt_of_pos _ h0) (by omega) (Int.ediv_nonneg hc (by omega)) (by simp only [mupd_same]) fun b' hb' => by simp only [mupd_ne hb']
      · simp! [ha, h0]
        exact ⟨IntMulOk.of_right (intBits_le_64 (by decide) (by decide)), IntMulOk.of_right (intBits_le_64 (by decide) (by decide)), IntMulOk.of_right (intBits_le_64 (by decide) (by decide)),
          fin _ _ (p + 1) q (Int.emod_nonneg _ (by omega)) (Int.emod_lt_of_pos _ h0) (by omega) hq (by simp only [mupd_same]) fun b' hb' => by simp only [mupd_ne hb']⟩
theorem fn_one_of (S : Src K mg "_law_one_of" s__law_one_of ["state", "items"]) (G : GF K mg C_CellchainsError C_BadProgram C_TooLarge C_Checker) (F__law_draw : Fn P w K mg base 1 "_law_draw" sp_draw []) : Fn P w K mg base 2 "_law_one_of" sp_one_of [] := by
  refine S.fn mono_one_of fun f fd F => fn_ok F sc__law_one_of (fun ds M Q E h => by obtain ⟨a, b, m, es, rfl, _⟩ := h; rfl) ⟨_, fun cdv A outer s H E hr => have hu := hr.u200
    (xss_one (xs_ret (xe_ix hu (xe_var 1) (xe_call F__law_draw (hr.mono (by first | decide | omega)) bx_takes (by rfl) (xa_cons (xe_var 0) (xa_cons (xe_callB c_len (by rfl) G.len (by decide +kernel) (xa_cons (xe_var 1) xa_nil)) xa_nil)))))), fun ds M Q E h => ?_⟩
  obtain ⟨a, b, d, es, rfl, hs, hd, hn, h0, h1, h⟩ := h
  have hz : es.length ≤ sizeLine := by rw [sizeLine_eq]; omega
  have hp := List.length_pos_iff.mpr h0
  simp! []
  refine len_seqI hd hz ?_
  simp! []
  refine ⟨a, b, _, rfl, hs, by omega, by omega, fun r M' r0 r1 hs' k => ?_⟩
  simp! []
  obtain ⟨x, hx, hm⟩ := atI_some (xs := es) r0 r1
  exact ix_seqI (seqI_keep hd k hn) hz hx (h x M' hm hs' k)
end K04

set_option maxHeartbeats 4000000
namespace K04
open PySem PySem.Spec PyProof.Rows L2 PL SX
variable {P : Program} {w : World} {K : PySem.W.Frag} {mg : Str → Option Value} {base : Heap} {C_CellchainsError C_BadProgram C_TooLarge C_Checker : Addr}
/-! sources as plain data -/
theorem in_tupS {x : Str} {fs : List Str} {M : Mem} {Q : DK} : (opIn (.str x) (.tup (fs.map D.str)) M).run M Q = Q (.bl (decide (x ∈ fs))) M := by
  have e : isIn (.str x) (.tup (fs.map D.str)) M = some (0, decide (x ∈ fs)) := by
    simp [isIn, pureL_strs, dpL_strs, D.pure, D.dp]
    have := any_str (x := x) (fs := fs)
    simp only [List.any_map, Function.comp] at this
    exact this
  simp [opIn, e, Res.run, mostDeep]
theorem notIn_tupS {x : Str} {fs : List Str} {M : Mem} {Q : DK} : (opNotIn (.str x) (.tup (fs.map D.str)) M).run M Q = Q (.bl (!decide (x ∈ fs))) M := by
  have e : isIn (.str x) (.tup (fs.map D.str)) M = some (0, decide (x ∈ fs)) := by
    simp [isIn, pureL_strs, dpL_strs, D.pure, D.dp]
    have := any_str (x := x) (fs := fs)
    simp only [List.any_map, Function.comp] at this
    exact this
  simp [opNotIn, e, Res.run, mostDeep]
abbrev nil_ : Str := Str.ofString "nil"
abbrev wIf : Str := Str.ofString "if"
abbrev wWhile : Str := Str.ofString "while"
abbrev wCall : Str := Str.ofString "call"
abbrev Pr := Str × Str
abbrev Pic := List (List Pr)
def encPr (p : Pr) : D := .tup [.str p.1, .str p.2]
def encPart (l : List Pr) : D := .tup (l.map encPr)
def encPic (p : Pic) : D := .tup (p.map encPart)
inductive Op where
  | copy | read | link | new | free
def Op.word : Op → Str
  | .copy => Str.ofString "copy"
  | .read => Str.ofString "read"
  | .link => Str.ofString "link"
  | .new => Str.ofString "new"
  | .free => Str.ofString "free"
theorem op_if {o : Op} : (o.word = wIf) = False := by cases o <;> exact eq_false (by decide +kernel)
theorem op_while {o : Op} : (o.word = wWhile) = False := by cases o <;> exact eq_false (by decide +kernel)
theorem op_call {o : Op} : (o.word = wCall) = False := by cases o <;> exact eq_false (by decide +kernel)
inductive St where
  | at_ (o : Op) (xs : List Str)
  | call (n : Str) (as : List Str)
  | wh (t a b : Str) (c : List St)
  | ite (t a b : Str) (c d : List St)
abbrev tst (t a b : Str) : D := .tup [.str t, .str a, .str b]
mutual
def St.enc : St → D
  | .at_ o xs => .tup (.str o.word :: xs.map D.str)
  | .call n as => .tup [.str wCall, .str n, .tup (as.map D.str)]
  | .wh t a b c => .tup [.str wWhile, tst t a b, .tup (encL c)]
  | .ite t a b c d => .tup [.str wIf, tst t a b, .tup (encL c), .tup (encL d)]
def encL : List St → List D
  | [] => []
  | s :: r => s.enc :: encL r
end
theorem encL_map : ∀ b, encL b = b.map St.enc
  | [] => rfl
  | s :: r => by rw [encL, encL_map r]; rfl
mutual
def St.sub : St → List St
  | .wh _ _ _ b => flat b
  | .ite _ _ _ b c => flat b ++ flat c
  | _ => []
def flat : List St → List St
  | [] => []
  | s :: r => s :: (s.sub ++ flat r)
end
mutual
def St.dep : St → Nat
  | .wh _ _ _ b => depL b + 1
  | .ite _ _ _ b c => max (depL b) (depL c) + 1
  | _ => 0
def depL : List St → Nat
  | [] => 0
  | s :: r => max s.dep (depL r)
end
theorem flat_app : ∀ xs ys, flat (xs ++ ys) = flat xs ++ flat ys
  | [], ys => rfl
  | x :: xs, ys => by simp [flat, flat_app xs ys]
theorem depL_app : ∀ xs ys, depL (xs ++ ys) = max (depL xs) (depL ys)
  | [], ys => by simp [depL]
  | x :: xs, ys => by simp [depL, depL_app xs ys, Nat.max_assoc]
def St.places : St → List Str
  | .at_ _ xs => xs
  | .call _ as => as
  | .wh _ a b _ => [a, b]
  | .ite _ a b _ _ => [a, b]
structure Proc where
  nm : Str
  ps : List Str
  ls : List Str
  need : Pic
  ens : List Pic
  body : List St
def Proc.enc (p : Proc) : D := .tup [.str p.nm, .tup (p.ps.map D.str), .tup (p.ls.map D.str), encPic p.need, .tup (p.ens.map encPic), .tup (encL p.body)]
def Proc.known (p : Proc) : List Str := p.ps ++ p.ls
/-! names -/
abbrev leS (a b : Str) : Prop := a.cps.toList ≤ b.cps.toList
def leB (a b : Str) : Bool := decide (leS a b)
def srt (xs : List Str) : List Str := xs.mergeSort leB
theorem leS_tr {a b c : Str} (h : leS a b) (k : leS b c) : leS a c := List.le_trans h k
theorem leS_anti {a b : Str} (h : leS a b) (k : leS b a) : a = b := by
  have := List.le_antisymm h k
  cases a; cases b
  exact congrArg Str.mk (by
    rename_i x y
    cases x; cases y
    exact congrArg Array.mk this)
theorem srt_pw (xs : List Str) : (srt xs).Pairwise leS := by
  have := List.pairwise_mergeSort (le := leB) (fun a b c h k => decide_eq_true (leS_tr (of_decide_eq_true h) (of_decide_eq_true k))) (fun a b => by
    simp only [leB, Bool.or_eq_true, decide_eq_true_eq]
    exact List.le_total _ _) xs
  exact this.imp fun h => of_decide_eq_true h
theorem srt_perm (xs : List Str) : (srt xs).Perm xs := List.mergeSort_perm _ _
theorem pw_unique : ∀ {xs ys : List Str}, xs.Perm ys → xs.Pairwise leS → ys.Pairwise leS → xs = ys := by
  intro xs
  induction xs with
  | nil => intro ys h _ _; exact (List.nil_perm.mp h).symm
  | cons x r ih =>
    intro ys h hx hy
    cases ys with
    | nil => exact absurd h (by simp)
    | cons y q =>
      have e : x = y := by
        have h1 : x ∈ y :: q := h.mem_iff.mp List.mem_cons_self
        have h2 : y ∈ x :: r := h.mem_iff.mpr List.mem_cons_self
        rcases List.mem_cons.mp h1 with e | h1
        · exact e
        · rcases List.mem_cons.mp h2 with e | h2
          · exact e.symm
          · exact leS_anti (List.rel_of_pairwise_cons hx h2) (List.rel_of_pairwise_cons hy h1)
      subst e
      rw [ih (List.perm_cons _ |>.mp h) (List.pairwise_cons.mp hx).2 (List.pairwise_cons.mp hy).2]
theorem rising_pw : ∀ (x : Str) (r : List Str), risingS x r = true → (x :: r).Pairwise leS
  | x, [], _ => by simp
  | x, y :: r, h => by
    simp only [risingS, Bool.and_eq_true, Bool.not_eq_true'] at h
    have h1 : leS x y := List.not_lt.mp (by
      have := h.1
      rw [ltCps_eq] at this
      exact of_decide_eq_false this)
    have ih := rising_pw y r h.2
    rw [List.pairwise_cons]
    refine ⟨fun z hz => ?_, ih⟩
    rcases List.mem_cons.mp hz with rfl | hz
    · exact h1
    · exact List.le_trans h1 (List.rel_of_pairwise_cons ih hz)
theorem sorted_pw {ys : List Str} (h : sortedS ys = true) : ys.Pairwise leS := by
  cases ys with
  | nil => exact .nil
  | cons x r => exact rising_pw x r h
theorem sorted_eq {ys ks : List Str} (h : sortedS ys = true) (p : ys.Perm ks) : ys = srt ks := pw_unique (p.trans (srt_perm ks).symm) (sorted_pw h) (srt_pw ks)
def addN (ks : List Str) (x : Str) : List Str := if x ∈ ks then ks else ks ++ [x]
def nub (xs : List Str) : List Str := xs.foldl addN []
theorem nub_app (xs ys : List Str) : nub (xs ++ ys) = ys.foldl addN (nub xs) := List.foldl_append
theorem addN_mem {ks : List Str} {x y : Str} : y ∈ addN ks x ↔ y ∈ ks ∨ y = x := by
  unfold addN
  split
  · rename_i h
    exact ⟨.inl, fun z => z.elim id fun e => e ▸ h⟩
  · simp
theorem foldl_mem : ∀ (xs ks : List Str) (y : Str), y ∈ xs.foldl addN ks ↔ y ∈ ks ∨ y ∈ xs
  | [], ks, y => by simp
  | x :: r, ks, y => by
    rw [List.foldl_cons, foldl_mem r, addN_mem, List.mem_cons]
    constructor
    · rintro ((h | h) | h)
      · exact .inl h
      · exact .inr (.inl h)
      · exact .inr (.inr h)
    · rintro (h | h | h)
      · exact .inl (.inl h)
      · exact .inl (.inr h)
      · exact .inr h
theorem foldl_nodup : ∀ (xs ks : List Str), ks.Nodup → (xs.foldl addN ks).Nodup
  | [], ks, h => h
  | x :: r, ks, h => by
    rw [List.foldl_cons]
    refine foldl_nodup r _ ?_
    unfold addN
    split
    · exact h
    · rename_i z
      rw [List.nodup_append]
      exact ⟨h, by simp, fun a ha b hb => by rw [List.mem_singleton.mp hb]; exact fun e => z (e ▸ ha)⟩
theorem nub_mem {xs : List Str} {y : Str} : y ∈ nub xs ↔ y ∈ xs := by
  unfold nub
  rw [foldl_mem]; simp
theorem nub_nodup (xs : List Str) : (nub xs).Nodup := foldl_nodup _ _ List.nodup_nil
def two (q : Pr) : List Str := [q.1, q.2]
def picNames (p : Pic) : List Str := (p.flatten.map two).flatten
def names (p : Pic) : List Str := (srt (nub (picNames p))).filter fun x => !decide (x = nil_)
theorem names_mem {p : Pic} {x : Str} : x ∈ names p ↔ x ∈ picNames p ∧ x ≠ nil_ := by
  unfold names
  rw [List.mem_filter, (srt_perm _).mem_iff, nub_mem]
  simp
theorem names_nodup (p : Pic) : (names p).Nodup := ((srt_perm _).nodup_iff.mpr (nub_nodup _)).filter _
theorem names_pw (p : Pic) : (names p).Pairwise leS := (srt_pw _).filter _
def ghosts (p : Proc) : List Str := (names p.need).filter fun x => !decide (x ∈ p.ps)
/-- few names -/
def FewN (p : Pic) : Prop := ∃ ss : List Str, ss.length < 64 ∧ ∀ x ∈ picNames p, x ∈ ss
theorem FewN.nub {p : Pic} (h : FewN p) {l : List Str} (hl : ∀ x ∈ l, x ∈ picNames p) : (nub l).length < 64 := by
  obtain ⟨ss, h1, h2⟩ := h
  have := List.Nodup.length_le_of_subset (nub_nodup l) (l₂ := ss) fun x hx => h2 x (hl x (nub_mem.mp hx))
  omega
theorem FewN.names {p : Pic} (h : FewN p) : (names p).length < 64 := by
  have := h.nub (l := picNames p) fun _ => id
  have h2 : (K04.names p).length ≤ _ := List.length_filter_le _ _
  rw [(srt_perm _).length_eq] at h2
  omega
end K04

set_option maxHeartbeats 4000000
namespace K04
open PySem PySem.Spec PyProof.Rows L2 PL SX
variable {P : Program} {w : World} {K : PySem.W.Frag} {mg : Str → Option Value} {base : Heap} {C_CellchainsError C_BadProgram C_TooLarge C_Checker : Addr}
local macro_rules | `(tactic| simp! [$ls,*]) => `(tactic| simp only [s_fld, s_fldK, s_insAt, s_optD, s_obAt, s_fput, s_fputK1, s_fputK2, s_faug, s_faugK1, s_faugK2, s_faugK3, s_meth, s_methK1, s_methK2, s_make, s_makeK, s_makeK2, s_dead, s_tryN, noX_nx, noX_rt, noX_bk, noX_ct, mSplit, opMulS, s_enum, s_enumK, s_sortBy, s_sortByK, look_nil, look_cons, putFD_nil, putFD_cons, List.append_nil, to_nx, to_rt, to_bk, to_ct, to_ex, lp_nx, lp_rt, lp_bk, lp_ct, lp_ex, ret_nx, ret_rt, ret_ex, s_exK, s_bif1, s_bif0, s_optB, s_optE, s_nxD, s_ifK, s_asgN, s_asgT, s_asgL, b_nil, b_nm, b_tp, s_next, s_seq, s_drop, s_ret, s_retN, s_ifS, s_asg, s_brk, s_cont, s_put, s_put1, s_put2, s_put3, s_aug, s_augV, s_augK, s_augK2, s_bin, s_bin1, s_bin2, s_var, s_varK, s_C, s_cb, s_cbK, s_call, s_callK, s_m, s_m1, s_m2, s_nil, s_cons, s_cons1, s_cons2, s_tup, s_tupK, s_lst, s_lstK, s_truth, s_trK, s_tK, s_eK, s_cK, s_and, s_andK, s_or, s_orK, s_not, s_notK, s_ife, s_ifeK, s_andV, s_orV, s_andvK, s_orvK, s_andvK2, s_orvK2, s_notV, s_notvK, s_blK, s_neg, s_negK, s_sl, s_sl1, s_sl2, s_sl3, s_noPart, s_part, s_partK, s_rev, s_revK, s_for, s_forK, s_lc, s_lcK, s_yes, s_walk, s_walkT, s_walkS, s_walkA, s_walkL, s_walkR, s_rng1, s_rng2, s_rng1K, s_rng2K, s_callL, s_callLK, s_callLO, s_clK, s_raise, r_val, r_new, r_put, s_whK, s_lcY, s_lcT, s_lcE, s_cg, s_cgK, s_rng3, s_rng3K, s_lcB, s_lcS, wipeD, Pat.bind, seqOf, rg, s_dict0, s_sortSet, s_sortSetK, q_is_tuple, q_is_str, q_is_int, q_is_bool, q_is_list, q_isR, ofS_inj, String.reduceEq, q_eqI, q_neI, q_eqS, q_neS, decide_true, decide_false, Int.reduceEq, reduceCtorEq, i_NoneType_tuple, i_NoneType_str, i_NoneType_int, i_NoneType_bool, i_NoneType_list, i_bool_tuple, i_bool_str, i_bool_int, i_bool_bool, i_bool_list, i_int_tuple, i_int_str, i_int_int, i_int_bool, i_int_list, i_str_tuple, i_str_str, i_str_int, i_str_bool, i_str_list, i_tuple_tuple, i_tuple_str, i_tuple_int, i_tuple_bool, i_tuple_list, i_list_tuple, i_list_str, i_list_int, i_list_bool, i_list_list, i_dict_tuple, i_dict_str, i_dict_int, i_dict_bool, i_dict_list, tyN, startD, mupd_same, mupd_ne, ne_eq, not_false_eq_true, List.map_cons, List.map_nil, List.length_cons, List.length_nil, List.replicate_succ, List.replicate_zero, Nat.zero_add, Nat.reduceAdd, Nat.reduceSub, Int.cast_ofNat_Int, List.cons_append, List.nil_append, List.getElem?_cons_zero, List.getElem?_cons_succ, List.set_cons_zero, List.set_cons_succ, opIx, atI_cons, ixN, opPut, opAdd, opSub, opMul, opFdiv, opMod, opPow, opLt, opLe, opGt, opGe, opIs, opIsNot, D.isNon, truth, bLen, bAbs, bInt, bTuple, bList, isTy, mAppend, mExtend, mPop, Int.reduceLE, Int.reduceLT, Int.reduceToNat, Int.reduceNeg, Int.reduceNe, Option.bind_some, if_true, if_false, ite_true, ite_false, true_and, and_true, Bool.not_true, Bool.not_false, opIadd, Nat.reduceLT, Nat.reduceLeDiff, Int.ofNat_lt, s_lc2, s_lc2J, s_lc2B, s_lc2T, s_lc2E, s_raiseF, s_raiseFK, s_tryF, s_xf, s_xfK, s_xfAt, s_lenSet, s_lenSetK, opMulT, mInsert, s_dpNil, s_dpCons, s_dpK1, s_dpK2, s_dpK3, s_disp, s_dispK, s_optKV, kvOf, s_dc, s_dcK, s_keys, s_lockK, s_sortIt, mGet, mDPop, dgetR, bDictC, bTupC, opEqD, opNeD, eqDR, D.key, merge_one, optKV, id, opEqL, opNeL, eqLR, $ls,*])
theorem ix01 {n : Nat} : (if (0 : Int) < ((n + 1 : Nat) : Int) then some (0 : Nat) else none) = some 0 := if_pos (by omega)
def tK (x : Str) : Key × D := (.inr x, .bl true)
theorem tK_any {ks : List Str} {x : Str} : ((ks.map tK).any fun kv => decide (kv.1 = (.inr x : Key))) = decide (x ∈ ks) := by
  rw [List.any_map]
  induction ks with
  | nil => simp
  | cons y r ih =>
    rw [List.any_cons, ih]
    simp only [Function.comp, tK, Sum.inr.injEq, List.mem_cons]
    by_cases h : y = x
    · simp [h]
    · have : ¬ x = y := fun e => h e.symm
      simp [h, this]
theorem putD_tK {ks : List Str} {x : Str} : putD (ks.map tK) (.inr x) (.bl true) = (addN ks x).map tK := by
  unfold putD addN
  rw [tK_any]
  by_cases h : x ∈ ks
  · rw [if_pos (by simpa using h), if_pos h, List.map_map]
    refine List.map_congr_left fun y _ => ?_
    simp only [Function.comp, tK]
    by_cases e : y = x <;> simp [e]
  · rw [if_neg (by simpa using h), if_neg h]
    simp [tK]
theorem tK_keys {ks : List Str} : sKeys (ks.map tK) ks := by
  unfold sKeys
  rw [List.map_map]
  rfl
def sp_names_of : DSp := fun ds M Q E => ∃ p : Pic, ds = [encPic p] ∧ FewN p ∧ ∀ M', Keep [] M M' → Q (.tup ((names p).map D.str)) M'
theorem mono_names_of : MonoSp sp_names_of := by
  rintro ds M Q Q' E E' hQ hE ⟨p, h1, h2, h⟩
  exact ⟨p, h1, h2, fun M' z => hQ _ _ (h M' z)⟩
theorem flat_app1 {done r : Pic} {x : List Pr} : picNames (done ++ x :: r) = picNames done ++ ((x.map two).flatten ++ picNames r) := by
  simp [picNames]
theorem fn_names_of (S0 : Src K mg "names_of" s_names_of ["picture"]) (G : GF K mg C_CellchainsError C_BadProgram C_TooLarge C_Checker) : Fn P w K mg base 1 "names_of" sp_names_of [] := by
  refine S0.fn mono_names_of fun g fd F => fn_ok F sc_names_of (fun ds M Q E h => by obtain ⟨p, rfl, _⟩ := h; rfl) ⟨_, fun cdv A outer s H E hr => have hu := hr.u200
    (xss_cons (xs_set 1 sc_names_of.nd xe_dict0)
 (xss_cons (xs_for (p := .nm 2) bx_passes rfl (xi_walk (xe_var 0)) (xg_name 2 sc_names_of.nd)
 (xss_one (xs_for (p := .tp [.nm 3, .nm 4]) bx_passes rfl (xi_walk (xe_var 2)) (xg_tup rfl (xgs_cons (xg_name 3 sc_names_of.nd) (xgs_cons (xg_name 4 sc_names_of.nd) xgs_nil)))
 (xss_cons (xs_put hu xe_bl (xe_var 1) (xe_var 3))
 (xss_one (xs_put hu xe_bl (xe_var 1) (xe_var 4)))))))
 (xss_one (xs_ret (xe_callTy c_tuple (by rfl) G.tuple (by decide +kernel) (xa_cons (xe_lc (own := [("name", 5)]) (p := .nm 5) rfl sc_names_of.nd (xi_walk (xe_callG bSortD_mono (c_sortD rfl) (by rfl) G.sorted (by decide +kernel) (xa_cons (xe_var 1) xa_nil))) (blkOk_by (by first | (show blkC ["picture", "found", "part", "one", "other", "name"] (defScope s_names_of) _ _ = true; decide +kernel) | kernel_rfl | rfl)) (fun _ _ _ _ _ => (xg_name 5 sc_names_of.nd)) (fun _ _ _ _ _ => (xts_one (xt_cmp (x_ne hu) (xe_var 5) (xe_globE (by rfl) G.NIL) (nomark _) bl_ne))) (fun _ _ _ _ _ => (xe_var 5))) xa_nil)))))), fun ds M Q E h => ?_⟩
  obtain ⟨p, rfl, hf, h⟩ := h
  have sz : (16777216 : Nat) = sizeLine := sizeLine_eq.symm
  simp! [encPic]
  intro a ha
  refine loop_inv encPart (fun r env M' => ∃ done d2 d3 d4 d5, p = done ++ r ∧ env = [some (.tup (p.map encPart)), some (.ob a), d2, d3, d4, d5] ∧ M' a = some (.dk ((nub (picNames done)).map tK)) ∧ Keep [a] M M') (fun _ _ _ _ => trivial) ?_ ?_ p _ _ ⟨[], none, none, none, none, rfl, rfl, by simp [mupd_same, picNames, nub], Keep.new ha⟩
  · rintro x r env M' N ⟨done, d2, d3, d4, d5, e1, rfl, hm, k⟩ hN
    simp! [encPart]
    refine loop_inv encPr (fun r1 env M' => ∃ done1 d3 d4 d5, x = done1 ++ r1 ∧ env = [some (.tup (p.map encPart)), some (.ob a), some (.tup (x.map encPr)), d3, d4, d5] ∧ M' a = some (.dk ((nub (picNames done ++ (done1.map two).flatten)).map tK)) ∧ Keep [a] M M') (fun _ _ _ _ => trivial) ?_ ?_ x _ _ ⟨[], d3, d4, d5, rfl, rfl, by simpa using hm, k⟩
    · rintro ⟨u, v⟩ r1 env M2 N2 ⟨done1, d3, d4, d5, e2, rfl, hm2, k2⟩ hN2
      have l1 : (nub (picNames done ++ (done1.map two).flatten)).length < 64 := hf.nub fun z hz => by
        rw [e1, flat_app1, e2]
        simp only [List.map_append, List.flatten_append, List.mem_append] at hz ⊢
        rcases hz with hz | hz
        · exact .inl hz
        · exact .inr (.inl (.inl hz))
      have l2 : (addN (nub (picNames done ++ (done1.map two).flatten)) u).length ≤ 64 := by
        unfold addN
        split
        · omega
        · rw [List.length_append]; simp only [List.length_cons, List.length_nil]; omega
      simp! [encPr, hm2, D.key, putD_tK, List.length_map]
      refine ⟨by omega, by omega, hN2 _ _ ⟨done1 ++ [(u, v)], _, _, _, by rw [e2]; simp, rfl, ?_, (k2.trans (Keep.put (by simp))).trans (Keep.put (by simp))⟩⟩
      rw [mupd_same]
      simp [nub_app, two]
    · rintro env M2 ⟨done1, d3, d4, d5, e2, rfl, hm2, k2⟩
      simp! []
      rw [List.append_nil] at e2
      refine hN _ _ ⟨done ++ [x], _, _, _, _, by rw [e1]; simp, rfl, ?_, k2⟩
      rw [hm2, e2]
      simp [picNames]
  · rintro env M' ⟨done, d2, d3, d4, d5, e1, rfl, hm, k⟩
    rw [List.append_nil] at e1
    subst e1
    simp! []
    have l1 := hf.nub (l := picNames p) fun _ => id
    refine ⟨a, _, rfl, .inl hm, .inl ⟨nub (picNames p), tK_keys, l1, fun ys q s1 s2 hq => ?_⟩⟩
    have ey := sorted_eq s1 s2
    have yl : ys.length < 64 := by rw [s2.length_eq]; exact l1
    simp! []
    intro b hb
    have bq : q ≠ b := fun e => by rw [e, mupd_same] at hb; cases hb
    refine lc_pure D.str D.str (fun x => !decide (x = nil_)) ys hb (fun M2 k2 => .inl (k2 _ _ mupd_same (by simp))) (by omega) (fun x hx M2 N sk k2 hy hn => ?_) fun M2 k2 e => ?_
    · simp! []
      refine bif_of (fun z => ?_) fun z => ?_
      · simp! []
        exact hy z _ Keep.refl
      · exact hn z _ Keep.refl
    · simp! [e]
      rw [ey]
      exact h M2 (((k.trans (Keep.new hq)).trans (k2.weaken (by simp))).drop ha)
def sp_atoms : DSp := fun ds M Q E => ∃ p : Pic, ds = [encPic p] ∧ p.length < 1000 ∧ (∀ x ∈ p, x.length < 1000) ∧ ∀ M', Keep [] M M' → Q (.int ((p.map fun x => (x.length : Int)).sum)) M'
theorem mono_atoms : MonoSp sp_atoms := by
  rintro ds M Q Q' E E' hQ hE ⟨p, h1, h2, h3, h⟩
  exact ⟨p, h1, h2, h3, fun M' z => hQ _ _ (h M' z)⟩
theorem fn_atoms (S0 : Src K mg "atoms_in" s_atoms_in ["picture"]) (G : GF K mg C_CellchainsError C_BadProgram C_TooLarge C_Checker) : Fn P w K mg base 1 "atoms_in" sp_atoms [] := by
  refine S0.fn mono_atoms fun g fd F => fn_ok F sc_atoms_in (fun ds M Q E h => by obtain ⟨p, rfl, _⟩ := h; rfl) ⟨_, fun cdv A outer s H E hr => have hu := hr.u200
    (xss_one (xs_ret (xe_callB (c_sum rfl) (by rfl) G.sum (by decide +kernel) (xa_cons (xe_lc (own := [("part", 1)]) (p := .nm 1) rfl sc_atoms_in.nd (xi_walk (xe_var 0)) (blkOk_by (by first | (show blkC ["picture", "part"] (defScope s_atoms_in) _ _ = true; decide +kernel) | kernel_rfl | rfl)) (fun _ _ _ _ _ => (xg_name 1 sc_atoms_in.nd)) (fun _ _ _ _ _ => xts_nil) (fun _ _ _ _ _ => (xe_callB c_len (by rfl) G.len (by decide +kernel) (xa_cons (xe_var 1) xa_nil)))) xa_nil)))), fun ds M Q E h => ?_⟩
  obtain ⟨p, rfl, hl, hx, h⟩ := h
  have sz : (16777216 : Nat) = sizeLine := sizeLine_eq.symm
  simp! [encPic]
  intro a ha
  refine lc_pure encPart (fun x => D.int (x.length : Int)) (fun _ => true) p ha (fun _ _ => trivial) (by omega) (fun x hx' M2 N sk k2 hy hn => ?_) fun M2 k2 e => ?_
  · have := hx x hx'
    simp! [encPart, List.length_map]
    exact hy rfl _ Keep.refl
  · rw [filter_tt] at e
    have e2 := intsOf_map (p.map fun x => (x.length : Int))
    rw [List.map_map] at e2
    simp! [bSum, e]
    have e3 : intsOf (p.map fun x => D.int (x.length : Int)) = some (p.map fun x => (x.length : Int)) := e2
    simp! [e3]
    exact h M2 k2
def sp_sin (n : Nat) : DSp := fun ds M Q E => ∃ b : List St, ds = [.tup (encL b)] ∧ depL b < n ∧ (flat b).length < 1000000 ∧ ∀ r M', M r = none → M' r = some (.lst ((flat b).map St.enc)) → Keep [] M M' → Q (.ob r) M'
theorem mono_sin {n : Nat} : MonoSp (sp_sin n) := by
  rintro ds M Q Q' E E' hQ hE ⟨b, h1, h2, h3, h⟩
  exact ⟨b, h1, h2, h3, fun r M' z1 z2 z3 => hQ _ _ (h r M' z1 z2 z3)⟩
theorem fn_sin (S0 : Src K mg "statements_in" s_statements_in ["body"]) (G : GF K mg C_CellchainsError C_BadProgram C_TooLarge C_Checker) : ∀ n, Fn P w K mg base n "statements_in" (sp_sin n) [] := by
  intro n
  induction n with
  | zero => exact S0.fn mono_sin fun f fd F => fn_none fun ds M Q E ⟨d, _, h, _⟩ => by omega
  | succ n F_statements_in =>
  refine S0.fn mono_sin fun g fd F => fn_ok F sc_statements_in (fun ds M Q E h => by obtain ⟨b, rfl, _⟩ := h; rfl) ⟨_, fun cdv A outer s H E hr => have hu := hr.u200
    (xss_cons (xs_set 1 sc_statements_in.nd (xe_lst (n := 0) xa_nil))
 (xss_cons (xs_for (p := .nm 2) bx_passes rfl (xi_walk (xe_var 0)) (xg_name 2 sc_statements_in.nd)
 (xss_cons (xs_expr (xe_bm PySem.F.plainAttrs_list PySem.F.slot_list_append PySem.F.type_list_append m_append (xe_var 1) (xa_cons (xe_var 2) xa_nil)))
 (xss_cons (xs_if (xt_cmp (x_eq hu) (xe_ix hu (xe_var 2) xe_int) xe_str (nomark _) bl_eq)
 (xss_one (xs_expr (xe_bm PySem.F.plainAttrs_list PySem.F.slot_list_extend PySem.F.type_list_extend m_extend (xe_var 1) (xa_cons (xe_call F_statements_in (hr.mono (by first | decide | omega)) bx_takes (by rfl) (xa_cons (xe_ix hu (xe_var 2) xe_int) xa_nil)) xa_nil))))
 xss_nil)
 (xss_one (xs_if (xt_cmp (x_eq hu) (xe_ix hu (xe_var 2) xe_int) xe_str (nomark _) bl_eq)
 (xss_one (xs_expr (xe_bm PySem.F.plainAttrs_list PySem.F.slot_list_extend PySem.F.type_list_extend m_extend (xe_var 1) (xa_cons (xe_bin x_add (xe_call F_statements_in (hr.mono (by first | decide | omega)) bx_takes (by rfl) (xa_cons (xe_ix hu (xe_var 2) xe_int) xa_nil)) (xe_call F_statements_in (hr.mono (by first | decide | omega)) bx_takes (by rfl) (xa_cons (xe_ix hu (xe_var 2) xe_int) xa_nil))) xa_nil))))
 xss_nil)))))
 (xss_one (xs_ret (xe_var 1))))), fun ds M Q E h => ?_⟩
  obtain ⟨b, rfl, hn, hl, h⟩ := h
  simp! []
  intro a ha
  rw [encL_map]
  refine loop_inv St.enc (fun r env M' => ∃ done d2, b = done ++ r ∧ env = [some (.tup (encL b)), some (.ob a), d2] ∧ M' a = some (.lst ((flat done).map St.enc)) ∧ Keep [a] M M') (fun _ _ _ _ => trivial) ?_ ?_ b _ _ ⟨[], none, rfl, by rw [encL_map], by simp [mupd_same, flat], Keep.new ha⟩
  · rintro x r env M' N ⟨done, d2, rfl, rfl, hm, k⟩ hN
    have ll : (flat (done ++ x :: r)).length = (flat done).length + 1 + x.sub.length + (flat r).length := by simp [flat_app, flat]; omega
    have dd : x.dep < n + 1 := by rw [depL_app, depL] at hn; omega
    have sz : (16777216 : Nat) = sizeLine := sizeLine_eq.symm
    have fin : ∀ env' M'' d, env' = [some (D.tup (encL (done ++ x :: r))), some (D.ob a), some d] → M'' a = some (.lst ((flat done).map St.enc ++ x.enc :: x.sub.map St.enc)) → Keep [a] M' M'' → N env' M'' := fun env' M'' d e1 e2 k2 =>
      hN _ _ ⟨done ++ [x], some d, by simp, e1, by rw [e2, flat_app]; simp [flat], k.trans k2⟩
    simp! [hm, List.length_map]
    refine ⟨by omega, ?_⟩
    cases x with
    | wh t u v b' =>
      simp only [St.dep] at dd
      simp only [St.sub] at ll
      simp! [St.enc]
      refine ⟨b', rfl, by omega, by omega, fun c M2 _ e2 k2 => ?_⟩
      simp! [e2, k2 _ _ mupd_same (by simp), List.length_append, List.length_map]
      refine ⟨by omega, fin _ _ _ rfl (by simp only [mupd_same]; simp [St.enc, St.sub]) ?_⟩
      exact ((Keep.put (by simp)).trans (k2.weaken (by simp))).trans (Keep.put (by simp))
    | ite t u v b1 b2 =>
      simp only [St.dep] at dd
      simp only [St.sub, List.length_append] at ll
      simp! [St.enc]
      refine ⟨b1, rfl, by omega, by omega, fun c M2 _ e2 k2 => ?_⟩
      simp! []
      refine ⟨b2, rfl, by omega, by omega, fun c3 M3 _ e3 k3 => ?_⟩
      have e4 := k3 _ _ e2 (by simp)
      simp! [e3, e4, List.length_append, List.length_map]
      refine ⟨by omega, fun q hq => ?_⟩
      have e5 := k3 _ _ (k2 _ _ mupd_same (by simp)) (by simp)
      have qa : a ≠ q := ne_new e5 hq
      simp! [mupd_ne qa, e5, List.length_append, List.length_map]
      refine ⟨by omega, fin _ _ _ rfl (by simp only [mupd_same]; simp [St.enc, St.sub]) ?_⟩
      exact ((((Keep.put (by simp)).trans (k2.weaken (by simp))).trans (k3.weaken (by simp))).trans (Keep.new hq)).trans (Keep.put (by simp))
    | at_ o xs =>
      simp! [St.enc, ix01, op_if, op_while]
      exact fin _ _ _ rfl (by simp only [mupd_same]; simp [St.enc, St.sub]) (Keep.put (by simp))
    | call nm as =>
      simp! [St.enc]
      exact fin _ _ _ rfl (by simp only [mupd_same]; simp [St.enc, St.sub]) (Keep.put (by simp))
  · rintro env M' ⟨done, d2, rfl, rfl, hm, k⟩
    simp! []
    rw [List.append_nil] at h
    exact h _ _ ha hm (k.drop ha)
end K04

set_option maxHeartbeats 4000000
namespace K04
open PySem PySem.Spec PyProof.Rows L2 PL SX
variable {P : Program} {w : World} {K : PySem.W.Frag} {mg : Str → Option Value} {base : Heap} {C_CellchainsError C_BadProgram C_TooLarge C_Checker : Addr}
local macro_rules | `(tactic| simp! [$ls,*]) => `(tactic| simp only [s_fld, s_fldK, s_insAt, s_optD, s_obAt, s_fput, s_fputK1, s_fputK2, s_faug, s_faugK1, s_faugK2, s_faugK3, s_meth, s_methK1, s_methK2, s_make, s_makeK, s_makeK2, s_dead, s_tryN, noX_nx, noX_rt, noX_bk, noX_ct, mSplit, opMulS, s_enum, s_enumK, s_sortBy, s_sortByK, look_nil, look_cons, putFD_nil, putFD_cons, List.append_nil, to_nx, to_rt, to_bk, to_ct, to_ex, lp_nx, lp_rt, lp_bk, lp_ct, lp_ex, ret_nx, ret_rt, ret_ex, s_exK, s_bif1, s_bif0, s_optB, s_optE, s_nxD, s_ifK, s_asgN, s_asgT, s_asgL, b_nil, b_nm, b_tp, s_next, s_seq, s_drop, s_ret, s_retN, s_ifS, s_asg, s_brk, s_cont, s_put, s_put1, s_put2, s_put3, s_aug, s_augV, s_augK, s_augK2, s_bin, s_bin1, s_bin2, s_var, s_varK, s_C, s_cb, s_cbK, s_call, s_callK, s_m, s_m1, s_m2, s_nil, s_cons, s_cons1, s_cons2, s_tup, s_tupK, s_lst, s_lstK, s_truth, s_trK, s_tK, s_eK, s_cK, s_and, s_andK, s_or, s_orK, s_not, s_notK, s_ife, s_ifeK, s_andV, s_orV, s_andvK, s_orvK, s_andvK2, s_orvK2, s_notV, s_notvK, s_blK, s_neg, s_negK, s_sl, s_sl1, s_sl2, s_sl3, s_noPart, s_part, s_partK, s_rev, s_revK, s_for, s_forK, s_lc, s_lcK, s_yes, s_walk, s_walkT, s_walkS, s_walkA, s_walkL, s_walkR, s_rng1, s_rng2, s_rng1K, s_rng2K, s_callL, s_callLK, s_callLO, s_clK, s_raise, r_val, r_new, r_put, s_whK, s_lcY, s_lcT, s_lcE, s_cg, s_cgK, s_rng3, s_rng3K, s_lcB, s_lcS, wipeD, Pat.bind, seqOf, rg, s_dict0, s_sortSet, s_sortSetK, q_is_tuple, q_is_str, q_is_int, q_is_bool, q_is_list, q_isR, ofS_inj, String.reduceEq, q_eqI, q_neI, q_eqS, q_neS, decide_true, decide_false, Int.reduceEq, reduceCtorEq, i_NoneType_tuple, i_NoneType_str, i_NoneType_int, i_NoneType_bool, i_NoneType_list, i_bool_tuple, i_bool_str, i_bool_int, i_bool_bool, i_bool_list, i_int_tuple, i_int_str, i_int_int, i_int_bool, i_int_list, i_str_tuple, i_str_str, i_str_int, i_str_bool, i_str_list, i_tuple_tuple, i_tuple_str, i_tuple_int, i_tuple_bool, i_tuple_list, i_list_tuple, i_list_str, i_list_int, i_list_bool, i_list_list, i_dict_tuple, i_dict_str, i_dict_int, i_dict_bool, i_dict_list, tyN, startD, mupd_same, mupd_ne, ne_eq, not_false_eq_true, List.map_cons, List.map_nil, List.length_cons, List.length_nil, List.replicate_succ, List.replicate_zero, Nat.zero_add, Nat.reduceAdd, Nat.reduceSub, Int.cast_ofNat_Int, List.cons_append, List.nil_append, List.getElem?_cons_zero, List.getElem?_cons_succ, List.set_cons_zero, List.set_cons_succ, opIx, atI_cons, ixN, opPut, opAdd, opSub, opMul, opFdiv, opMod, opPow, opLt, opLe, opGt, opGe, opIs, opIsNot, D.isNon, truth, bLen, bAbs, bInt, bTuple, bList, isTy, mAppend, mExtend, mPop, Int.reduceLE, Int.reduceLT, Int.reduceToNat, Int.reduceNeg, Int.reduceNe, Option.bind_some, if_true, if_false, ite_true, ite_false, true_and, and_true, Bool.not_true, Bool.not_false, opIadd, Nat.reduceLT, Nat.reduceLeDiff, Int.ofNat_lt, s_lc2, s_lc2J, s_lc2B, s_lc2T, s_lc2E, s_raiseF, s_raiseFK, s_tryF, s_xf, s_xfK, s_xfAt, s_lenSet, s_lenSetK, opMulT, mInsert, s_dpNil, s_dpCons, s_dpK1, s_dpK2, s_dpK3, s_disp, s_dispK, s_optKV, kvOf, s_dc, s_dcK, s_keys, s_lockK, s_sortIt, mGet, mDPop, dgetR, bDictC, bTupC, opEqD, opNeD, eqDR, D.key, merge_one, optKV, id, opEqL, opNeL, eqLR, $ls,*])
def sp_dep (n : Nat) : DSp := fun ds M Q E => ∃ b : List St, ds = [.tup (encL b)] ∧ depL b < n ∧ ∀ M', Keep [] M M' → Q (.int (depL b : Int)) M'
theorem mono_dep {n : Nat} : MonoSp (sp_dep n) := by
  rintro ds M Q Q' E E' hQ hE ⟨b, h1, h2, h⟩
  exact ⟨b, h1, h2, fun M' z1 => hQ _ _ (h M' z1)⟩
theorem max_int (a b : Nat) : (if ((b : Nat) : Int) > (a : Int) then (b : Int) else (a : Int)) = ((max a b : Nat) : Int) := by
  split <;> omega
theorem fn_dep (S0 : Src K mg "depth_of" s_depth_of ["body"]) (G : GF K mg C_CellchainsError C_BadProgram C_TooLarge C_Checker) : ∀ n, Fn P w K mg base n "depth_of" (sp_dep n) [] := by
  intro n
  induction n with
  | zero => exact S0.fn mono_dep fun f fd F => fn_none fun ds M Q E ⟨d, _, h, _⟩ => by omega
  | succ n F_depth_of =>
  refine S0.fn mono_dep fun g fd F => fn_ok F sc_depth_of (fun ds M Q E h => by obtain ⟨b, rfl, _⟩ := h; rfl) ⟨_, fun cdv A outer s H E hr => have hu := hr.u200
    (xss_cons (xs_set 1 sc_depth_of.nd xe_int)
 (xss_cons (xs_for (p := .nm 2) bx_passes rfl (xi_walk (xe_var 0)) (xg_name 2 sc_depth_of.nd)
 (xss_cons (xs_if (xt_cmp (x_eq hu) (xe_ix hu (xe_var 2) xe_int) xe_str (nomark _) bl_eq)
 (xss_one (xs_set 1 sc_depth_of.nd (xe_callB (c_max2 rfl) (by rfl) G.max (by decide +kernel) (xa_cons (xe_var 1) (xa_cons (xe_bin x_add xe_int (xe_call F_depth_of (hr.mono (by first | decide | omega)) bx_takes (by rfl) (xa_cons (xe_ix hu (xe_var 2) xe_int) xa_nil))) xa_nil)))))
 xss_nil)
 (xss_one (xs_if (xt_cmp (x_eq hu) (xe_ix hu (xe_var 2) xe_int) xe_str (nomark _) bl_eq)
 (xss_one (xs_set 1 sc_depth_of.nd (xe_callB (c_max2 rfl) (by rfl) G.max (by decide +kernel) (xa_cons (xe_var 1) (xa_cons (xe_bin x_add xe_int (xe_callB (c_max2 rfl) (by rfl) G.max (by decide +kernel) (xa_cons (xe_call F_depth_of (hr.mono (by first | decide | omega)) bx_takes (by rfl) (xa_cons (xe_ix hu (xe_var 2) xe_int) xa_nil)) (xa_cons (xe_call F_depth_of (hr.mono (by first | decide | omega)) bx_takes (by rfl) (xa_cons (xe_ix hu (xe_var 2) xe_int) xa_nil)) xa_nil)))) xa_nil)))))
 xss_nil))))
 (xss_one (xs_ret (xe_var 1))))), fun ds M Q E h => ?_⟩
  obtain ⟨b, rfl, hn, h⟩ := h
  simp! []
  rw [encL_map]
  refine loop_inv St.enc (fun r env M' => ∃ done d2, b = done ++ r ∧ env = [some (.tup (encL b)), some (.int (depL done : Int)), d2] ∧ Keep [] M M') (fun _ _ _ _ => trivial) ?_ ?_ b _ _ ⟨[], none, rfl, by rw [encL_map]; rfl, Keep.refl⟩
  · rintro x r env M' N ⟨done, d2, rfl, rfl, k⟩ hN
    have dd : x.dep < n + 1 := by rw [depL_app, depL] at hn; omega
    have fin : ∀ env' M'' d, env' = [some (D.tup (encL (done ++ x :: r))), some (D.int ((max (depL done) x.dep : Nat) : Int)), some d] → Keep [] M' M'' → N env' M'' := fun env' M'' d e1 k2 =>
      hN _ _ ⟨done ++ [x], some d, by simp, by rw [e1, depL_app]; simp [depL], k.trans k2⟩
    cases x with
    | wh t u v b' =>
      simp only [St.dep] at dd
      simp! [St.enc]
      refine ⟨b', rfl, by omega, fun M2 k2 => ?_⟩
      simp! [bMax2]
      refine fin _ _ (.tup [.str wWhile, tst t u v, .tup (encL b')]) ?_ k2
      rw [St.dep, ← max_int]
      congr 4
      simp only [Int.natCast_add, Int.natCast_one, Int.add_comm]
    | ite t u v b1 b2 =>
      simp only [St.dep] at dd
      simp! [St.enc]
      refine ⟨b1, rfl, by omega, fun M2 k2 => ?_⟩
      simp! []
      refine ⟨b2, rfl, by omega, fun M3 k3 => ?_⟩
      simp! [bMax2]
      refine fin _ _ (.tup [.str wIf, tst t u v, .tup (encL b1), .tup (encL b2)]) ?_ (k2.trans k3)
      rw [St.dep, ← max_int]
      congr 4
      have := max_int (depL b1) (depL b2)
      simp only [gt_iff_lt, Int.ofNat_lt] at this
      rw [this]
      split <;> rename_i q <;> split <;> rename_i q2 <;> omega
    | at_ o xs =>
      simp! [St.enc, ix01, op_if, op_while]
      exact fin _ _ (.tup (.str o.word :: xs.map D.str)) (by simp only [St.dep, Nat.max_zero]) Keep.refl
    | call nm as =>
      simp! [St.enc]
      exact fin _ _ (.tup [.str wCall, .str nm, .tup (as.map D.str)]) (by simp only [St.dep, Nat.max_zero]) Keep.refl
  · rintro env M' ⟨done, d2, rfl, rfl, k⟩
    simp! []
    rw [List.append_nil] at h
    exact h _ k
theorem cut_tail {α : Type} (x : α) (r : List α) : PL.cutD (x :: r) (some 1) none = r := by
  unfold PL.cutD
  rw [HT.sIx_none, show (1 : Int) = ((1 : Nat) : Int) from rfl, HT.sIx_nat, List.length_cons, Nat.min_eq_left (by omega)]
  simp
def sp_places_in : DSp := fun ds M Q E => ∃ s : St, ds = [s.enc] ∧ s.places.length < 1000 ∧ ∀ M', Keep [] M M' → Q (.tup (s.places.map D.str)) M'
theorem mono_places_in : MonoSp sp_places_in := by
  rintro ds M Q Q' E E' hQ hE ⟨b, h1, h2, h⟩
  exact ⟨b, h1, h2, fun M' z1 => hQ _ _ (h M' z1)⟩
theorem in_ifwh {x : Str} {M : Mem} {Q : DK} : (opIn (.str x) (.tup [.str wIf, .str wWhile]) M).run M Q = Q (.bl (decide (x ∈ [wIf, wWhile]))) M := in_tupS (fs := [wIf, wWhile])
theorem op_in {o : Op} : (o.word ∈ [wIf, wWhile]) = False := by
  simp only [List.mem_cons, List.not_mem_nil, op_if, op_while, or_self]
theorem fn_places_in (S0 : Src K mg "places_in" s_places_in ["statement"]) (G : GF K mg C_CellchainsError C_BadProgram C_TooLarge C_Checker) : Fn P w K mg base 1 "places_in" sp_places_in [] := by
  refine S0.fn mono_places_in fun g fd F => fn_ok F sc_places_in (fun ds M Q E h => by obtain ⟨b, rfl, _⟩ := h; rfl) ⟨_, fun cdv A outer s H E hr => have hu := hr.u200
    (xss_cons (xs_if (xt_cmp (x_in hu) (xe_ix hu (xe_var 0) xe_int) (xe_tup (n := 2) (xa_cons xe_str (xa_cons xe_str xa_nil))) rfl bl_in)
 (xss_one (xs_ret (xe_sl (xe_ix hu (xe_var 0) xe_int) (xo_some xe_int) xo_none)))
 xss_nil)
 (xss_one (xs_ret (xe_if (xt_cmp (x_eq hu) (xe_ix hu (xe_var 0) xe_int) xe_str (nomark _) bl_eq) (xe_ix hu (xe_var 0) xe_int) (xe_sl (xe_var 0) (xo_some xe_int) xo_none))))), fun ds M Q E h => ?_⟩
  obtain ⟨s, rfl, hl, h⟩ := h
  have w1 : (wIf ∈ [wIf, wWhile]) = True := eq_true (by decide +kernel)
  have w2 : (wWhile ∈ [wIf, wWhile]) = True := eq_true (by decide +kernel)
  have w3 : (wCall ∈ [wIf, wWhile]) = False := eq_false (by decide +kernel)
  cases s with
  | wh t u v b' =>
    simp! [St.enc, in_ifwh, w2, opSl]
    exact h M Keep.refl
  | ite t u v b1 b2 =>
    simp! [St.enc, in_ifwh, w1, opSl]
    exact h M Keep.refl
  | at_ o xs =>
    simp! [St.enc, ix01, in_ifwh, op_in, op_call, opSl, cut_tail]
    exact h M Keep.refl
  | call nm as =>
    simp! [St.enc, in_ifwh, w3, opSl]
    exact h M Keep.refl
def sp_ghosts_of : DSp := fun ds M Q E => ∃ p : Proc, ds = [p.enc] ∧ FewN p.need ∧ ∀ M', Keep [] M M' → Q (.tup ((ghosts p).map D.str)) M'
theorem mono_ghosts_of : MonoSp sp_ghosts_of := by
  rintro ds M Q Q' E E' hQ hE ⟨b, h1, h2, h⟩
  exact ⟨b, h1, h2, fun M' z1 => hQ _ _ (h M' z1)⟩
theorem fn_ghosts_of (S0 : Src K mg "ghosts_of" s_ghosts_of ["proc"]) (G : GF K mg C_CellchainsError C_BadProgram C_TooLarge C_Checker) (F_names_of : Fn P w K mg base 1 "names_of" sp_names_of []) : Fn P w K mg base 2 "ghosts_of" sp_ghosts_of [] := by
  refine S0.fn mono_ghosts_of fun g fd F => fn_ok F sc_ghosts_of (fun ds M Q E h => by obtain ⟨b, rfl, _⟩ := h; rfl) ⟨_, fun cdv A outer s H E hr => have hu := hr.u200
    (xss_one (xs_ret (xe_callTy c_tuple (by rfl) G.tuple (by decide +kernel) (xa_cons (xe_lc (own := [("name", 1)]) (p := .nm 1) rfl sc_ghosts_of.nd (xi_walk (xe_call F_names_of (hr.mono (by first | decide | omega)) bx_takes (by rfl) (xa_cons (xe_ix hu (xe_var 0) xe_int) xa_nil))) (blkOk_by (by first | (show blkC ["proc", "name"] (defScope s_ghosts_of) _ _ = true; decide +kernel) | kernel_rfl | rfl)) (fun _ _ _ _ _ => (xg_name 1 sc_ghosts_of.nd)) (fun _ _ _ _ _ => (xts_one (xt_cmp (x_notin hu) (xe_var 1) (xe_ix hu (xe_var 0) xe_int) rfl bl_notin))) (fun _ _ _ _ _ => (xe_var 1))) xa_nil)))), fun ds M Q E h => ?_⟩
  obtain ⟨p, rfl, hf, h⟩ := h
  have sz : (16777216 : Nat) = sizeLine := sizeLine_eq.symm
  have hl := hf.names
  simp! [Proc.enc]
  refine ⟨p.need, rfl, hf, fun M1 k1 => ?_⟩
  simp! []
  intro b hb
  refine lc_pure D.str D.str (fun x => !decide (x ∈ p.ps)) (names p.need) hb (fun M2 k2 => trivial) (by omega) (fun x hx M2 N sk k2 hy hn => ?_) fun M2 k2 e => ?_
  · simp! [notIn_tupS]
    refine bif_of (fun z => ?_) fun z => ?_
    · simp! []
      exact hy z _ Keep.refl
    · exact hn z _ Keep.refl
  · simp! [e]
    exact h M2 (k1.trans k2)
end K04

set_option maxHeartbeats 4000000
namespace K04
open PySem PySem.Spec PyProof.Rows L2 PL SX
variable {P : Program} {w : World} {K : PySem.W.Frag} {mg : Str → Option Value} {base : Heap} {C_CellchainsError C_BadProgram C_TooLarge C_Checker : Addr}
local macro_rules | `(tactic| simp! [$ls,*]) => `(tactic| simp only [s_fld, s_fldK, s_insAt, s_optD, s_obAt, s_fput, s_fputK1, s_fputK2, s_faug, s_faugK1, s_faugK2, s_faugK3, s_meth, s_methK1, s_methK2, s_make, s_makeK, s_makeK2, s_dead, s_tryN, noX_nx, noX_rt, noX_bk, noX_ct, mSplit, opMulS, s_enum, s_enumK, s_sortBy, s_sortByK, look_nil, look_cons, putFD_nil, putFD_cons, List.append_nil, to_nx, to_rt, to_bk, to_ct, to_ex, lp_nx, lp_rt, lp_bk, lp_ct, lp_ex, ret_nx, ret_rt, ret_ex, s_exK, s_bif1, s_bif0, s_optB, s_optE, s_nxD, s_ifK, s_asgN, s_asgT, s_asgL, b_nil, b_nm, b_tp, s_next, s_seq, s_drop, s_ret, s_retN, s_ifS, s_asg, s_brk, s_cont, s_put, s_put1, s_put2, s_put3, s_aug, s_augV, s_augK, s_augK2, s_bin, s_bin1, s_bin2, s_var, s_varK, s_C, s_cb, s_cbK, s_call, s_callK, s_m, s_m1, s_m2, s_nil, s_cons, s_cons1, s_cons2, s_tup, s_tupK, s_lst, s_lstK, s_truth, s_trK, s_tK, s_eK, s_cK, s_and, s_andK, s_or, s_orK, s_not, s_notK, s_ife, s_ifeK, s_andV, s_orV, s_andvK, s_orvK, s_andvK2, s_orvK2, s_notV, s_notvK, s_blK, s_neg, s_negK, s_sl, s_sl1, s_sl2, s_sl3, s_noPart, s_part, s_partK, s_rev, s_revK, s_for, s_forK, s_lc, s_lcK, s_yes, s_walk, s_walkT, s_walkS, s_walkA, s_walkL, s_walkR, s_rng1, s_rng2, s_rng1K, s_rng2K, s_callL, s_callLK, s_callLO, s_clK, s_raise, r_val, r_new, r_put, s_whK, s_lcY, s_lcT, s_lcE, s_cg, s_cgK, s_rng3, s_rng3K, s_lcB, s_lcS, wipeD, Pat.bind, seqOf, rg, s_dict0, s_sortSet, s_sortSetK, q_is_tuple, q_is_str, q_is_int, q_is_bool, q_is_list, q_isR, ofS_inj, String.reduceEq, q_eqI, q_neI, q_eqS, q_neS, decide_true, decide_false, Int.reduceEq, reduceCtorEq, i_NoneType_tuple, i_NoneType_str, i_NoneType_int, i_NoneType_bool, i_NoneType_list, i_bool_tuple, i_bool_str, i_bool_int, i_bool_bool, i_bool_list, i_int_tuple, i_int_str, i_int_int, i_int_bool, i_int_list, i_str_tuple, i_str_str, i_str_int, i_str_bool, i_str_list, i_tuple_tuple, i_tuple_str, i_tuple_int, i_tuple_bool, i_tuple_list, i_list_tuple, i_list_str, i_list_int, i_list_bool, i_list_list, i_dict_tuple, i_dict_str, i_dict_int, i_dict_bool, i_dict_list, tyN, startD, mupd_same, mupd_ne, ne_eq, not_false_eq_true, List.map_cons, List.map_nil, List.length_cons, List.length_nil, List.replicate_succ, List.replicate_zero, Nat.zero_add, Nat.reduceAdd, Nat.reduceSub, Int.cast_ofNat_Int, List.cons_append, List.nil_append, List.getElem?_cons_zero, List.getElem?_cons_succ, List.set_cons_zero, List.set_cons_succ, opIx, atI_cons, ixN, opPut, opAdd, opSub, opMul, opFdiv, opMod, opPow, opLt, opLe, opGt, opGe, opIs, opIsNot, D.isNon, truth, bLen, bAbs, bInt, bTuple, bList, isTy, mAppend, mExtend, mPop, Int.reduceLE, Int.reduceLT, Int.reduceToNat, Int.reduceNeg, Int.reduceNe, Option.bind_some, if_true, if_false, ite_true, ite_false, true_and, and_true, Bool.not_true, Bool.not_false, opIadd, Nat.reduceLT, Nat.reduceLeDiff, Int.ofNat_lt, s_lc2, s_lc2J, s_lc2B, s_lc2T, s_lc2E, s_raiseF, s_raiseFK, s_tryF, s_xf, s_xfK, s_xfAt, s_lenSet, s_lenSetK, opMulT, mInsert, s_dpNil, s_dpCons, s_dpK1, s_dpK2, s_dpK3, s_disp, s_dispK, s_optKV, kvOf, s_dc, s_dcK, s_keys, s_lockK, s_sortIt, mGet, mDPop, dgetR, bDictC, bTupC, opEqD, opNeD, eqDR, D.key, merge_one, optKV, id, opEqL, opNeL, eqLR, $ls,*])
theorem look_putD {κ : Type} [DecidableEq κ] {kvs : List (κ × D)} {k k' : κ} {d : D} : look (putD kvs k d) k' = if k = k' then some d else look kvs k' := by
  unfold putD
  by_cases h : (kvs.any fun kv => decide (kv.1 = k)) = true
  · rw [if_pos h]
    induction kvs with
    | nil => simp at h
    | cons kv r ih =>
      rw [List.map_cons]
      simp only [look]
      by_cases e : kv.1 = k
      · rw [if_pos e]
        by_cases e2 : k = k'
        · rw [if_pos (by rw [e, e2]), if_pos e2]
        · rw [if_neg (by rw [e]; exact e2), if_neg e2, if_neg (by rw [e]; exact e2)]
          by_cases h2 : (r.any fun kv => decide (kv.1 = k)) = true
          · rw [ih h2, if_neg e2]
          · have : (r.map fun kv => if kv.1 = k then (kv.1, d) else kv) = r := by
              rw [List.map_congr_left (g := id), List.map_id]
              intro z hz
              refine if_neg fun ez => h2 ?_
              rw [List.any_eq_true]
              exact ⟨z, hz, by simpa using ez⟩
            rw [this]
      · rw [if_neg e]
        have h2 : (r.any fun kv => decide (kv.1 = k)) = true := by simpa [e] using h
        rw [ih h2]
        by_cases e3 : kv.1 = k'
        · rw [if_pos e3, if_pos e3, if_neg (fun z => e (by rw [e3, z]))]
        · rw [if_neg e3, if_neg e3]
  · rw [if_neg h]
    induction kvs with
    | nil => simp [look]
    | cons kv r ih =>
      have h2 : ¬ kv.1 = k ∧ ¬ (r.any fun kv => decide (kv.1 = k)) = true := by simpa using h
      rw [List.cons_append]
      simp only [look]
      rw [ih h2.2]
      by_cases e3 : kv.1 = k'
      · rw [if_pos e3, if_pos e3, if_neg (fun z => h2.1 (by rw [e3, z]))]
      · rw [if_neg e3, if_neg e3]
theorem snoc_ind {α : Type} {P : List α → Prop} (h0 : P []) (h1 : ∀ l e, P l → P (l ++ [e])) (l : List α) : P l := by
  rw [← List.reverse_reverse l]
  induction l.reverse with
  | nil => exact h0
  | cons x r ih => rw [List.reverse_cons]; exact h1 _ _ ih
abbrev Cnt := List (Str × Nat)
def cnt (l : Cnt) (x : Str) : Option Nat := l.foldl (fun o e => if e.1 = x then some e.2 else o) none
def tab (l : Cnt) : List (Key × D) := l.foldl (fun kvs e => putD kvs (.inr e.1) (.int e.2)) []
theorem tab_app (l : Cnt) (e : Str × Nat) : tab (l ++ [e]) = putD (tab l) (.inr e.1) (.int e.2) := by simp [tab]
theorem cnt_app (l : Cnt) (e : Str × Nat) (x : Str) : cnt (l ++ [e]) x = if e.1 = x then some e.2 else cnt l x := by simp [cnt]
theorem tab_len : ∀ l : Cnt, (tab l).length ≤ l.length := fun l => by
  induction l using snoc_ind with
  | h0 => simp [tab]
  | h1 l e ih =>
    rw [tab_app, List.length_append]
    have := putD_len (tab l) (.inr e.1) (.int e.2)
    simp only [List.length_cons, List.length_nil]
    omega
theorem look_tab (l : Cnt) (x : Str) : look (tab l) (.inr x) = (cnt l x).map fun n : Nat => D.int (n : Int) := by
  induction l using snoc_ind with
  | h0 => simp [tab, cnt, look]
  | h1 l e ih =>
    rw [tab_app, cnt_app, look_putD, ih]
    by_cases h : e.1 = x
    · rw [if_pos (by rw [h]), if_pos h]; rfl
    · rw [if_neg (fun z => h (Sum.inr.inj z)), if_neg h]
def heads (ps : List Proc) : Cnt := ps.map fun p => (p.nm, p.ps.length)
def CkAt (C : Addr) (M : Mem) (c : Addr) (ps : List Proc) : Prop := ∃ d, M c = some (.ins C [("source", .tup (ps.map Proc.enc)), ("many", .ob d)]) ∧ M d = some (.dk (tab (heads ps)))
theorem CkAt.keep {C : Addr} {M M' : Mem} {c : Addr} {ps : List Proc} (h : CkAt C M c ps) (k : Keep [] M M') : CkAt C M' c ps := by
  obtain ⟨d, h1, h2⟩ := h
  exact ⟨d, k _ _ h1 (by simp), k _ _ h2 (by simp)⟩
def sp_ckinit (C : Addr) : DSp := fun ds M Q E => ∃ (c : Addr) (ps : List Proc), ds = [.ob c, .tup (ps.map Proc.enc)] ∧ M c = some (.ins C []) ∧ ps.length ≤ 1000 ∧ (∀ p ∈ ps, p.ps.length < 1000) ∧ ∀ M', CkAt C M' c ps → Keep [c] M M' → Q .non M'
theorem mono_ckinit {C : Addr} : MonoSp (sp_ckinit C) := by
  rintro ds M Q Q' E E' hQ hE ⟨c, ps, h1, h2, h3, h4, h⟩
  exact ⟨c, ps, h1, h2, h3, h4, fun M' z1 z2 => hQ _ _ (h M' z1 z2)⟩
theorem fn_ckinit (S0 : KSrc K mg "Checker" C_Checker "Checker.__init__" s_Checker___init__ ["self", "source"]) (G : GF K mg C_CellchainsError C_BadProgram C_TooLarge C_Checker) : KFn P w K mg base 1 "Checker" C_Checker (sp_ckinit C_Checker) := by
  refine S0.fn mono_ckinit fun g fd F => def_ok F sc_Checker___init__ (fun ds M Q E h => by obtain ⟨c, ps, rfl, _⟩ := h; rfl) ⟨_, fun cdv A outer s H E hr => have hu := hr.u200
    (xss_cons (xs_fput G.T_Checker (xe_var 1) (xe_var 0))
 (xss_cons (xs_fput G.T_Checker xe_dict0 (xe_var 0))
 (xss_one (xs_for (p := .nm 2) bx_passes rfl (xi_walk (xe_var 1)) (xg_name 2 sc_Checker___init__.nd)
 (xss_one (xs_put hu (xe_callB c_len (by rfl) G.len (by decide +kernel) (xa_cons (xe_ix hu (xe_var 2) xe_int) xa_nil)) (xe_fld G.T_Checker (xe_var 0)) (xe_ix hu (xe_var 2) xe_int))))))), fun ds M Q E h => ?_⟩
  obtain ⟨c, ps, rfl, hc, hl, hp, h⟩ := h
  have sz : (16777216 : Nat) = sizeLine := sizeLine_eq.symm
  simp! [hc]
  intro d hd
  have cd : c ≠ d := fun e => by rw [e, mupd_same] at hd; cases hd
  simp! [mupd_ne cd]
  refine loop_inv Proc.enc (fun r env M' => ∃ done d2, ps = done ++ r ∧ env = [some (.ob c), some (.tup (ps.map Proc.enc)), d2] ∧ M' c = some (.ins C_Checker [("source", .tup (ps.map Proc.enc)), ("many", .ob d)]) ∧ M' d = some (.dk (tab (heads done))) ∧ Keep [d, c] M M') (fun _ _ _ _ => trivial) ?_ ?_ ps _ _
    ⟨[], none, rfl, rfl, by simp [mupd_same], by rw [mupd_ne cd.symm, mupd_same]; rfl, ?_⟩
  rotate_left 2
  · refine Keep.trans (M' := mupd (mupd M c (.ins C_Checker [("source", .tup (ps.map Proc.enc))])) d (.dk [])) (Keep.trans (Keep.put (by simp)) (Keep.new hd)) (Keep.put (by simp))
  · rintro x r env M' N ⟨done, d2, e1, rfl, h1, h2, k⟩ hN
    have hx := hp x (by rw [e1]; simp)
    have l1 := tab_len (heads done)
    have l2 : (heads done).length ≤ 1000 := by rw [heads, List.length_map]; rw [e1, List.length_append] at hl; omega
    simp! [h1, h2, Proc.enc, D.key, List.length_map]
    refine ⟨by omega, hN _ _ ?_⟩
    refine ⟨done ++ [x], _, by rw [e1]; simp, rfl, by rw [mupd_ne cd]; exact h1, ?_, k.trans (Keep.put (by simp))⟩
    rw [mupd_same, show heads (done ++ [x]) = heads done ++ [(x.nm, x.ps.length)] by simp [heads], tab_app]
  · rintro env M' ⟨done, d2, e1, rfl, h1, h2, k⟩
    simp! []
    rw [List.append_nil] at e1
    subst e1
    exact h _ ⟨d, h1, h2⟩ (k.drop (by simpa [mupd_ne cd.symm] using hd))

/-! the rules -/
def isCall (l : Cnt) (n : Str) (as : List Str) : Bool := decide (cnt l n = some as.length) && decide as.Nodup
def sp_is_call (C : Addr) : DSp := fun ds M Q E => ∃ (c : Addr) (ps : List Proc) (n : Str) (as : List Str), ds = [.ob c, (St.call n as).enc] ∧ CkAt C M c ps ∧ as.length < 1000 ∧ ∀ M', Keep [] M M' → Q (.bl (isCall (heads ps) n as)) M'
theorem mono_is_call {C : Addr} : MonoSp (sp_is_call C) := by
  rintro ds M Q Q' E E' hQ hE ⟨c, ps, n, as, h1, h2, h3, h⟩
  exact ⟨c, ps, n, as, h1, h2, h3, fun M' z1 => hQ _ _ (h M' z1)⟩
theorem fn_is_call (S0 : MSrc K C_Checker "is_call" "Checker.is_call" s_Checker_is_call ["self", "statement"] []) (G : GF K mg C_CellchainsError C_BadProgram C_TooLarge C_Checker) : MFn P w K mg base 1 C_Checker "is_call" (sp_is_call C_Checker) [] := by
  refine S0.fn mono_is_call fun g fd F => def_ok F sc_Checker_is_call (fun ds M Q E h => by obtain ⟨c, ps, n, as, rfl, _⟩ := h; rfl) ⟨_, fun cdv A outer s H E hr => have hu := hr.u200
    (xss_cons (xs_asg (p := .tp [.nm 2, .nm 3]) (xe_sl (xe_var 1) (xo_some xe_int) xo_none) (xg_tup rfl (xgs_cons (xg_name 2 sc_Checker_is_call.nd) (xgs_cons (xg_name 3 sc_Checker_is_call.nd) xgs_nil))))
 (xss_one (xs_ret (xe_and (xe_cmp (x_eq hu) (xe_bm PySem.F.plainAttrs_dict PySem.F.slot_dict_get PySem.F.type_dict_get (m_get hu) (xe_fld G.T_Checker (xe_var 0)) (xa_cons (xe_var 2) (xa_cons (xe_neg xe_int) xa_nil))) (xe_callB c_len (by rfl) G.len (by decide +kernel) (xa_cons (xe_var 3) xa_nil)) (nomark _)) (xe_one (xe_cmp (x_eq hu) (xe_lenSet rfl (by rfl) G.len (by rfl) G.set (xe_var 3)) (xe_callB c_len (by rfl) G.len (by decide +kernel) (xa_cons (xe_var 3) xa_nil)) (nomark _))))))), fun ds M Q E h => ?_⟩
  obtain ⟨c, ps, n, as, rfl, ⟨d, h1, h2⟩, hl, h⟩ := h
  have sz : (16777216 : Nat) = sizeLine := sizeLine_eq.symm
  simp! [St.enc, opSl, h1, h2, cut_tail, D.key, look_tab]
  have e := h M Keep.refl
  unfold isCall at e
  cases hc : cnt (heads ps) n with
  | none =>
    rw [hc] at e
    simp! [Option.map_none, Option.getD_none, List.length_map]
    exact e
  | some m =>
    rw [hc] at e
    simp! [Option.map_some, Option.getD_some, List.length_map]
    refine bif_dec (fun z => ?_) fun z => ?_
    · have z : m = as.length := by omega
      subst z
      simp! []
      refine ⟨as, rfl, hl, ?_⟩
      simp! [List.length_map]
      rw [show decide (((firsts [] as).length : Int) = (as.length : Int)) = decide as.Nodup from decide_eq_decide.mpr (by rw [← firsts_eq]; omega)]
      simpa using e
    · have z2 : (some m = some as.length) = False := eq_false (fun q => z (by cases q; rfl))
      simp! []
      rw [decide_eq_false z]
      simpa [z2] using e
end K04

set_option maxHeartbeats 4000000
namespace K04
open PySem PySem.Spec PyProof.Rows L2 PL SX
variable {P : Program} {w : World} {K : PySem.W.Frag} {mg : Str → Option Value} {base : Heap} {C_CellchainsError C_BadProgram C_TooLarge C_Checker : Addr}
local macro_rules | `(tactic| simp! [$ls,*]) => `(tactic| simp only [s_fld, s_fldK, s_insAt, s_optD, s_obAt, s_fput, s_fputK1, s_fputK2, s_faug, s_faugK1, s_faugK2, s_faugK3, s_meth, s_methK1, s_methK2, s_make, s_makeK, s_makeK2, s_dead, s_tryN, noX_nx, noX_rt, noX_bk, noX_ct, mSplit, opMulS, s_enum, s_enumK, s_sortBy, s_sortByK, look_nil, look_cons, putFD_nil, putFD_cons, List.append_nil, to_nx, to_rt, to_bk, to_ct, to_ex, lp_nx, lp_rt, lp_bk, lp_ct, lp_ex, ret_nx, ret_rt, ret_ex, s_exK, s_bif1, s_bif0, s_optB, s_optE, s_nxD, s_ifK, s_asgN, s_asgT, s_asgL, b_nil, b_nm, b_tp, s_next, s_seq, s_drop, s_ret, s_retN, s_ifS, s_asg, s_brk, s_cont, s_put, s_put1, s_put2, s_put3, s_aug, s_augV, s_augK, s_augK2, s_bin, s_bin1, s_bin2, s_var, s_varK, s_C, s_cb, s_cbK, s_call, s_callK, s_m, s_m1, s_m2, s_nil, s_cons, s_cons1, s_cons2, s_tup, s_tupK, s_lst, s_lstK, s_truth, s_trK, s_tK, s_eK, s_cK, s_and, s_andK, s_or, s_orK, s_not, s_notK, s_ife, s_ifeK, s_andV, s_orV, s_andvK, s_orvK, s_andvK2, s_orvK2, s_notV, s_notvK, s_blK, s_neg, s_negK, s_sl, s_sl1, s_sl2, s_sl3, s_noPart, s_part, s_partK, s_rev, s_revK, s_for, s_forK, s_lc, s_lcK, s_yes, s_walk, s_walkT, s_walkS, s_walkA, s_walkL, s_walkR, s_rng1, s_rng2, s_rng1K, s_rng2K, s_callL, s_callLK, s_callLO, s_clK, s_raise, r_val, r_new, r_put, s_whK, s_lcY, s_lcT, s_lcE, s_cg, s_cgK, s_rng3, s_rng3K, s_lcB, s_lcS, wipeD, Pat.bind, seqOf, rg, s_dict0, s_sortSet, s_sortSetK, q_is_tuple, q_is_str, q_is_int, q_is_bool, q_is_list, q_isR, ofS_inj, String.reduceEq, q_eqI, q_neI, q_eqS, q_neS, decide_true, decide_false, Int.reduceEq, reduceCtorEq, i_NoneType_tuple, i_NoneType_str, i_NoneType_int, i_NoneType_bool, i_NoneType_list, i_bool_tuple, i_bool_str, i_bool_int, i_bool_bool, i_bool_list, i_int_tuple, i_int_str, i_int_int, i_int_bool, i_int_list, i_str_tuple, i_str_str, i_str_int, i_str_bool, i_str_list, i_tuple_tuple, i_tuple_str, i_tuple_int, i_tuple_bool, i_tuple_list, i_list_tuple, i_list_str, i_list_int, i_list_bool, i_list_list, i_dict_tuple, i_dict_str, i_dict_int, i_dict_bool, i_dict_list, tyN, startD, mupd_same, mupd_ne, ne_eq, not_false_eq_true, List.map_cons, List.map_nil, List.length_cons, List.length_nil, List.replicate_succ, List.replicate_zero, Nat.zero_add, Nat.reduceAdd, Nat.reduceSub, Int.cast_ofNat_Int, List.cons_append, List.nil_append, List.getElem?_cons_zero, List.getElem?_cons_succ, List.set_cons_zero, List.set_cons_succ, opIx, atI_cons, ixN, opPut, opAdd, opSub, opMul, opFdiv, opMod, opPow, opLt, opLe, opGt, opGe, opIs, opIsNot, D.isNon, truth, bLen, bAbs, bInt, bTuple, bList, isTy, mAppend, mExtend, mPop, Int.reduceLE, Int.reduceLT, Int.reduceToNat, Int.reduceNeg, Int.reduceNe, Option.bind_some, if_true, if_false, ite_true, ite_false, true_and, and_true, Bool.not_true, Bool.not_false, opIadd, Nat.reduceLT, Nat.reduceLeDiff, Int.ofNat_lt, s_lc2, s_lc2J, s_lc2B, s_lc2T, s_lc2E, s_raiseF, s_raiseFK, s_tryF, s_xf, s_xfK, s_xfAt, s_lenSet, s_lenSetK, opMulT, mInsert, s_dpNil, s_dpCons, s_dpK1, s_dpK2, s_dpK3, s_disp, s_dispK, s_optKV, kvOf, s_dc, s_dcK, s_keys, s_lockK, s_sortIt, mGet, mDPop, dgetR, bDictC, bTupC, opEqD, opNeD, eqDR, D.key, merge_one, optKV, id, opEqL, opNeL, eqLR, $ls,*])
def callOk (l : Cnt) : St → Bool
  | .call n as => isCall l n as
  | _ => true
def stOk (l : Cnt) (kn : List Str) (s : St) : Bool := (s.places.all fun x => decide (x ∈ kn ++ [nil_])) && callOk l s
def ensOk (p : Proc) : Bool := p.ens.all fun e => (names e).all fun x => decide (x ∈ p.known ++ ghosts p)
def headOk (p : Proc) : Bool := decide p.known.Nodup && !((ghosts p).any fun x => decide (x ∈ p.ls))
def isRight (l : Cnt) (p : Proc) : Bool := headOk p && ensOk p && (flat p.body).all (stOk l p.known)
structure Fit (n : Nat) (p : Proc) : Prop where
  need : FewN p.need
  ens : ∀ e ∈ p.ens, FewN e
  kn : p.known.length < 900
  few : p.ens.length < 1000
  fl : (flat p.body).length < 1000000
  dep : depL p.body < n
  pl : ∀ s ∈ flat p.body, s.places.length < 1000
  nd : p.need.length < 1000 ∧ ∀ x ∈ p.need, x.length < 1000
  ed : ∀ e ∈ p.ens, e.length < 1000 ∧ ∀ x ∈ e, x.length < 1000
theorem Fit.gh {n : Nat} {p : Proc} (h : Fit n p) : (ghosts p).length < 64 := Nat.lt_of_le_of_lt (List.length_filter_le _ _) h.need.names
def ensB (p : Proc) (es : List Pic) : List Bool := (es.map fun e => (names e).map fun x => decide (x ∈ p.known ++ ghosts p)).flatten
theorem ensB_app {p : Proc} {es : List Pic} {e : Pic} : ensB p (es ++ [e]) = ensB p es ++ (names e).map fun x => decide (x ∈ p.known ++ ghosts p) := by simp [ensB]
theorem ensB_all {p : Proc} : (ensB p p.ens).all id = ensOk p := by
  unfold ensB ensOk
  induction p.ens with
  | nil => rfl
  | cons e r ih =>
    rw [List.map_cons, List.flatten_cons, List.all_append, ih, List.all_cons, List.all_map]
    rfl
theorem ensB_len {n : Nat} {p : Proc} (h : Fit n p) : ∀ es : List Pic, (∀ e ∈ es, e ∈ p.ens) → (ensB p es).length ≤ 64 * es.length
  | [], _ => by simp [ensB]
  | e :: r, he => by
    have h1 := ensB_len h r fun x hx => he x (List.mem_cons_of_mem _ hx)
    have h2 := (h.ens e (he e List.mem_cons_self)).names
    have : (ensB p (e :: r)).length = (names e).length + (ensB p r).length := by simp [ensB]
    rw [this, List.length_cons]
    omega
def sp_is_right (n : Nat) (C : Addr) : DSp := fun ds M Q E => ∃ (c : Addr) (ps : List Proc) (p : Proc), ds = [.ob c, p.enc] ∧ CkAt C M c ps ∧ Fit n p ∧ ∀ M', Keep [] M M' → Q (.bl (isRight (heads ps) p)) M'
theorem mono_is_right {n : Nat} {C : Addr} : MonoSp (sp_is_right n C) := by
  rintro ds M Q Q' E E' hQ hE ⟨c, ps, p, h1, h2, h3, h⟩
  exact ⟨c, ps, p, h1, h2, h3, fun M' z1 => hQ _ _ (h M' z1)⟩
theorem fn_is_right {n : Nat} (S0 : MSrc K C_Checker "is_right" "Checker.is_right" s_Checker_is_right ["self", "proc"] []) (G : GF K mg C_CellchainsError C_BadProgram C_TooLarge C_Checker) (F_names_of : Fn P w K mg base 1 "names_of" sp_names_of []) (F_ghosts_of : Fn P w K mg base 2 "ghosts_of" sp_ghosts_of []) (F_statements_in : Fn P w K mg base (n + 3) "statements_in" (sp_sin n) []) (F_places_in : Fn P w K mg base 1 "places_in" sp_places_in []) (M_Checker_is_call : MFn P w K mg base 1 C_Checker "is_call" (sp_is_call C_Checker) []) :
    MFn P w K mg base (n + 4) C_Checker "is_right" (sp_is_right n C_Checker) [] := by
  refine S0.fn mono_is_right fun g fd F => def_ok F sc_Checker_is_right (fun ds M Q E h => by obtain ⟨c, ps, p, rfl, _⟩ := h; rfl) ⟨_, fun cdv A outer s H E hr => have hu := hr.u200
    (xss_cons (xs_asg (p := .tp [.nm 2, .nm 3, .nm 4, .nm 5, .nm 6, .nm 7]) (xe_var 1) (xg_tup rfl (xgs_cons (xg_name 2 sc_Checker_is_right.nd) (xgs_cons (xg_name 3 sc_Checker_is_right.nd) (xgs_cons (xg_name 4 sc_Checker_is_right.nd) (xgs_cons (xg_name 5 sc_Checker_is_right.nd) (xgs_cons (xg_name 6 sc_Checker_is_right.nd) (xgs_cons (xg_name 7 sc_Checker_is_right.nd) xgs_nil))))))))
 (xss_cons (xs_set 8 sc_Checker_is_right.nd (xe_bin x_add (xe_var 3) (xe_var 4)))
 (xss_cons (xs_if (xt_wh (xw_or (xt_cmp x_lt (xe_lenSet rfl (by rfl) G.len (by rfl) G.set (xe_var 8)) (xe_callB c_len (by rfl) G.len (by decide +kernel) (xa_cons (xe_var 8) xa_nil)) (nomark _) bl_lt) (xw_or1 (xt_val (xe_callB (c_any rfl) (by rfl) G.any (by decide +kernel) (xa_cons (xe_lc (own := [("one", 11)]) (p := .nm 11) rfl sc_Checker_is_right.nd (xi_walk (xe_call F_ghosts_of (hr.mono (by first | decide | omega)) bx_takes (by rfl) (xa_cons (xe_var 1) xa_nil))) (blkOk_by (by first | (show blkC ["self", "proc", "name", "parameters", "places", "need", "ensures", "body", "known", "allowed", "statement", "one", "picture"] (defScope s_Checker_is_right) _ _ = true; decide +kernel) | kernel_rfl | rfl)) (fun _ _ _ _ _ => (xg_name 11 sc_Checker_is_right.nd)) (fun _ _ _ _ _ => xts_nil) (fun _ _ _ _ _ => (xe_cmp (x_in hu) (xe_var 11) (xe_var 4) rfl))) xa_nil))))))
 (xss_one (xs_ret xe_bl))
 xss_nil)
 (xss_cons (xs_set 9 sc_Checker_is_right.nd (xe_bin x_add (xe_var 8) (xe_call F_ghosts_of (hr.mono (by first | decide | omega)) bx_takes (by rfl) (xa_cons (xe_var 1) xa_nil))))
 (xss_cons (xs_if (xt_not (xt_val (xe_callB (c_all rfl) (by rfl) G.all (by decide +kernel) (xa_cons (xe_lc2 (own := [("picture", 12), ("one", 11)]) (p := .nm 12) (p1 := .nm 11) (vs1 := [11]) rfl sc_Checker_is_right.nd (xi_walk (xe_var 6)) (blkOk_by (by first | (show blkC ["self", "proc", "name", "parameters", "places", "need", "ensures", "body", "known", "allowed", "statement", "one", "picture"] (defScope s_Checker_is_right) _ _ = true; decide +kernel) | kernel_rfl | rfl)) (fun _ _ _ _ _ => (xg_name 12 sc_Checker_is_right.nd)) (fun _ _ _ _ _ => xts_nil) (fun _ _ _ _ _ => (xi_walk (xe_call F_names_of (hr.mono (by first | decide | omega)) takes0 (by rfl) (xa_cons (xe_var 12) xa_nil)))) (fun _ _ _ _ _ => (xg_name 11 sc_Checker_is_right.nd)) (fun _ _ _ _ _ => xts_nil) (fun _ _ _ _ _ => (xe_cmp (x_in hu) (xe_var 11) (xe_var 9) rfl))) xa_nil))))
 (xss_one (xs_ret xe_bl))
 xss_nil)
 (xss_cons (xs_for (p := .nm 10) bx_passes rfl (xi_walk (xe_call F_statements_in (hr.mono (by first | decide | omega)) bx_takes (by rfl) (xa_cons (xe_var 7) xa_nil))) (xg_name 10 sc_Checker_is_right.nd)
 (xss_cons (xs_if (xt_not (xt_val (xe_callB (c_all rfl) (by rfl) G.all (by decide +kernel) (xa_cons (xe_lc (own := [("one", 11)]) (p := .nm 11) rfl sc_Checker_is_right.nd (xi_walk (xe_call F_places_in (hr.mono (by first | decide | omega)) bx_takes (by rfl) (xa_cons (xe_var 10) xa_nil))) (blkOk_by (by first | (show blkC ["self", "proc", "name", "parameters", "places", "need", "ensures", "body", "known", "allowed", "statement", "one", "picture"] (defScope s_Checker_is_right) _ _ = true; decide +kernel) | kernel_rfl | rfl)) (fun _ _ _ _ _ => (xg_name 11 sc_Checker_is_right.nd)) (fun _ _ _ _ _ => xts_nil) (fun _ _ _ _ _ => (xe_cmp (x_in hu) (xe_var 11) (xe_bin x_add (xe_var 8) (xe_tup (n := 1) (xa_cons (xe_globE (by rfl) G.NIL) xa_nil))) rfl))) xa_nil))))
 (xss_one (xs_ret xe_bl))
 xss_nil)
 (xss_one (xs_if (xt_wh (xw_and (xt_cmp (x_eq hu) (xe_ix hu (xe_var 10) xe_int) xe_str (nomark _) bl_eq) (xw_and1 (xt_not (xt_val (xe_meth M_Checker_is_call G.T_Checker (hr.mono (by first | decide | omega)) bx_takes (xe_var 0) (xa_cons (xe_var 10) xa_nil)))))))
 (xss_one (xs_ret xe_bl))
 xss_nil))))
 (xss_one (xs_ret xe_bl)))))))), fun ds M Q E h => ?_⟩
  obtain ⟨c, ps, p, rfl, ck, hp, h⟩ := h
  have sz : (16777216 : Nat) = sizeLine := sizeLine_eq.symm
  have kn := hp.kn
  unfold Proc.known at kn
  rw [List.length_append] at kn
  simp! [Proc.enc, List.length_map]
  have fold1 : p.ps.map D.str ++ p.ls.map D.str = p.known.map D.str := by unfold Proc.known; rw [List.map_append]
  rw [fold1]
  refine ⟨by omega, p.known, rfl, by have := hp.kn; omega, ?_⟩
  simp! [List.length_map]
  have e1 : decide ((firsts [] p.known).length < p.known.length) = !decide p.known.Nodup := by
    rw [← decide_not]
    exact decide_eq_decide.mpr firsts_lt
  rw [e1]
  refine bif_of (fun z => ?_) fun z => ?_
  · have z2 : ¬ p.known.Nodup := by simpa using z
    simp! []
    have e := h M Keep.refl
    have e2 : isRight (heads ps) p = false := by
      unfold isRight headOk
      rw [decide_eq_false z2]; rfl
    rw [e2] at e
    exact e
  have nd : p.known.Nodup := by simpa using z
  simp! []
  refine ⟨p, rfl, hp.need, fun M1 k1 => ?_⟩
  simp! []
  intro l1 hl1
  have gh := hp.gh
  refine lc_pure D.str (fun x => D.bl (decide (x ∈ p.ls))) (fun _ => true) (ghosts p) hl1 (fun _ _ => trivial) (by omega) (fun x hx M2 N sk k2 hy hn => ?_) fun M2 k2 e => ?_
  · simp! [in_tupS]
    exact hy rfl _ Keep.refl
  rw [filter_tt] at e
  have k12 : Keep [] M M2 := k1.trans k2
  refine run_any e ?_
  simp! []
  refine bif_of (fun z => ?_) fun z => ?_
  · simp! []
    have e := h M2 k12
    have e2 : isRight (heads ps) p = false := by
      unfold isRight headOk
      rw [z, decide_eq_true nd]; rfl
    rw [e2] at e
    exact e
  have ho : headOk p = true := by unfold headOk; rw [z, decide_eq_true nd]; rfl
  simp! []
  refine ⟨p, rfl, hp.need, fun M3 k3 => ?_⟩
  simp! [List.length_map]
  have fold2 : p.known.map D.str ++ (ghosts p).map D.str = (p.known ++ ghosts p).map D.str := by rw [List.map_append]
  rw [fold2]
  refine ⟨by have := hp.kn; omega, fun l2 hl2 => ?_⟩
  have k13 := k12.trans k3
  have few := hp.few
  refine lc2_go encPic (fun r acc M' => ∃ done, p.ens = done ++ r ∧ acc = (ensB p done).map D.bl ∧ M' l2 = some (.lst acc) ∧ Keep [l2] M3 M') (fun r acc M' ⟨_, _, _, z, _⟩ => ⟨trivial, z⟩) ?_ ?_ p.ens [] _ ⟨[], rfl, rfl, mupd_same, Keep.new hl2⟩
  · rintro x r acc M4 N ⟨done, e1, rfl, h4, k4⟩ hN
    have hx : x ∈ p.ens := by rw [e1]; simp
    have fx := hp.ens x hx
    have nl := fx.names
    simp! []
    refine ⟨x, rfl, fx, fun M5 k5 => ?_⟩
    simp! []
    have bl := ensB_len hp done (fun y hy => by rw [e1]; exact List.mem_append_left _ hy)
    have dl : done.length < 1000 := by rw [e1, List.length_append] at few; omega
    refine lc2_in D.str (fun r1 acc M' => ∃ d1, names x = d1 ++ r1 ∧ acc = (ensB p done ++ d1.map fun y => decide (y ∈ p.known ++ ghosts p)).map D.bl ∧ M' l2 = some (.lst acc) ∧ Keep [l2] M3 M') (fun _ _ _ _ => trivial) ?_ ?_ (names x) _ _ ⟨[], rfl, by simp, k5 _ _ h4 (by simp), k4.trans (k5.weaken (by simp))⟩
    · rintro y r1 acc1 M6 N1 ⟨d1, e2, rfl, h6, k6⟩ hN1
      have dl1 : d1.length < 64 := by rw [e2, List.length_append] at nl; omega
      simp! [in_tupS]
      refine ⟨h6, by simp only [List.length_map, List.length_append]; omega, hN1 _ _ ⟨d1 ++ [y], by rw [e2]; simp, by simp, mupd_same, k6.trans (Keep.put (by simp))⟩⟩
    · rintro acc1 M6 ⟨d1, e2, rfl, h6, k6⟩
      rw [List.append_nil] at e2
      refine hN _ _ ⟨done ++ [x], by rw [e1]; simp, ?_, h6, k6⟩
      rw [ensB_app, e2]
  rintro acc M4 ⟨done, e1, rfl, h4, k4⟩
  rw [List.append_nil] at e1
  have k14 : Keep [] M M4 := k13.trans (k4.drop hl2)
  simp! []
  refine run_all (xs := ensB p done) (g := id) h4 ?_
  have ee : (ensB p done).all id = ensOk p := by rw [← e1]; exact ensB_all
  rw [ee]
  simp! []
  refine bif_of (fun z => ?_) fun z => ?_
  · simp! []
    have e := h M4 k14
    have e2 : isRight (heads ps) p = false := by
      unfold isRight
      rw [ho, show ensOk p = false by simpa using z]; rfl
    rw [e2] at e
    exact e
  have eo : ensOk p = true := by simpa using z
  have fl := hp.fl
  simp! []
  refine ⟨p.body, rfl, hp.dep, fl, fun r M5 hr5 e5 k5 => ?_⟩
  simp! [e5]
  have k15 := k14.trans k5
  refine loop_inv St.enc (fun rest env M' => ∃ done d10, flat p.body = done ++ rest ∧ env = [some (.ob c), some p.enc, some (.str p.nm), some (.tup (p.ps.map D.str)), some (.tup (p.ls.map D.str)), some (encPic p.need), some (.tup (p.ens.map encPic)), some (.tup (encL p.body)), some (.tup (p.known.map D.str)), some (.tup ((p.known ++ ghosts p).map D.str)), d10, none, none] ∧
    M' r = some (.lst ((flat p.body).map St.enc)) ∧ Keep [] M M' ∧ done.all (stOk (heads ps) p.known) = true) (fun _ _ _ ⟨_, _, _, _, z, _⟩ => .inl z) ?_ ?_ (flat p.body) _ _ ⟨[], none, rfl, rfl, e5, k15, rfl⟩
  · rintro s rest env M6 N ⟨done, d10, e6, rfl, h6, k6, a6⟩ hN
    have hs : s ∈ flat p.body := by rw [e6]; simp
    have pl := hp.pl s hs
    have bad : stOk (heads ps) p.known s = false → ∀ M', Keep [] M6 M' → Q (.bl false) M' := fun q M' k' => by
      have e := h M' (k6.trans k')
      have e2 : isRight (heads ps) p = false := by
        unfold isRight
        rw [e6, List.all_append, List.all_cons, q, Bool.false_and, Bool.and_false, Bool.and_false]
      rw [e2] at e
      exact e
    have good : stOk (heads ps) p.known s = true → ∀ M', Keep [] M6 M' → N [some (.ob c), some p.enc, some (.str p.nm), some (.tup (p.ps.map D.str)), some (.tup (p.ls.map D.str)), some (encPic p.need), some (.tup (p.ens.map encPic)), some (.tup (encL p.body)), some (.tup (p.known.map D.str)), some (.tup ((p.known ++ ghosts p).map D.str)), some s.enc, none, none] M' := fun q M' k' => by
      refine hN _ _ ⟨done ++ [s], some s.enc, by rw [e6]; simp, rfl, k' _ _ h6 (by simp), k6.trans k', ?_⟩
      rw [List.all_append, a6, List.all_cons, q]; rfl
    simp! []
    refine ⟨s, rfl, pl, fun M7 k7 => ?_⟩
    simp! []
    intro l3 hl3
    refine lc_pure D.str (fun x => D.bl (decide (x ∈ p.known ++ [nil_]))) (fun _ => true) s.places hl3 (fun _ _ => trivial) (by omega) (fun x hx M8 N8 sk k8 hy hn => ?_) fun M8 k8 e8 => ?_
    · simp! [List.length_map]
      have fold3 : p.known.map D.str ++ [D.v (V.str (Str.ofString "nil"))] = (p.known ++ [nil_]).map D.str := by rw [List.map_append]; rfl
      rw [fold3]
      refine ⟨by have := hp.kn; omega, ?_⟩
      simp! [in_tupS]
      exact hy rfl _ Keep.refl
    rw [filter_tt] at e8
    have k78 := k7.trans k8
    simp! []
    refine run_all (xs := s.places) (g := fun x => decide (x ∈ p.known ++ [nil_])) e8 ?_
    simp! []
    refine bif_of (fun z => ?_) fun z => ?_
    · simp! []
      refine bad ?_ M8 k78
      unfold stOk
      rw [show (s.places.all fun x => decide (x ∈ p.known ++ [nil_])) = false by simpa using z]
      rfl
    have pz : (s.places.all fun x => decide (x ∈ p.known ++ [nil_])) = true := by simpa using z
    have so : stOk (heads ps) p.known s = callOk (heads ps) s := by unfold stOk; rw [pz]; rfl
    cases s with
    | call n as =>
      obtain ⟨d8, hc8, _⟩ := ck.keep (k6.trans k78)
      simp! [St.enc, hc8]
      refine ⟨c, ps, n, as, rfl, ck.keep (k6.trans k78), pl, fun M9 k9 => ?_⟩
      simp! []
      refine bif_of (fun z => ?_) fun z => ?_
      · simp! []
        exact bad (by rw [so]; simpa [callOk] using z) M9 (k78.trans k9)
      · simp! []
        exact good (by rw [so]; simpa [callOk] using z) M9 (k78.trans k9)
    | wh t u v b =>
      simp! [St.enc]
      exact good so M8 k78
    | ite t u v b1 b2 =>
      simp! [St.enc]
      exact good so M8 k78
    | at_ o xs =>
      simp! [St.enc, ix01, op_call]
      exact good so M8 k78
  · rintro env M6 ⟨done, d10, e6, rfl, h6, k6, a6⟩
    rw [List.append_nil] at e6
    simp! []
    have e := h M6 k6
    have e2 : isRight (heads ps) p = true := by
      unfold isRight
      rw [ho, eo, e6, a6]; rfl
    rw [e2] at e
    exact e
end K04

set_option maxHeartbeats 4000000
namespace K04
open PySem PySem.Spec PyProof.Rows L2 PL SX
variable {P : Program} {w : World} {K : PySem.W.Frag} {mg : Str → Option Value} {base : Heap} {C_CellchainsError C_BadProgram C_TooLarge C_Checker : Addr}
local macro_rules | `(tactic| simp! [$ls,*]) => `(tactic| simp only [s_fld, s_fldK, s_insAt, s_optD, s_obAt, s_fput, s_fputK1, s_fputK2, s_faug, s_faugK1, s_faugK2, s_faugK3, s_meth, s_methK1, s_methK2, s_make, s_makeK, s_makeK2, s_dead, s_tryN, noX_nx, noX_rt, noX_bk, noX_ct, mSplit, opMulS, s_enum, s_enumK, s_sortBy, s_sortByK, look_nil, look_cons, putFD_nil, putFD_cons, List.append_nil, to_nx, to_rt, to_bk, to_ct, to_ex, lp_nx, lp_rt, lp_bk, lp_ct, lp_ex, ret_nx, ret_rt, ret_ex, s_exK, s_bif1, s_bif0, s_optB, s_optE, s_nxD, s_ifK, s_asgN, s_asgT, s_asgL, b_nil, b_nm, b_tp, s_next, s_seq, s_drop, s_ret, s_retN, s_ifS, s_asg, s_brk, s_cont, s_put, s_put1, s_put2, s_put3, s_aug, s_augV, s_augK, s_augK2, s_bin, s_bin1, s_bin2, s_var, s_varK, s_C, s_cb, s_cbK, s_call, s_callK, s_m, s_m1, s_m2, s_nil, s_cons, s_cons1, s_cons2, s_tup, s_tupK, s_lst, s_lstK, s_truth, s_trK, s_tK, s_eK, s_cK, s_and, s_andK, s_or, s_orK, s_not, s_notK, s_ife, s_ifeK, s_andV, s_orV, s_andvK, s_orvK, s_andvK2, s_orvK2, s_notV, s_notvK, s_blK, s_neg, s_negK, s_sl, s_sl1, s_sl2, s_sl3, s_noPart, s_part, s_partK, s_rev, s_revK, s_for, s_forK, s_lc, s_lcK, s_yes, s_walk, s_walkT, s_walkS, s_walkA, s_walkL, s_walkR, s_rng1, s_rng2, s_rng1K, s_rng2K, s_callL, s_callLK, s_callLO, s_clK, s_raise, r_val, r_new, r_put, s_whK, s_lcY, s_lcT, s_lcE, s_cg, s_cgK, s_rng3, s_rng3K, s_lcB, s_lcS, wipeD, Pat.bind, seqOf, rg, s_dict0, s_sortSet, s_sortSetK, q_is_tuple, q_is_str, q_is_int, q_is_bool, q_is_list, q_isR, ofS_inj, String.reduceEq, q_eqI, q_neI, q_eqS, q_neS, decide_true, decide_false, Int.reduceEq, reduceCtorEq, i_NoneType_tuple, i_NoneType_str, i_NoneType_int, i_NoneType_bool, i_NoneType_list, i_bool_tuple, i_bool_str, i_bool_int, i_bool_bool, i_bool_list, i_int_tuple, i_int_str, i_int_int, i_int_bool, i_int_list, i_str_tuple, i_str_str, i_str_int, i_str_bool, i_str_list, i_tuple_tuple, i_tuple_str, i_tuple_int, i_tuple_bool, i_tuple_list, i_list_tuple, i_list_str, i_list_int, i_list_bool, i_list_list, i_dict_tuple, i_dict_str, i_dict_int, i_dict_bool, i_dict_list, tyN, startD, mupd_same, mupd_ne, ne_eq, not_false_eq_true, List.map_cons, List.map_nil, List.length_cons, List.length_nil, List.replicate_succ, List.replicate_zero, Nat.zero_add, Nat.reduceAdd, Nat.reduceSub, Int.cast_ofNat_Int, List.cons_append, List.nil_append, List.getElem?_cons_zero, List.getElem?_cons_succ, List.set_cons_zero, List.set_cons_succ, opIx, atI_cons, ixN, opPut, opAdd, opSub, opMul, opFdiv, opMod, opPow, opLt, opLe, opGt, opGe, opIs, opIsNot, D.isNon, truth, bLen, bAbs, bInt, bTuple, bList, isTy, mAppend, mExtend, mPop, Int.reduceLE, Int.reduceLT, Int.reduceToNat, Int.reduceNeg, Int.reduceNe, Option.bind_some, if_true, if_false, ite_true, ite_false, true_and, and_true, Bool.not_true, Bool.not_false, opIadd, Nat.reduceLT, Nat.reduceLeDiff, Int.ofNat_lt, s_lc2, s_lc2J, s_lc2B, s_lc2T, s_lc2E, s_raiseF, s_raiseFK, s_tryF, s_xf, s_xfK, s_xfAt, s_lenSet, s_lenSetK, opMulT, mInsert, s_dpNil, s_dpCons, s_dpK1, s_dpK2, s_dpK3, s_disp, s_dispK, s_optKV, kvOf, s_dc, s_dcK, s_keys, s_lockK, s_sortIt, mGet, mDPop, dgetR, bDictC, bTupC, opEqD, opNeD, eqDR, D.key, merge_one, optKV, id, opEqL, opNeL, eqLR, $ls,*])
def atoms (p : Pic) : Int := (p.map fun x => (x.length : Int)).sum
def manyOk (p : Proc) : Bool := decide ((p.known ++ ghosts p).length ≤ 6) && decide ((ghosts p).length ≤ 3) && decide (p.ens.length ≤ 3)
def picsOk (p : Proc) : Bool := (p.need :: p.ens).all fun e => decide (atoms e ≤ 6)
def isSmall (p : Proc) : Bool := manyOk p && picsOk p && decide (depL p.body ≤ 4)
def sp_is_small (n : Nat) (C : Addr) : DSp := fun ds M Q E => ∃ (c : Addr) (p : Proc), ds = [.ob c, p.enc] ∧ Fit n p ∧ ∀ M', Keep [] M M' → Q (.bl (isSmall p)) M'
theorem mono_is_small {n : Nat} {C : Addr} : MonoSp (sp_is_small n C) := by
  rintro ds M Q Q' E E' hQ hE ⟨c, p, h1, h3, h⟩
  exact ⟨c, p, h1, h3, fun M' z1 => hQ _ _ (h M' z1)⟩
theorem any_gt {es : List Pic} : (es.any fun e => decide (atoms e > 6)) = !(es.all fun e => decide (atoms e ≤ 6)) := by
  rw [List.not_all_eq_any_not]
  congr 1
  funext e
  rw [← decide_not]
  exact decide_eq_decide.mpr (by omega)
theorem fn_is_small {n : Nat} (S0 : MSrc K C_Checker "is_small" "Checker.is_small" s_Checker_is_small ["self", "proc"] []) (G : GF K mg C_CellchainsError C_BadProgram C_TooLarge C_Checker) (F_ghosts_of : Fn P w K mg base 2 "ghosts_of" sp_ghosts_of []) (F_atoms_in : Fn P w K mg base 1 "atoms_in" sp_atoms []) (F_depth_of : Fn P w K mg base (n + 3) "depth_of" (sp_dep n) []) :
    MFn P w K mg base (n + 4) C_Checker "is_small" (sp_is_small n C_Checker) [] := by
  refine S0.fn mono_is_small fun g fd F => def_ok F sc_Checker_is_small (fun ds M Q E h => by obtain ⟨c, p, rfl, _⟩ := h; rfl) ⟨_, fun cdv A outer s H E hr => have hu := hr.u200
    (xss_cons (xs_asg (p := .tp [.nm 2, .nm 3, .nm 4, .nm 5, .nm 6, .nm 7]) (xe_var 1) (xg_tup rfl (xgs_cons (xg_name 2 sc_Checker_is_small.nd) (xgs_cons (xg_name 3 sc_Checker_is_small.nd) (xgs_cons (xg_name 4 sc_Checker_is_small.nd) (xgs_cons (xg_name 5 sc_Checker_is_small.nd) (xgs_cons (xg_name 6 sc_Checker_is_small.nd) (xgs_cons (xg_name 7 sc_Checker_is_small.nd) xgs_nil))))))))
 (xss_cons (xs_set 8 sc_Checker_is_small.nd (xe_callB c_len (by rfl) G.len (by decide +kernel) (xa_cons (xe_bin x_add (xe_bin x_add (xe_var 3) (xe_var 4)) (xe_call F_ghosts_of (hr.mono (by first | decide | omega)) bx_takes (by rfl) (xa_cons (xe_var 1) xa_nil))) xa_nil)))
 (xss_cons (xs_if (xt_wh (xw_or (xt_cmp x_gt (xe_var 8) (xe_globE (by rfl) G.MOST_NAMES) (nomark _) bl_gt) (xw_or (xt_cmp x_gt (xe_callB c_len (by rfl) G.len (by decide +kernel) (xa_cons (xe_call F_ghosts_of (hr.mono (by first | decide | omega)) bx_takes (by rfl) (xa_cons (xe_var 1) xa_nil)) xa_nil)) (xe_globE (by rfl) G.MOST_GHOSTS) (nomark _) bl_gt) (xw_or1 (xt_cmp x_gt (xe_callB c_len (by rfl) G.len (by decide +kernel) (xa_cons (xe_var 6) xa_nil)) (xe_globE (by rfl) G.MOST_ENSURES) (nomark _) bl_gt)))))
 (xss_one (xs_ret xe_bl))
 xss_nil)
 (xss_cons (xs_if (xt_val (xe_callB (c_any rfl) (by rfl) G.any (by decide +kernel) (xa_cons (xe_lc (own := [("picture", 9)]) (p := .nm 9) rfl sc_Checker_is_small.nd (xi_walk (xe_bin x_add (xe_tup (n := 1) (xa_cons (xe_var 5) xa_nil)) (xe_var 6))) (blkOk_by (by first | (show blkC ["self", "proc", "name", "parameters", "places", "need", "ensures", "body", "many", "picture"] (defScope s_Checker_is_small) _ _ = true; decide +kernel) | kernel_rfl | rfl)) (fun _ _ _ _ _ => (xg_name 9 sc_Checker_is_small.nd)) (fun _ _ _ _ _ => xts_nil) (fun _ _ _ _ _ => (xe_cmp x_gt (xe_call F_atoms_in (hr.mono (by first | decide | omega)) takes0 (by rfl) (xa_cons (xe_var 9) xa_nil)) (xe_globE (by rfl) G.MOST_ATOMS) (nomark _)))) xa_nil)))
 (xss_one (xs_ret xe_bl))
 xss_nil)
 (xss_one (xs_ret (xe_cmp x_le (xe_call F_depth_of (hr.mono (by first | decide | omega)) bx_takes (by rfl) (xa_cons (xe_var 7) xa_nil)) (xe_globE (by rfl) G.MOST_DEEP) (nomark _)))))))), fun ds M Q E h => ?_⟩
  obtain ⟨c, p, rfl, hp, h⟩ := h
  have sz : (16777216 : Nat) = sizeLine := sizeLine_eq.symm
  have kn := hp.kn
  have few := hp.few
  have gh := hp.gh
  have kn2 := hp.kn
  unfold Proc.known at kn
  rw [List.length_append] at kn
  simp! [Proc.enc, List.length_map]
  refine ⟨by omega, p, rfl, hp.need, fun M1 k1 => ?_⟩
  have lk : p.ps.length + p.ls.length + (ghosts p).length = (p.known ++ ghosts p).length := by unfold Proc.known; rw [List.length_append, List.length_append]
  simp! [List.length_map, List.length_append]
  rw [lk]
  refine ⟨by rw [List.length_append]; omega, ?_⟩
  have no : manyOk p = false → ∀ M', Keep [] M M' → Q (.bl false) M' := fun q M' k => by
    have e := h M' k
    rw [show isSmall p = false by unfold isSmall; rw [q]; rfl] at e
    exact e
  refine bif_dec (fun z => ?_) fun z => ?_
  · simp! []
    exact no (by unfold manyOk; rw [decide_eq_false (by omega)]; rfl) M1 k1
  simp! []
  refine ⟨p, rfl, hp.need, fun M2 k2 => ?_⟩
  simp! [List.length_map]
  refine bif_dec (fun z2 => ?_) fun z2 => ?_
  · simp! []
    exact no (by unfold manyOk; rw [decide_eq_false (p := (ghosts p).length ≤ 3) (by omega), Bool.and_false]; rfl) M2 (k1.trans k2)
  simp! [List.length_map]
  refine bif_dec (fun z3 => ?_) fun z3 => ?_
  · simp! []
    exact no (by unfold manyOk; rw [decide_eq_false (p := p.ens.length ≤ 3) (by omega), Bool.and_false]) M2 (k1.trans k2)
  have mo : manyOk p = true := by unfold manyOk; rw [decide_eq_true (by omega), decide_eq_true (by omega), decide_eq_true (by omega)]; rfl
  simp! [List.length_map]
  refine ⟨by omega, fun l1 hl1 => ?_⟩
  refine lc_pure encPic (fun e => D.bl (decide (atoms e > 6))) (fun _ => true) (p.need :: p.ens) hl1 (fun _ _ => trivial) (by rw [List.length_cons]; omega) (fun e he M3 N sk k3 hy hn => ?_) fun M3 k3 e3 => ?_
  · have be : e.length < 1000 ∧ ∀ x ∈ e, x.length < 1000 := by
      rcases List.mem_cons.mp he with rfl | he
      · exact hp.nd
      · exact hp.ed e he
    simp! []
    refine ⟨e, rfl, be.1, be.2, fun M4 k4 => ?_⟩
    simp! []
    rw [show decide (atoms e > 6) = decide (6 < (e.map fun x => (x.length : Int)).sum) from rfl] at hy
    exact hy rfl _ k4
  rw [filter_tt] at e3
  have k13 := (k1.trans k2).trans k3
  simp! []
  refine run_any (xs := p.need :: p.ens) (g := fun e => decide (atoms e > 6)) e3 ?_
  rw [any_gt]
  simp! []
  refine bif_of (fun z => ?_) fun z => ?_
  · simp! []
    have e := h M3 k13
    rw [show isSmall p = false by unfold isSmall picsOk; rw [show ((p.need :: p.ens).all fun e => decide (atoms e ≤ 6)) = false from (Bool.not_eq_true' _).mp z, Bool.and_false]; rfl] at e
    exact e
  have po : picsOk p = true := by
    unfold picsOk
    simpa only [Bool.not_eq_false'] using z
  simp! []
  refine ⟨p.body, rfl, hp.dep, fun M4 k4 => ?_⟩
  simp! []
  have e := h M4 (k13.trans k4)
  unfold isSmall at e
  rw [mo, po, show decide (depL p.body ≤ 4) = decide ((depL p.body : Int) ≤ 4) from decide_eq_decide.mpr (by omega)] at e
  exact e
end K04

set_option maxHeartbeats 4000000
namespace K04
open PySem PySem.Spec PyProof.Rows L2 PL SX
variable {P : Program} {w : World} {K : PySem.W.Frag} {mg : Str → Option Value} {base : Heap} {C_CellchainsError C_BadProgram C_TooLarge C_Checker : Addr}
local macro_rules | `(tactic| simp! [$ls,*]) => `(tactic| simp only [s_fld, s_fldK, s_insAt, s_optD, s_obAt, s_fput, s_fputK1, s_fputK2, s_faug, s_faugK1, s_faugK2, s_faugK3, s_meth, s_methK1, s_methK2, s_make, s_makeK, s_makeK2, s_dead, s_tryN, noX_nx, noX_rt, noX_bk, noX_ct, mSplit, opMulS, s_enum, s_enumK, s_sortBy, s_sortByK, look_nil, look_cons, putFD_nil, putFD_cons, List.append_nil, to_nx, to_rt, to_bk, to_ct, to_ex, lp_nx, lp_rt, lp_bk, lp_ct, lp_ex, ret_nx, ret_rt, ret_ex, s_exK, s_bif1, s_bif0, s_optB, s_optE, s_nxD, s_ifK, s_asgN, s_asgT, s_asgL, b_nil, b_nm, b_tp, s_next, s_seq, s_drop, s_ret, s_retN, s_ifS, s_asg, s_brk, s_cont, s_put, s_put1, s_put2, s_put3, s_aug, s_augV, s_augK, s_augK2, s_bin, s_bin1, s_bin2, s_var, s_varK, s_C, s_cb, s_cbK, s_call, s_callK, s_m, s_m1, s_m2, s_nil, s_cons, s_cons1, s_cons2, s_tup, s_tupK, s_lst, s_lstK, s_truth, s_trK, s_tK, s_eK, s_cK, s_and, s_andK, s_or, s_orK, s_not, s_notK, s_ife, s_ifeK, s_andV, s_orV, s_andvK, s_orvK, s_andvK2, s_orvK2, s_notV, s_notvK, s_blK, s_neg, s_negK, s_sl, s_sl1, s_sl2, s_sl3, s_noPart, s_part, s_partK, s_rev, s_revK, s_for, s_forK, s_lc, s_lcK, s_yes, s_walk, s_walkT, s_walkS, s_walkA, s_walkL, s_walkR, s_rng1, s_rng2, s_rng1K, s_rng2K, s_callL, s_callLK, s_callLO, s_clK, s_raise, r_val, r_new, r_put, s_whK, s_lcY, s_lcT, s_lcE, s_cg, s_cgK, s_rng3, s_rng3K, s_lcB, s_lcS, wipeD, Pat.bind, seqOf, rg, s_dict0, s_sortSet, s_sortSetK, q_is_tuple, q_is_str, q_is_int, q_is_bool, q_is_list, q_isR, ofS_inj, String.reduceEq, q_eqI, q_neI, q_eqS, q_neS, decide_true, decide_false, Int.reduceEq, reduceCtorEq, i_NoneType_tuple, i_NoneType_str, i_NoneType_int, i_NoneType_bool, i_NoneType_list, i_bool_tuple, i_bool_str, i_bool_int, i_bool_bool, i_bool_list, i_int_tuple, i_int_str, i_int_int, i_int_bool, i_int_list, i_str_tuple, i_str_str, i_str_int, i_str_bool, i_str_list, i_tuple_tuple, i_tuple_str, i_tuple_int, i_tuple_bool, i_tuple_list, i_list_tuple, i_list_str, i_list_int, i_list_bool, i_list_list, i_dict_tuple, i_dict_str, i_dict_int, i_dict_bool, i_dict_list, tyN, startD, mupd_same, mupd_ne, ne_eq, not_false_eq_true, List.map_cons, List.map_nil, List.length_cons, List.length_nil, List.replicate_succ, List.replicate_zero, Nat.zero_add, Nat.reduceAdd, Nat.reduceSub, Int.cast_ofNat_Int, List.cons_append, List.nil_append, List.getElem?_cons_zero, List.getElem?_cons_succ, List.set_cons_zero, List.set_cons_succ, opIx, atI_cons, ixN, opPut, opAdd, opSub, opMul, opFdiv, opMod, opPow, opLt, opLe, opGt, opGe, opIs, opIsNot, D.isNon, truth, bLen, bAbs, bInt, bTuple, bList, isTy, mAppend, mExtend, mPop, Int.reduceLE, Int.reduceLT, Int.reduceToNat, Int.reduceNeg, Int.reduceNe, Option.bind_some, if_true, if_false, ite_true, ite_false, true_and, and_true, Bool.not_true, Bool.not_false, opIadd, Nat.reduceLT, Nat.reduceLeDiff, Int.ofNat_lt, s_lc2, s_lc2J, s_lc2B, s_lc2T, s_lc2E, s_raiseF, s_raiseFK, s_tryF, s_xf, s_xfK, s_xfAt, s_lenSet, s_lenSetK, opMulT, mInsert, s_dpNil, s_dpCons, s_dpK1, s_dpK2, s_dpK3, s_disp, s_dispK, s_optKV, kvOf, s_dc, s_dcK, s_keys, s_lockK, s_sortIt, mGet, mDPop, dgetR, bDictC, bTupC, opEqD, opNeD, eqDR, D.key, merge_one, optKV, id, opEqL, opNeL, eqLR, $ls,*])
def firstDup : List Str → List Str → Option Str
  | _, [] => none
  | seen, x :: r => if x ∈ seen then some x else firstDup (seen ++ [x]) r
/-- what check_source finds: none, or whether too large, and of which procedure -/
def verdict (ps : List Proc) : Option (Bool × Str) := match firstDup [] (ps.map Proc.nm) with
  | some x => some (false, x)
  | none => match ps.find? fun p => !isRight (heads ps) p with
    | some p => some (false, p.nm)
    | none => match (ps.map Proc.nm)[8]? with
      | some x => some (true, x)
      | none => match ps.find? fun p => !isSmall p with
        | some p => some (true, p.nm)
        | none => none
structure FitS (n : Nat) (ps : List Proc) : Prop where
  few : ps.length ≤ 1000
  fit : ∀ p ∈ ps, Fit n p
  nm : ∀ p ∈ ps, p.nm.length ≤ 1000
def numS : Nat → List Str → List (Nat × Str)
  | _, [] => []
  | i, x :: r => (i, x) :: numS (i + 1) r
def numD (p : Nat × Str) : D := .tup [.int (p.1 : Int), .str p.2]
theorem nums_numS : ∀ (xs : List Str) (i : Nat), nums i (xs.map D.str) = (numS i xs).map numD
  | [], _ => rfl
  | x :: r, i => by
    rw [List.map_cons, nums, nums_numS r (i + 1)]
    rfl
theorem cut_take {α : Type} (xs : List α) (m : Nat) : PL.cutD xs none (some (m : Int)) = xs.take m := by
  unfold PL.cutD
  rw [HT.sIx_none, HT.sIx_nat, List.drop_zero, Nat.sub_zero]
  by_cases h : m ≤ xs.length
  · rw [Nat.min_eq_left h]
  · rw [Nat.min_eq_right (by omega), List.take_of_length_le (Nat.le_refl _), List.take_of_length_le (by omega)]
def sp_check (n : Nat) (C1 C2 : Addr) : DSp := fun ds M Q E => ∃ ps : List Proc, ds = [.tup (ps.map Proc.enc)] ∧ FitS n ps ∧ ∀ M', Keep [] M M' → match verdict ps with
  | none => Q .non M'
  | some (b, x) => E (.ref (if b = true then C2 else C1)) [("name", .str x)] M'
theorem mono_check {n : Nat} {C1 C2 : Addr} : MonoSp (sp_check n C1 C2) := by
  rintro ds M Q Q' E E' hQ hE ⟨ps, h1, h2, h⟩
  refine ⟨ps, h1, h2, fun M' z1 => ?_⟩
  have := h M' z1
  split
  · rename_i e; rw [e] at this; exact hQ _ _ this
  · rename_i e; rw [e] at this; exact hE _ _ _ this
theorem fn_check {n : Nat} (S0 : Src K mg "check_source" s_check_source ["source"]) (G : GF K mg C_CellchainsError C_BadProgram C_TooLarge C_Checker) (R_BadProgram : FCls P w K mg base 1 "BadProgram" C_BadProgram "name") (R_TooLarge : FCls P w K mg base 1 "TooLarge" C_TooLarge "name") (K_Checker : KFn P w K mg base 1 "Checker" C_Checker (sp_ckinit C_Checker)) (M_Checker_is_right : MFn P w K mg base (n + 4) C_Checker "is_right" (sp_is_right n C_Checker) []) (M_Checker_is_small : MFn P w K mg base (n + 4) C_Checker "is_small" (sp_is_small n C_Checker) []) :
    Fn P w K mg base (n + 5) "check_source" (sp_check n C_BadProgram C_TooLarge) [] := by
  refine S0.fn mono_check fun g fd F => fn_ok F sc_check_source (fun ds M Q E h => by obtain ⟨ps, rfl, _⟩ := h; rfl) ⟨_, fun cdv A outer s H E hr => have hu := hr.u200
    (xss_cons (xs_setLc 1 (own := [("proc", 5)]) (p := .nm 5) rfl sc_check_source.nd rfl (sw_true rfl rfl rfl (by decide +kernel)) (xi_walk (xe_var 0)) (blkOk_by (by first | (show blkC ["source", "names", "place", "name", "checker", "proc"] (defScope s_check_source) _ _ = true; decide +kernel) | kernel_rfl | rfl)) (fun _ _ _ _ _ => (xg_name 5 sc_check_source.nd)) (fun _ _ _ _ _ => xts_nil) (fun _ _ _ _ _ => (xe_ix hu (xe_var 5) xe_int)))
 (xss_cons (xs_for (p := .tp [.nm 2, .nm 3]) bx_passes rfl (xi_enum (by rfl) G.enumerate (xa_cons (xe_var 1) xa_nil)) (xg_tup rfl (xgs_cons (xg_name 2 sc_check_source.nd) (xgs_cons (xg_name 3 sc_check_source.nd) xgs_nil)))
 (xss_one (xs_if (xt_cmp (x_in hu) (xe_var 3) (xe_sl (xe_var 1) xo_none (xo_some (xe_var 2))) rfl bl_in)
 (xss_one (xs_raiseF R_BadProgram rfl (hr.mono (by first | decide | omega)) bx_takes (by rfl) (xe_var 3)))
 xss_nil)))
 (xss_cons (xs_set 4 sc_check_source.nd (xe_make K_Checker (hr.mono (by first | decide | omega)) (by rfl) (xa_cons (xe_var 0) xa_nil)))
 (xss_cons (xs_for (p := .nm 5) bx_passes rfl (xi_walk (xe_var 0)) (xg_name 5 sc_check_source.nd)
 (xss_one (xs_if (xt_not (xt_val (xe_meth M_Checker_is_right G.T_Checker (hr.mono (by first | decide | omega)) bx_takes (xe_var 4) (xa_cons (xe_var 5) xa_nil))))
 (xss_one (xs_raiseF R_BadProgram rfl (hr.mono (by first | decide | omega)) bx_takes (by rfl) (xe_ix hu (xe_var 5) xe_int)))
 xss_nil)))
 (xss_cons (xs_if (xt_cmp x_gt (xe_callB c_len (by rfl) G.len (by decide +kernel) (xa_cons (xe_var 0) xa_nil)) (xe_globE (by rfl) G.MOST_PROCS) (nomark _) bl_gt)
 (xss_one (xs_raiseF R_TooLarge rfl (hr.mono (by first | decide | omega)) bx_takes (by rfl) (xe_ix hu (xe_var 1) (xe_globE (by rfl) G.MOST_PROCS))))
 xss_nil)
 (xss_one (xs_for (p := .nm 5) bx_passes rfl (xi_walk (xe_var 0)) (xg_name 5 sc_check_source.nd)
 (xss_one (xs_if (xt_not (xt_val (xe_meth M_Checker_is_small G.T_Checker (hr.mono (by first | decide | omega)) bx_takes (xe_var 4) (xa_cons (xe_var 5) xa_nil))))
 (xss_one (xs_raiseF R_TooLarge rfl (hr.mono (by first | decide | omega)) bx_takes (by rfl) (xe_ix hu (xe_var 5) xe_int)))
 xss_nil))))))))), fun ds M Q E h => ?_⟩
  obtain ⟨ps, rfl, hp, h⟩ := h
  have sz : (16777216 : Nat) = sizeLine := sizeLine_eq.symm
  have few := hp.few
  simp! []
  intro l1 hl1
  refine lc_pure Proc.enc (fun p => D.str p.nm) (fun _ => true) ps hl1 (fun _ _ => trivial) (by omega) (fun p hp M3 N sk k3 hy hn => ?_) fun M1 k1 e1 => ?_
  · simp! [Proc.enc]
    exact hy rfl _ Keep.refl
  rw [filter_tt] at e1
  have e1 : M1 l1 = some (.lst ((ps.map Proc.nm).map D.str)) := by rw [e1, List.map_map]; rfl
  simp! [e1]
  refine ⟨l1, _, rfl, e1, ?_⟩
  rw [nums_numS]
  generalize hxs : ps.map Proc.nm = xs at e1
  have xl : xs.length = ps.length := by rw [← hxs, List.length_map]
  refine loop_inv numD (fun r env M' => ∃ seen rest d2 d3, xs = seen ++ rest ∧ r = numS seen.length rest ∧ env = [some (.tup (ps.map Proc.enc)), some (.ob l1), d2, d3, none, none] ∧ M' l1 = some (.lst (xs.map D.str)) ∧ Keep [] M M' ∧ firstDup [] xs = firstDup seen rest) (fun _ _ _ ⟨_, _, _, _, _, _, _, z, _⟩ => z) ?_ ?_ (numS 0 xs) _ _ ⟨[], xs, none, none, rfl, rfl, rfl, e1, k1, rfl⟩
  · rintro ⟨i, x⟩ r env M2 N ⟨seen, rest, d2, d3, e2, e3, rfl, h2, k2, e4⟩ hN
    cases rest with
    | nil => cases e3
    | cons y rest =>
    cases e3
    have sl : seen.length < xs.length := by rw [e2]; simp
    simp! [numD, opSl, h2, cut_take]
    intro l2 hl2
    have et : ((xs.map D.str).take seen.length) = seen.map D.str := by rw [e2, List.map_append]; exact List.take_left' (by simp)
    rw [et]
    simp! [in_strs (mupd_same (M := M2) (a := l2) (o := .lst (seen.map D.str)))]
    refine bif_dec (fun z => ?_) fun z => ?_
    · simp! []
      refine ⟨x, rfl, ?_, ?_⟩
      · obtain ⟨p, hp1, hp2⟩ := List.mem_map.mp (show x ∈ ps.map Proc.nm by rw [hxs, e2]; simp)
        rw [← hp2]; exact hp.nm p hp1
      · have e := h _ (k2.trans (Keep.new (o := .lst (seen.map D.str)) hl2))
        unfold verdict at e
        rw [hxs, e4, firstDup, if_pos z] at e
        exact e
    · simp! []
      have hn : l1 ≠ l2 := ne_new h2 hl2
      refine hN _ _ ⟨seen ++ [x], rest, _, _, by rw [e2]; simp, by simp, rfl, by rw [mupd_ne hn]; exact h2, k2.trans (Keep.new hl2), ?_⟩
      rw [e4, firstDup, if_neg z]
  · rintro env M2 ⟨seen, rest, d2, d3, e2, e3, rfl, h2, k2, e4⟩
    have er : rest = [] := by cases rest <;> first | rfl | cases e3
    subst er
    simp only [firstDup] at e4
    have fd : firstDup [] (ps.map Proc.nm) = none := by rw [hxs]; exact e4
    simp! []
    intro c hc
    refine ⟨c, ps, rfl, mupd_same, few, fun p hp1 => ?_, fun M3 ck k3 => ?_⟩
    · have := (hp.fit p hp1).kn
      unfold Proc.known at this
      rw [List.length_append] at this
      omega
    simp! []
    have k13 : Keep [] M M3 := k2.trans (((Keep.new hc).trans k3).drop hc)
    have lc : l1 ≠ c := ne_new h2 hc
    have h3 : M3 l1 = some (.lst (xs.map D.str)) := k3 _ _ (by rw [mupd_ne lc]; exact h2) (by simpa using lc)
    refine loop_inv Proc.enc (fun r env M' => ∃ done d5, ps = done ++ r ∧ env = [some (.tup (ps.map Proc.enc)), some (.ob l1), d2, d3, some (.ob c), d5] ∧ M' l1 = some (.lst (xs.map D.str)) ∧ Keep [] M M' ∧ CkAt C_Checker M' c ps ∧ (done.find? fun p => !isRight (heads ps) p) = none) (fun _ _ _ _ => trivial) ?_ ?_ ps _ _ ⟨[], none, rfl, rfl, h3, k13, ck, rfl⟩
    · rintro p r env M4 N ⟨done, d5, e5, rfl, h4, k4, ck4, f4⟩ hN
      have hpm : p ∈ ps := by rw [e5]; simp
      obtain ⟨d8, hc8, _⟩ := id ck4
      simp! [hc8]
      refine ⟨c, ps, p, rfl, ck4, hp.fit p hpm, fun M5 k5 => ?_⟩
      simp! []
      refine bif_of (fun z => ?_) fun z => ?_
      · have z : isRight (heads ps) p = false := by simpa using z
        simp! [Proc.enc]
        refine ⟨p.nm, rfl, hp.nm p hpm, ?_⟩
        have e := h M5 (k4.trans k5)
        unfold verdict at e
        rw [fd] at e
        have e9 : (ps.find? fun p => !isRight (heads ps) p) = some p := by
          conv => lhs; arg 2; rw [e5]
          rw [List.find?_append, f4, Option.none_or, List.find?_cons_of_pos (by rw [z]; rfl)]
        rw [e9] at e
        exact e
      · have z : isRight (heads ps) p = true := by simpa using z
        simp! []
        refine hN _ _ ⟨done ++ [p], _, by rw [e5]; simp, rfl, k5 _ _ h4 (by simp), k4.trans k5, ck4.keep k5, ?_⟩
        rw [List.find?_append, f4, Option.none_or, List.find?_cons_of_neg (by rw [z]; simp), List.find?_nil]
    rintro env M4 ⟨done, d5, e5, rfl, h4, k4, ck4, f4⟩
    rw [List.append_nil] at e5
    rw [← e5] at f4
    simp! [List.length_map]
    have v8 : ∀ M', Keep [] M M' → match (match xs[8]? with | some x => some (true, x) | none => match ps.find? fun p => !isSmall p with | some p => some (true, p.nm) | none => none) with
        | none => Q .non M'
        | some (b, x) => E (.ref (if b = true then C_TooLarge else C_BadProgram)) [("name", .str x)] M' := fun M' k' => by
      have e := h M' k'
      unfold verdict at e
      rw [fd, f4, hxs] at e
      exact e
    refine bif_dec (fun z => ?_) fun z => ?_
    · have h8 : 8 < xs.length := by omega
      have a8 : atI (xs.map D.str) 8 = some (.str xs[8]) := by
        rw [atI_get (by decide) (by rw [List.length_map]; omega)]
        simp
      simp! [h4, a8]
      refine ⟨xs[8], rfl, ?_, ?_⟩
      · obtain ⟨p, hp1, hp2⟩ := List.mem_map.mp (show xs[8] ∈ ps.map Proc.nm by rw [hxs]; exact List.getElem_mem h8)
        rw [← hp2]; exact hp.nm p hp1
      · have e := v8 M4 k4
        rw [List.getElem?_eq_getElem h8] at e
        exact e
    have n8 : xs[8]? = none := List.getElem?_eq_none (by omega)
    simp! []
    refine loop_inv Proc.enc (fun r env M' => ∃ done d5, ps = done ++ r ∧ env = [some (.tup (ps.map Proc.enc)), some (.ob l1), d2, d3, some (.ob c), d5] ∧ Keep [] M M' ∧ CkAt C_Checker M' c ps ∧ (done.find? fun p => !isSmall p) = none) (fun _ _ _ _ => trivial) ?_ ?_ ps _ _ ⟨[], d5, rfl, rfl, k4, ck4, rfl⟩
    · rintro p r env M4 N ⟨done, d5, e5, rfl, k4, ck4, g4⟩ hN
      have hpm : p ∈ ps := by rw [e5]; simp
      obtain ⟨d8, hc8, _⟩ := id ck4
      simp! [hc8]
      refine ⟨c, p, rfl, hp.fit p hpm, fun M5 k5 => ?_⟩
      simp! []
      refine bif_of (fun z => ?_) fun z => ?_
      · have z : isSmall p = false := by simpa using z
        simp! [Proc.enc]
        refine ⟨p.nm, rfl, hp.nm p hpm, ?_⟩
        have e := v8 M5 (k4.trans k5)
        rw [n8] at e
        have e9 : (ps.find? fun p => !isSmall p) = some p := by
          rw [e5, List.find?_append, g4, Option.none_or, List.find?_cons_of_pos (by rw [z]; rfl)]
        simp only [e9] at e
        exact e
      · have z : isSmall p = true := by simpa using z
        simp! []
        refine hN _ _ ⟨done ++ [p], _, by rw [e5]; simp, rfl, k4.trans k5, ck4.keep k5, ?_⟩
        rw [List.find?_append, g4, Option.none_or, List.find?_cons_of_neg (by rw [z]; simp), List.find?_nil]
    rintro env M5 ⟨done, d5, e5, rfl, k5, ck5, g5⟩
    rw [List.append_nil] at e5
    rw [← e5] at g5
    simp! []
    have e := v8 M5 k5
    rw [n8] at e
    simp only [g5] at e
    exact e
end K04

set_option maxHeartbeats 4000000
namespace K04
open PySem PySem.Spec PyProof.Rows L2 PL SX
variable {P : Program} {w : World} {K : PySem.W.Frag} {mg : Str → Option Value} {base : Heap} {C_CellchainsError C_BadProgram C_TooLarge C_Checker : Addr}
local macro_rules | `(tactic| simp! [$ls,*]) => `(tactic| simp only [s_fld, s_fldK, s_insAt, s_optD, s_obAt, s_fput, s_fputK1, s_fputK2, s_faug, s_faugK1, s_faugK2, s_faugK3, s_meth, s_methK1, s_methK2, s_make, s_makeK, s_makeK2, s_dead, s_tryN, noX_nx, noX_rt, noX_bk, noX_ct, mSplit, opMulS, s_enum, s_enumK, s_sortBy, s_sortByK, look_nil, look_cons, putFD_nil, putFD_cons, List.append_nil, to_nx, to_rt, to_bk, to_ct, to_ex, lp_nx, lp_rt, lp_bk, lp_ct, lp_ex, ret_nx, ret_rt, ret_ex, s_exK, s_bif1, s_bif0, s_optB, s_optE, s_nxD, s_ifK, s_asgN, s_asgT, s_asgL, b_nil, b_nm, b_tp, s_next, s_seq, s_drop, s_ret, s_retN, s_ifS, s_asg, s_brk, s_cont, s_put, s_put1, s_put2, s_put3, s_aug, s_augV, s_augK, s_augK2, s_bin, s_bin1, s_bin2, s_var, s_varK, s_C, s_cb, s_cbK, s_call, s_callK, s_m, s_m1, s_m2, s_nil, s_cons, s_cons1, s_cons2, s_tup, s_tupK, s_lst, s_lstK, s_truth, s_trK, s_tK, s_eK, s_cK, s_and, s_andK, s_or, s_orK, s_not, s_notK, s_ife, s_ifeK, s_andV, s_orV, s_andvK, s_orvK, s_andvK2, s_orvK2, s_notV, s_notvK, s_blK, s_neg, s_negK, s_sl, s_sl1, s_sl2, s_sl3, s_noPart, s_part, s_partK, s_rev, s_revK, s_for, s_forK, s_lc, s_lcK, s_yes, s_walk, s_walkT, s_walkS, s_walkA, s_walkL, s_walkR, s_rng1, s_rng2, s_rng1K, s_rng2K, s_callL, s_callLK, s_callLO, s_clK, s_raise, r_val, r_new, r_put, s_whK, s_lcY, s_lcT, s_lcE, s_cg, s_cgK, s_rng3, s_rng3K, s_lcB, s_lcS, wipeD, Pat.bind, seqOf, rg, s_dict0, s_sortSet, s_sortSetK, q_is_tuple, q_is_str, q_is_int, q_is_bool, q_is_list, q_isR, ofS_inj, String.reduceEq, q_eqI, q_neI, q_eqS, q_neS, decide_true, decide_false, Int.reduceEq, reduceCtorEq, i_NoneType_tuple, i_NoneType_str, i_NoneType_int, i_NoneType_bool, i_NoneType_list, i_bool_tuple, i_bool_str, i_bool_int, i_bool_bool, i_bool_list, i_int_tuple, i_int_str, i_int_int, i_int_bool, i_int_list, i_str_tuple, i_str_str, i_str_int, i_str_bool, i_str_list, i_tuple_tuple, i_tuple_str, i_tuple_int, i_tuple_bool, i_tuple_list, i_list_tuple, i_list_str, i_list_int, i_list_bool, i_list_list, i_dict_tuple, i_dict_str, i_dict_int, i_dict_bool, i_dict_list, tyN, startD, mupd_same, mupd_ne, ne_eq, not_false_eq_true, List.map_cons, List.map_nil, List.length_cons, List.length_nil, List.replicate_succ, List.replicate_zero, Nat.zero_add, Nat.reduceAdd, Nat.reduceSub, Int.cast_ofNat_Int, List.cons_append, List.nil_append, List.getElem?_cons_zero, List.getElem?_cons_succ, List.set_cons_zero, List.set_cons_succ, opIx, atI_cons, ixN, opPut, opAdd, opSub, opMul, opFdiv, opMod, opPow, opLt, opLe, opGt, opGe, opIs, opIsNot, D.isNon, truth, bLen, bAbs, bInt, bTuple, bList, isTy, mAppend, mExtend, mPop, Int.reduceLE, Int.reduceLT, Int.reduceToNat, Int.reduceNeg, Int.reduceNe, Option.bind_some, if_true, if_false, ite_true, ite_false, true_and, and_true, Bool.not_true, Bool.not_false, opIadd, Nat.reduceLT, Nat.reduceLeDiff, Int.ofNat_lt, s_lc2, s_lc2J, s_lc2B, s_lc2T, s_lc2E, s_raiseF, s_raiseFK, s_tryF, s_xf, s_xfK, s_xfAt, s_lenSet, s_lenSetK, opMulT, mInsert, s_dpNil, s_dpCons, s_dpK1, s_dpK2, s_dpK3, s_disp, s_dispK, s_optKV, kvOf, s_dc, s_dcK, s_keys, s_lockK, s_sortIt, mGet, mDPop, dgetR, bDictC, bTupC, opEqD, opNeD, eqDR, D.key, merge_one, optKV, id, opEqL, opNeL, eqLR, $ls,*])
/-! names -/
def ch (start step : Int) (i : Nat) : Str := ⟨#[97 + ((start + (i : Int) * step) % 26).toNat]⟩
def nmA (start step : Int) (sh : Str) (i : Nat) : Str := sh ++ ch start step i ++ Str.ofString "_p"
def nmB (start step : Int) (sh : Str) (i : Nat) : Str := ch start step i ++ sh ++ Str.ofString "_p"
theorem str_app (a b : Str) : (a ++ b).cps = a.cps ++ b.cps := rfl
theorem ch_inj {start : Int} {s : Int} (h0 : 0 ≤ s) (h6 : s < 6) {i j : Nat} (hi : i < 9) (hj : j < 9) (h : ch start (1 + 2 * s) i = ch start (1 + 2 * s) j) : i = j := by
  unfold ch at h
  injection h with h
  have h := congrArg Array.toList h
  simp only [List.cons.injEq, and_true] at h
  have h : ((start + (i : Int) * (1 + 2 * s)) % 26).toNat = ((start + (j : Int) * (1 + 2 * s)) % 26).toNat := by omega
  have : s = 0 ∨ s = 1 ∨ s = 2 ∨ s = 3 ∨ s = 4 ∨ s = 5 := by omega
  rcases this with rfl | rfl | rfl | rfl | rfl | rfl <;> omega
theorem str_cancel_right {a b c : Str} (h : a ++ c = b ++ c) : a = b := by
  have h := congrArg Str.cps h
  rw [str_app, str_app] at h
  cases a; cases b
  exact congrArg Str.mk (Array.append_left_inj _ |>.mp h)
theorem str_cancel_left {a b c : Str} (h : c ++ a = c ++ b) : a = b := by
  have h := congrArg Str.cps h
  rw [str_app, str_app] at h
  cases a; cases b
  exact congrArg Str.mk (Array.append_right_inj _ |>.mp h)
theorem nodup_map_range {f : Nat → Str} {n : Nat} (h : ∀ i j, i < n → j < n → f i = f j → i = j) : ((List.range n).map f).Nodup := by
  rw [List.Nodup, List.pairwise_map]
  refine List.Pairwise.imp_of_mem (fun {a b} ha hb hab e => hab (h a b (List.mem_range.mp ha) (List.mem_range.mp hb) e)) List.nodup_range
def letters : Str := Str.ofString "abcdefghijklmnopqrstuvwxyz"
theorem letters_list : letters.cps.toList = (List.range 26).map (97 + ·) := by decide +kernel
theorem letters_at {i : Int} (h0 : 0 ≤ i) (h1 : i < 26) : atI letters.cps.toList i = some (97 + i.toNat) := by
  rw [letters_list, atI_map', atI_get h0 (by simpa using h1)]
  simp
abbrev none_ : Str := Str.ofString "none_q"
theorem not_none (a : Str) : a ++ Str.ofString "_p" ≠ none_ := by
  intro h
  have h := congrArg (fun s : Str => s.cps.toList.getLast?) h
  simp only [str_app, Array.toList_append, List.getLast?_append] at h
  revert h
  rw [show (Str.ofString "_p").cps.toList.getLast? = some 112 by decide +kernel, show none_.cps.toList.getLast? = some 113 by decide +kernel]
  simp
def sp_names : DSp := fun ds M Q E => ∃ (a b : Addr) (m : Int), ds = [.ob a, .int m] ∧ StAt M a b ∧ 0 < m ∧ m ≤ 9 ∧ ∀ (xs : List Str) r M', xs.Nodup → (∀ x ∈ xs, x ≠ none_ ∧ x.length ≤ 1000) → (xs.length : Int) = m → M r = none → M' r = some (.lst (xs.map D.str)) → StAt M' a b → Keep [a] M M' → Q (.ob r) M'
theorem mono_names : MonoSp sp_names := by
  rintro ds M Q Q' E E' hQ hE ⟨a, b, m, h1, h2, h3, h4, h⟩
  exact ⟨a, b, m, h1, h2, h3, h4, fun xs r M' z1 z0 z2 z3 z4 z5 z6 => hQ _ _ (h xs r M' z1 z0 z2 z3 z4 z5 z6)⟩
theorem fn_names (S0 : Src K mg "_law_names" s__law_names ["state", "many"]) (G : GF K mg C_CellchainsError C_BadProgram C_TooLarge C_Checker) (F__law_draw : Fn P w K mg base 1 "_law_draw" sp_draw []) : Fn P w K mg base 2 "_law_names" sp_names [] := by
  refine S0.fn mono_names fun g fd F => fn_ok F sc__law_names (fun ds M Q E h => by obtain ⟨a, b, m, rfl, _⟩ := h; rfl) ⟨_, fun cdv A outer s H E hr => have hu := hr.u200
    (xss_cons (xs_set 2 sc__law_names.nd xe_str)
 (xss_cons (xs_set 3 sc__law_names.nd (xe_call F__law_draw (hr.mono (by first | decide | omega)) bx_takes (by rfl) (xa_cons (xe_var 0) (xa_cons xe_int xa_nil))))
 (xss_cons (xs_set 4 sc__law_names.nd (xe_bin x_add xe_int (xe_bin x_mul xe_int (xe_call F__law_draw (hr.mono (by first | decide | omega)) bx_takes (by rfl) (xa_cons (xe_var 0) (xa_cons xe_int xa_nil))))))
 (xss_cons (xs_set 5 sc__law_names.nd (xe_sl xe_str xo_none (xo_some (xe_call F__law_draw (hr.mono (by first | decide | omega)) bx_takes (by rfl) (xa_cons (xe_var 0) (xa_cons xe_int xa_nil))))))
 (xss_cons (xs_if (xt_cmp (x_eq hu) (xe_call F__law_draw (hr.mono (by first | decide | omega)) bx_takes (by rfl) (xa_cons (xe_var 0) (xa_cons xe_int xa_nil))) xe_int (nomark _) bl_eq)
 (xss_one (xs_ret (xe_lc (own := [("k", 6)]) (p := .nm 6) rfl sc__law_names.nd (xi_range1 (by rfl) G.range (xa_cons (xe_var 1) xa_nil)) (blkOk_by (by first | (show blkC ["state", "many", "letters", "start", "step", "shared", "k"] (defScope s__law_names) _ _ = true; decide +kernel) | kernel_rfl | rfl)) (fun _ _ _ _ _ => (xg_name 6 sc__law_names.nd)) (fun _ _ _ _ _ => xts_nil) (fun _ _ _ _ _ => (xe_bin x_add (xe_bin x_add (xe_var 5) (xe_ix hu (xe_var 2) (xe_bin x_mod (xe_callTy c_int (by rfl) G.int (by decide +kernel) (xa_cons (xe_bin x_add (xe_var 3) (xe_bin x_mul (xe_var 6) (xe_var 4))) xa_nil)) xe_int))) xe_str)))))
 xss_nil)
 (xss_one (xs_ret (xe_lc (own := [("k", 6)]) (p := .nm 6) rfl sc__law_names.nd (xi_range1 (by rfl) G.range (xa_cons (xe_var 1) xa_nil)) (blkOk_by (by first | (show blkC ["state", "many", "letters", "start", "step", "shared", "k"] (defScope s__law_names) _ _ = true; decide +kernel) | kernel_rfl | rfl)) (fun _ _ _ _ _ => (xg_name 6 sc__law_names.nd)) (fun _ _ _ _ _ => xts_nil) (fun _ _ _ _ _ => (xe_bin x_add (xe_bin x_add (xe_ix hu (xe_var 2) (xe_bin x_mod (xe_callTy c_int (by rfl) G.int (by decide +kernel) (xa_cons (xe_bin x_add (xe_var 3) (xe_bin x_mul (xe_var 6) (xe_var 4))) xa_nil)) xe_int)) (xe_var 5)) xe_str)))))))))), fun ds M Q E h => ?_⟩
  obtain ⟨a, b, m, rfl, hs, h0, h8, h⟩ := h
  simp! []
  refine ⟨a, b, 26, rfl, hs, by decide, by decide, fun start M1 _ _ hs1 k1 => ?_⟩
  simp! []
  refine ⟨a, b, 6, rfl, hs1, by decide, by decide, fun st M2 st0 st6 hs2 k2 => ?_⟩
  simp! []
  refine ⟨IntMulOk.of_left (intBits_le_64 (by decide) (by decide)), a, b, 4, rfl, hs2, by decide, by decide, fun d M3 d0 d4 hs3 k3 => ?_⟩
  simp! [opSl]
  refine ⟨by decide, a, b, 2, rfl, hs3, by decide, by decide, fun d' M4 _ _ hs4 k4 => ?_⟩
  simp! []
  have shl : (cutS (Str.ofString "qxz") none (some d)).length ≤ 3 := by
    have : d = 0 ∨ d = 1 ∨ d = 2 ∨ d = 3 := by omega
    rcases this with rfl | rfl | rfl | rfl <;> decide +kernel
  generalize cutS (Str.ofString "qxz") none (some d) = sh at shl ⊢
  have k : Keep [a] M M4 := ((k1.trans k2).trans k3).trans k4
  have fin : ∀ (f : Nat → Str) r M5, (∀ i j, i < 9 → j < 9 → f i = f j → i = j) → (∀ i, f i ≠ none_ ∧ (f i).length ≤ 1000) → M4 r = none → M5 r = some (.lst ((List.range m.toNat).map fun i => D.str (f i))) → Keep [] M4 M5 → Q (.ob r) M5 := fun f r M5 inj ok hr e k5 => by
    have hr0 : M r = none := hs4.fresh k hr
    refine h ((List.range m.toNat).map f) r M5 (nodup_map_range fun i j hi hj => inj i j (by omega) (by omega)) (fun x hx => by obtain ⟨i, _, rfl⟩ := List.mem_map.mp hx; exact ok i) (by simp; omega) hr0 (by rw [e, List.map_map]; rfl) (hs4.keep k5) (k.trans (k5.weaken (by simp)))
  have lp : (Str.ofString "_p").length = 2 := by decide +kernel
  have c1 : ∀ i, (ch start (1 + 2 * st) i).length = 1 := fun _ => rfl
  have la : ∀ x y : Str, (x ++ y).length = x.length + y.length := fun x y => by simp [Str.length, str_app]
  have sz : (16777216 : Nat) = sizeLine := sizeLine_eq.symm
  have hlen : (letters : Str).length = 26 := by decide +kernel
  have c2 : ∀ n : Nat, Str.length ⟨#[n]⟩ = 1 := fun _ => rfl
  have stb : Builtin.Int.intBits (1 + 2 * st) ≤ 64 := intBits_le_64 (by omega) (by omega)
  refine bif_dec (fun _ => ?_) fun _ => ?_
  · simp! []
    refine ⟨by omega, fun r hr => ?_⟩
    refine lc_pure (fun i : Nat => D.int (0 + (i : Int))) (fun i => D.str (nmA start (1 + 2 * st) sh i)) (fun _ => true) (List.range _) hr (fun _ _ => trivial) (by rw [List.length_range]; omega) (fun i hi M' N sk k hy _ => ?_) fun M' k e => ?_
    · have e1 := Int.emod_nonneg (start + (i : Int) * (1 + 2 * st)) (b := 26) (by decide)
      have e2 := Int.emod_lt_of_pos (start + (i : Int) * (1 + 2 * st)) (b := 26) (by decide)
      simp! [← letters.eq_def, letters_at e1 e2, Int.zero_add]
      exact ⟨.of_right stb, by omega, by rw [c2]; omega, by rw [la, c2]; omega, hy rfl _ Keep.refl⟩
    · rw [filter_tt] at e
      exact fin (nmA start (1 + 2 * st) sh) r M' (fun i j hi hj e => ch_inj st0 st6 hi hj (str_cancel_left (str_cancel_right e))) (fun i => ⟨not_none _, by simp only [nmA, la, c1]; omega⟩) hr e k
  · simp! []
    refine ⟨by omega, fun r hr => ?_⟩
    refine lc_pure (fun i : Nat => D.int (0 + (i : Int))) (fun i => D.str (nmB start (1 + 2 * st) sh i)) (fun _ => true) (List.range _) hr (fun _ _ => trivial) (by rw [List.length_range]; omega) (fun i hi M' N sk k hy _ => ?_) fun M' k e => ?_
    · have e1 := Int.emod_nonneg (start + (i : Int) * (1 + 2 * st)) (b := 26) (by decide)
      have e2 := Int.emod_lt_of_pos (start + (i : Int) * (1 + 2 * st)) (b := 26) (by decide)
      simp! [← letters.eq_def, letters_at e1 e2, Int.zero_add]
      exact ⟨.of_right stb, by omega, by rw [c2]; omega, by rw [la, c2]; omega, hy rfl _ Keep.refl⟩
    · rw [filter_tt] at e
      exact fin (nmB start (1 + 2 * st) sh) r M' (fun i j hi hj e => ch_inj st0 st6 hi hj (str_cancel_right (str_cancel_right e))) (fun i => ⟨not_none _, by simp only [nmB, la, c1]; omega⟩) hr e k
end K04

set_option maxHeartbeats 4000000
namespace K04
open PySem PySem.Spec PyProof.Rows L2 PL SX
variable {P : Program} {w : World} {K : PySem.W.Frag} {mg : Str → Option Value} {base : Heap} {C_CellchainsError C_BadProgram C_TooLarge C_Checker : Addr}
local macro_rules | `(tactic| simp! [$ls,*]) => `(tactic| simp only [s_fld, s_fldK, s_insAt, s_optD, s_obAt, s_fput, s_fputK1, s_fputK2, s_faug, s_faugK1, s_faugK2, s_faugK3, s_meth, s_methK1, s_methK2, s_make, s_makeK, s_makeK2, s_dead, s_tryN, noX_nx, noX_rt, noX_bk, noX_ct, mSplit, opMulS, s_enum, s_enumK, s_sortBy, s_sortByK, look_nil, look_cons, putFD_nil, putFD_cons, List.append_nil, to_nx, to_rt, to_bk, to_ct, to_ex, lp_nx, lp_rt, lp_bk, lp_ct, lp_ex, ret_nx, ret_rt, ret_ex, s_exK, s_bif1, s_bif0, s_optB, s_optE, s_nxD, s_ifK, s_asgN, s_asgT, s_asgL, b_nil, b_nm, b_tp, s_next, s_seq, s_drop, s_ret, s_retN, s_ifS, s_asg, s_brk, s_cont, s_put, s_put1, s_put2, s_put3, s_aug, s_augV, s_augK, s_augK2, s_bin, s_bin1, s_bin2, s_var, s_varK, s_C, s_cb, s_cbK, s_call, s_callK, s_m, s_m1, s_m2, s_nil, s_cons, s_cons1, s_cons2, s_tup, s_tupK, s_lst, s_lstK, s_truth, s_trK, s_tK, s_eK, s_cK, s_and, s_andK, s_or, s_orK, s_not, s_notK, s_ife, s_ifeK, s_andV, s_orV, s_andvK, s_orvK, s_andvK2, s_orvK2, s_notV, s_notvK, s_blK, s_neg, s_negK, s_sl, s_sl1, s_sl2, s_sl3, s_noPart, s_part, s_partK, s_rev, s_revK, s_for, s_forK, s_lc, s_lcK, s_yes, s_walk, s_walkT, s_walkS, s_walkA, s_walkL, s_walkR, s_rng1, s_rng2, s_rng1K, s_rng2K, s_callL, s_callLK, s_callLO, s_clK, s_raise, r_val, r_new, r_put, s_whK, s_lcY, s_lcT, s_lcE, s_cg, s_cgK, s_rng3, s_rng3K, s_lcB, s_lcS, wipeD, Pat.bind, seqOf, rg, s_dict0, s_sortSet, s_sortSetK, q_is_tuple, q_is_str, q_is_int, q_is_bool, q_is_list, q_isR, ofS_inj, String.reduceEq, q_eqI, q_neI, q_eqS, q_neS, decide_true, decide_false, Int.reduceEq, reduceCtorEq, i_NoneType_tuple, i_NoneType_str, i_NoneType_int, i_NoneType_bool, i_NoneType_list, i_bool_tuple, i_bool_str, i_bool_int, i_bool_bool, i_bool_list, i_int_tuple, i_int_str, i_int_int, i_int_bool, i_int_list, i_str_tuple, i_str_str, i_str_int, i_str_bool, i_str_list, i_tuple_tuple, i_tuple_str, i_tuple_int, i_tuple_bool, i_tuple_list, i_list_tuple, i_list_str, i_list_int, i_list_bool, i_list_list, i_dict_tuple, i_dict_str, i_dict_int, i_dict_bool, i_dict_list, tyN, startD, mupd_same, mupd_ne, ne_eq, not_false_eq_true, List.map_cons, List.map_nil, List.length_cons, List.length_nil, List.replicate_succ, List.replicate_zero, Nat.zero_add, Nat.reduceAdd, Nat.reduceSub, Int.cast_ofNat_Int, List.cons_append, List.nil_append, List.getElem?_cons_zero, List.getElem?_cons_succ, List.set_cons_zero, List.set_cons_succ, opIx, atI_cons, ixN, opPut, opAdd, opSub, opMul, opFdiv, opMod, opPow, opLt, opLe, opGt, opGe, opIs, opIsNot, D.isNon, truth, bLen, bAbs, bInt, bTuple, bList, isTy, mAppend, mExtend, mPop, Int.reduceLE, Int.reduceLT, Int.reduceToNat, Int.reduceNeg, Int.reduceNe, Option.bind_some, if_true, if_false, ite_true, ite_false, true_and, and_true, Bool.not_true, Bool.not_false, opIadd, Nat.reduceLT, Nat.reduceLeDiff, Int.ofNat_lt, s_lc2, s_lc2J, s_lc2B, s_lc2T, s_lc2E, s_raiseF, s_raiseFK, s_tryF, s_xf, s_xfK, s_xfAt, s_lenSet, s_lenSetK, opMulT, mInsert, s_dpNil, s_dpCons, s_dpK1, s_dpK2, s_dpK3, s_disp, s_dispK, s_optKV, kvOf, s_dc, s_dcK, s_keys, s_lockK, s_sortIt, mGet, mDPop, dgetR, bDictC, bTupC, opEqD, opNeD, eqDR, D.key, merge_one, optKV, id, opEqL, opNeL, eqLR, $ls,*])
def toldD (ps : List Proc) : List D := match verdict ps with
  | none => [.non]
  | some (b, x) => [.str x, .bl b]
/-- all that is kept but the fields of errors -/
def KeepX (M M' : Mem) : Prop := ∀ c o, M c = some o → (∀ fs, o ≠ .xd fs) → M' c = some o
theorem KeepX.lst {M M' : Mem} {c : Addr} {ds : List D} (k : KeepX M M') (h : M c = some (.lst ds)) : M' c = some (.lst ds) := k _ _ h fun fs z => by cases z
theorem KeepX.st {M M' : Mem} {a b : Addr} (k : KeepX M M') (h : StAt M a b) : StAt M' a b := by
  obtain ⟨p, q, c, ns, h1, h2, h3⟩ := h
  exact ⟨p, q, c, ns, k.lst h1, k.lst h2, h3⟩
def sp_told : DSp := fun ds M Q E => ∃ ps : List Proc, ds = [.tup (ps.map Proc.enc)] ∧ FitS 6 ps ∧ ∀ r M', M r = none → M' r = some (.lst (toldD ps)) → KeepX M M' → Q (.ob r) M'
theorem mono_told : MonoSp sp_told := by
  rintro ds M Q Q' E E' hQ hE ⟨ps, h1, h2, h⟩
  exact ⟨ps, h1, h2, fun r M' z1 z2 z3 => hQ _ _ (h r M' z1 z2 z3)⟩
theorem fn_told (S0 : Src K mg "_law_told" s__law_told ["source"]) (G : GF K mg C_CellchainsError C_BadProgram C_TooLarge C_Checker) (F_check_source : Fn P w K mg base 11 "check_source" (sp_check 6 C_BadProgram C_TooLarge) []) : Fn P w K mg base 12 "_law_told" sp_told [] := by
  refine S0.fn mono_told fun g fd F => fn_ok F sc__law_told (fun ds M Q E h => by obtain ⟨ps, rfl, _⟩ := h; rfl) ⟨_, fun cdv A outer s H E hr => have hu := hr.u200
    (xss_cons (xs_set 1 sc__law_told.nd (xe_lst (n := 0) xa_nil))
 (xss_cons (xs_tryL (X := bx P w K mg base ["source", "kinds", "e"] "_law_told" s__law_told _ cdv A outer s H E) (ok := fun C => C = C_BadProgram ∨ C = C_TooLarge) 2 rfl G.N_CellchainsError (by rfl) rfl rfl sc__law_told.nd rfl bx_takes (fun _ _ _ tkT hpT => (xss_one (xs_expr (xe_bm PySem.F.plainAttrs_list PySem.F.slot_list_append PySem.F.type_list_append m_append (xe_var 1) (xa_cons (xe_call F_check_source (hr.mono (by first | decide | omega)) tkT (by rfl) (xa_cons (xe_var 0) xa_nil)) xa_nil))))) (fun C hC a dd oe pn hz hf => (xss_one (xs_if (xt_wh (xw_and (xt_val (xe_callG bIsF_mono (c_isF (G.OKX C hC).2.1 rfl hz hf) (by rfl) G.isinstance (by decide +kernel) (xa_cons (xe_var 2) (xa_cons (xe_glob (v := .ref _) (by rfl) G.N_BadProgram rfl) xa_nil)))) (xw_and1 (xt_val (xe_callG bIsF_mono (c_isF (G.OKX C hC).2.1 rfl hz hf) (by rfl) G.isinstance (by decide +kernel) (xa_cons (xe_var 2) (xa_cons (xe_bltn (v := .ty "ValueError") (by rfl) G.ValueError (by decide +kernel) rfl) xa_nil)))))))
 (xss_one (xs_set 1 sc__law_told.nd (xe_lst (n := 2) (xa_cons (xe_xf (G.OKX C hC).1 (G.OKX C hC).2.2 hz hf (xe_var 2)) (xa_cons (xe_callG bIsF_mono (c_isF (G.OKX C hC).2.1 rfl hz hf) (by rfl) G.isinstance (by decide +kernel) (xa_cons (xe_var 2) (xa_cons (xe_glob (v := .ref _) (by rfl) G.N_TooLarge rfl) xa_nil))) xa_nil)))))
 xss_nil))))
 (xss_one (xs_ret (xe_var 1))))), fun ds M Q E h => ?_⟩
  obtain ⟨ps, rfl, hp, h⟩ := h
  have sz : (16777216 : Nat) = sizeLine := sizeLine_eq.symm
  simp! []
  intro l hl
  simp! []
  refine ⟨ps, rfl, hp, fun M1 k1 => ?_⟩
  have h1 := k1 _ _ (mupd_same (M := M) (a := l) (o := .lst [])) (by simp)
  have k01 : Keep [] M M1 := (Keep.new hl).trans k1
  have tk : ∀ (r : Addr) (M2 : Mem), M1 r = none → M2 r = some (.lst (toldD ps)) → (∀ c o, M1 c = some o → (∀ fs, o ≠ .xd fs) → c ≠ l → c ≠ r → M2 c = some o) → Q (.ob r) M2 := fun r M2 hr e2 k2 => by
    refine h r M2 (k01.fresh hr) e2 fun c o hc ho => ?_
    have lc : c ≠ l := ne_new hc hl
    have hc1 := k01 _ _ hc (by simp)
    exact k2 _ _ hc1 ho lc (ne_new hc1 hr)
  have nx : ∀ {dd : Addr} {c : Addr} {o : Ob}, noOb (M1 dd) → M1 c = some o → (∀ fs, o ≠ .xd fs) → c ≠ dd := fun {dd c o} hno hc ho e => by
    obtain ⟨fs, z⟩ := hno o (by rw [← e]; exact hc)
    exact ho fs z
  cases hv : verdict ps with
  | none =>
    simp! [h1]
    refine ⟨by decide, h l _ hl (by rw [mupd_same]; unfold toldD; rw [hv]) fun c o hc ho => ?_⟩
    rw [mupd_ne (ne_new hc hl)]
    exact k01 _ _ hc (by simp)
  | some v =>
    obtain ⟨b, x⟩ := v
    cases b with
    | true =>
      simp! [exTryF, G.M_TooLarge]
      refine fun a dd ha hdd => .inr ⟨_, _, _, _, rfl, fun u hu => by cases hu; rfl, G.S_TooLarge_BadProgram, mupd_same, ?_⟩
      simp! [andK]
      refine ⟨_, _, _, _, rfl, fun u hu => by cases hu; rfl, G.S_TooLarge_ValueError, mupd_same, ?_⟩
      simp! []
      refine ⟨_, _, _, _, rfl, fun u hu => by cases hu; rfl, G.S_TooLarge_TooLarge, mupd_same, ?_⟩
      simp! []
      intro r hr
      have rd : r ≠ dd := fun e => by rw [e, mupd_same] at hr; cases hr
      have hr1 : M1 r = none := by rwa [mupd_ne rd] at hr
      simp! [suiteEnds]
      refine tk r _ hr1 ?_ fun c o hc ho _ rc => by rw [mupd_ne rc, mupd_ne (nx hdd hc ho)]; exact hc
      rw [mupd_same]; unfold toldD; rw [hv]
    | false =>
      simp! [exTryF, G.M_BadProgram]
      refine fun a dd ha hdd => .inl ⟨_, _, _, _, rfl, fun u hu => by cases hu; rfl, G.S_BadProgram_BadProgram, mupd_same, ?_⟩
      simp! [andK]
      refine ⟨_, _, _, _, rfl, fun u hu => by cases hu; rfl, G.S_BadProgram_ValueError, mupd_same, ?_⟩
      simp! []
      refine ⟨_, _, _, _, rfl, fun u hu => by cases hu; rfl, G.S_BadProgram_TooLarge, mupd_same, ?_⟩
      simp! []
      intro r hr
      have rd : r ≠ dd := fun e => by rw [e, mupd_same] at hr; cases hr
      have hr1 : M1 r = none := by rwa [mupd_ne rd] at hr
      simp! [suiteEnds]
      refine tk r _ hr1 ?_ fun c o hc ho _ rc => by rw [mupd_ne rc, mupd_ne (nx hdd hc ho)]; exact hc
      rw [mupd_same]; unfold toldD; rw [hv]
end K04

set_option maxHeartbeats 4000000
namespace K04
open PySem PySem.Spec PyProof.Rows L2 PL SX
variable {P : Program} {w : World} {K : PySem.W.Frag} {mg : Str → Option Value} {base : Heap} {C_CellchainsError C_BadProgram C_TooLarge C_Checker : Addr}
local macro_rules | `(tactic| simp! [$ls,*]) => `(tactic| simp only [s_fld, s_fldK, s_insAt, s_optD, s_obAt, s_fput, s_fputK1, s_fputK2, s_faug, s_faugK1, s_faugK2, s_faugK3, s_meth, s_methK1, s_methK2, s_make, s_makeK, s_makeK2, s_dead, s_tryN, noX_nx, noX_rt, noX_bk, noX_ct, mSplit, opMulS, s_enum, s_enumK, s_sortBy, s_sortByK, look_nil, look_cons, putFD_nil, putFD_cons, List.append_nil, to_nx, to_rt, to_bk, to_ct, to_ex, lp_nx, lp_rt, lp_bk, lp_ct, lp_ex, ret_nx, ret_rt, ret_ex, s_exK, s_bif1, s_bif0, s_optB, s_optE, s_nxD, s_ifK, s_asgN, s_asgT, s_asgL, b_nil, b_nm, b_tp, s_next, s_seq, s_drop, s_ret, s_retN, s_ifS, s_asg, s_brk, s_cont, s_put, s_put1, s_put2, s_put3, s_aug, s_augV, s_augK, s_augK2, s_bin, s_bin1, s_bin2, s_var, s_varK, s_C, s_cb, s_cbK, s_call, s_callK, s_m, s_m1, s_m2, s_nil, s_cons, s_cons1, s_cons2, s_tup, s_tupK, s_lst, s_lstK, s_truth, s_trK, s_tK, s_eK, s_cK, s_and, s_andK, s_or, s_orK, s_not, s_notK, s_ife, s_ifeK, s_andV, s_orV, s_andvK, s_orvK, s_andvK2, s_orvK2, s_notV, s_notvK, s_blK, s_neg, s_negK, s_sl, s_sl1, s_sl2, s_sl3, s_noPart, s_part, s_partK, s_rev, s_revK, s_for, s_forK, s_lc, s_lcK, s_yes, s_walk, s_walkT, s_walkS, s_walkA, s_walkL, s_walkR, s_rng1, s_rng2, s_rng1K, s_rng2K, s_callL, s_callLK, s_callLO, s_clK, s_raise, r_val, r_new, r_put, s_whK, s_lcY, s_lcT, s_lcE, s_cg, s_cgK, s_rng3, s_rng3K, s_lcB, s_lcS, wipeD, Pat.bind, seqOf, rg, s_dict0, s_sortSet, s_sortSetK, q_is_tuple, q_is_str, q_is_int, q_is_bool, q_is_list, q_isR, ofS_inj, String.reduceEq, q_eqI, q_neI, q_eqS, q_neS, decide_true, decide_false, Int.reduceEq, reduceCtorEq, i_NoneType_tuple, i_NoneType_str, i_NoneType_int, i_NoneType_bool, i_NoneType_list, i_bool_tuple, i_bool_str, i_bool_int, i_bool_bool, i_bool_list, i_int_tuple, i_int_str, i_int_int, i_int_bool, i_int_list, i_str_tuple, i_str_str, i_str_int, i_str_bool, i_str_list, i_tuple_tuple, i_tuple_str, i_tuple_int, i_tuple_bool, i_tuple_list, i_list_tuple, i_list_str, i_list_int, i_list_bool, i_list_list, i_dict_tuple, i_dict_str, i_dict_int, i_dict_bool, i_dict_list, tyN, startD, mupd_same, mupd_ne, ne_eq, not_false_eq_true, List.map_cons, List.map_nil, List.length_cons, List.length_nil, List.replicate_succ, List.replicate_zero, Nat.zero_add, Nat.reduceAdd, Nat.reduceSub, Int.cast_ofNat_Int, List.cons_append, List.nil_append, List.getElem?_cons_zero, List.getElem?_cons_succ, List.set_cons_zero, List.set_cons_succ, opIx, atI_cons, ixN, opPut, opAdd, opSub, opMul, opFdiv, opMod, opPow, opLt, opLe, opGt, opGe, opIs, opIsNot, D.isNon, truth, bLen, bAbs, bInt, bTuple, bList, isTy, mAppend, mExtend, mPop, Int.reduceLE, Int.reduceLT, Int.reduceToNat, Int.reduceNeg, Int.reduceNe, Option.bind_some, if_true, if_false, ite_true, ite_false, true_and, and_true, Bool.not_true, Bool.not_false, opIadd, Nat.reduceLT, Nat.reduceLeDiff, Int.ofNat_lt, s_lc2, s_lc2J, s_lc2B, s_lc2T, s_lc2E, s_raiseF, s_raiseFK, s_tryF, s_xf, s_xfK, s_xfAt, s_lenSet, s_lenSetK, opMulT, mInsert, s_dpNil, s_dpCons, s_dpK1, s_dpK2, s_dpK3, s_disp, s_dispK, s_optKV, kvOf, s_dc, s_dcK, s_keys, s_lockK, s_sortIt, mGet, mDPop, dgetR, bDictC, bTupC, opEqD, opNeD, eqDR, D.key, merge_one, optKV, id, opEqL, opNeL, eqLR, $ls,*])
abbrev kSame : Str := Str.ofString "same"
abbrev xp : Str := Str.ofString "x_p"
/-- the statements of the nested blocks -/
def SN (s : St) : Prop := (∀ x ∈ s.places, x = xp ∨ x = nil_) ∧ s.places.length ≤ 2 ∧ ∀ l, callOk l s = true
structure Nest (d : Nat) (b : List St) : Prop where
  st : ∀ s ∈ flat b, SN s
  dep : depL b = d
  size : (flat b).length ≤ 2 * d + 1
theorem sn_new : SN (.at_ .new [xp]) := ⟨by simp [St.places], by simp [St.places], fun _ => rfl⟩
theorem sn_free : SN (.at_ .free [xp]) := ⟨by simp [St.places], by simp [St.places], fun _ => rfl⟩
theorem sn_wh {b : List St} : SN (.wh kSame xp nil_ b) := ⟨by simp [St.places], by simp [St.places], fun _ => rfl⟩
theorem sn_ite {b c : List St} : SN (.ite kSame xp nil_ b c) := ⟨by simp [St.places], by simp [St.places], fun _ => rfl⟩
theorem nest0 : Nest 0 [.at_ .new [xp]] := ⟨fun s hs => by simp only [flat, St.sub, List.nil_append, List.mem_cons, List.not_mem_nil, or_false] at hs; rw [hs]; exact sn_new, rfl, by simp [flat, St.sub]⟩
theorem nest_wh {d : Nat} {b : List St} (h : Nest d b) : Nest (d + 1) [.wh kSame xp nil_ b] := by
  refine ⟨fun s hs => ?_, by simp [depL, St.dep, h.dep], by have := h.size; simp [flat, St.sub]; omega⟩
  simp only [flat, St.sub, List.append_nil, List.mem_cons] at hs
  rcases hs with rfl | hs
  · exact sn_wh
  · exact h.st s hs
theorem nest_if {d : Nat} {b : List St} (h : Nest d b) : Nest (d + 1) [.at_ .free [xp], .ite kSame xp nil_ b []] := by
  refine ⟨fun s hs => ?_, by simp [depL, St.dep, h.dep], by have := h.size; simp [flat, St.sub]; omega⟩
  simp only [flat, St.sub, List.append_nil, List.nil_append, List.mem_cons] at hs
  rcases hs with rfl | rfl | hs
  · exact sn_free
  · exact sn_ite
  · exact h.st s hs
theorem nest_else {d : Nat} {b : List St} (h : Nest d b) : Nest (d + 1) [.ite kSame xp nil_ [] b] := by
  refine ⟨fun s hs => ?_, by simp [depL, St.dep, h.dep], by have := h.size; simp [flat, St.sub]; omega⟩
  simp only [flat, St.sub, List.append_nil, List.nil_append, List.mem_cons] at hs
  rcases hs with rfl | hs
  · exact sn_ite
  · exact h.st s hs
def sp_nested (n : Nat) : DSp := fun ds M Q E => ∃ (a b : Addr) (d : Nat), ds = [.ob a, .int (d : Int)] ∧ StAt M a b ∧ d < n ∧ ∀ (bk : List St) M', Nest d bk → StAt M' a b → Keep [a] M M' → Q (.tup (encL bk)) M'
theorem mono_nested {n : Nat} : MonoSp (sp_nested n) := by
  rintro ds M Q Q' E E' hQ hE ⟨a, b, d, h1, h2, h3, h⟩
  exact ⟨a, b, d, h1, h2, h3, fun x M' z1 z2 z3 => hQ _ _ (h x M' z1 z2 z3)⟩
theorem fn_nested (S0 : Src K mg "_law_nested" s__law_nested ["state", "deep"]) (G : GF K mg C_CellchainsError C_BadProgram C_TooLarge C_Checker) (F__law_draw : Fn P w K mg base 1 "_law_draw" sp_draw []) : ∀ n, Fn P w K mg base (n + 1) "_law_nested" (sp_nested n) [] := by
  intro n
  induction n with
  | zero => exact S0.fn mono_nested fun f fd F => fn_none fun ds M Q E ⟨_, _, _, _, _, h, _⟩ => by omega
  | succ n F__law_nested =>
  refine S0.fn mono_nested fun g fd F => fn_ok F sc__law_nested (fun ds M Q E h => by obtain ⟨a, b, d, rfl, _⟩ := h; rfl) ⟨_, fun cdv A outer s H E hr => have hu := hr.u200
    (xss_cons (xs_if (xt_cmp (x_eq hu) (xe_var 1) xe_int (nomark _) bl_eq)
 (xss_one (xs_ret (xe_tup (n := 1) (xa_cons (xe_tup (n := 2) (xa_cons xe_str (xa_cons xe_str xa_nil))) xa_nil))))
 xss_nil)
 (xss_cons (xs_set 2 sc__law_nested.nd (xe_tup (n := 3) (xa_cons xe_str (xa_cons xe_str (xa_cons xe_str xa_nil)))))
 (xss_cons (xs_if (xt_cmp (x_eq hu) (xe_call F__law_draw (hr.mono (by first | decide | omega)) bx_takes (by rfl) (xa_cons (xe_var 0) (xa_cons xe_int xa_nil))) xe_int (nomark _) bl_eq)
 (xss_one (xs_ret (xe_tup (n := 1) (xa_cons (xe_tup (n := 3) (xa_cons xe_str (xa_cons (xe_var 2) (xa_cons (xe_call F__law_nested (hr.mono (by first | decide | omega)) bx_takes (by rfl) (xa_cons (xe_var 0) (xa_cons (xe_bin x_sub (xe_var 1) xe_int) xa_nil))) xa_nil)))) xa_nil))))
 xss_nil)
 (xss_cons (xs_if (xt_cmp (x_eq hu) (xe_call F__law_draw (hr.mono (by first | decide | omega)) bx_takes (by rfl) (xa_cons (xe_var 0) (xa_cons xe_int xa_nil))) xe_int (nomark _) bl_eq)
 (xss_one (xs_ret (xe_tup (n := 2) (xa_cons (xe_tup (n := 2) (xa_cons xe_str (xa_cons xe_str xa_nil))) (xa_cons (xe_tup (n := 4) (xa_cons xe_str (xa_cons (xe_var 2) (xa_cons (xe_call F__law_nested (hr.mono (by first | decide | omega)) bx_takes (by rfl) (xa_cons (xe_var 0) (xa_cons (xe_bin x_sub (xe_var 1) xe_int) xa_nil))) (xa_cons (xe_tup (n := 0) xa_nil) xa_nil))))) xa_nil)))))
 xss_nil)
 (xss_one (xs_ret (xe_tup (n := 1) (xa_cons (xe_tup (n := 4) (xa_cons xe_str (xa_cons (xe_var 2) (xa_cons (xe_tup (n := 0) xa_nil) (xa_cons (xe_call F__law_nested (hr.mono (by first | decide | omega)) bx_takes (by rfl) (xa_cons (xe_var 0) (xa_cons (xe_bin x_sub (xe_var 1) xe_int) xa_nil))) xa_nil))))) xa_nil)))))))), fun ds M Q E h => ?_⟩
  obtain ⟨a, b, d, rfl, hst, hd, h⟩ := h
  have sz : (16777216 : Nat) = sizeLine := sizeLine_eq.symm
  simp! []
  refine bif_dec (fun z => ?_) fun z => ?_
  · have z : d = 0 := by omega
    subst z
    simp! []
    exact h [.at_ .new [xp]] M nest0 hst Keep.refl
  obtain ⟨e, rfl⟩ : ∃ e, d = e + 1 := ⟨d - 1, by omega⟩
  have e1 : ((e + 1 : Nat) : Int) - 1 = (e : Int) := by omega
  simp! []
  refine ⟨a, b, 3, rfl, hst, by decide, by decide, fun r M1 _ _ hs1 k1 => ?_⟩
  simp! []
  refine bif_dec (fun z => ?_) fun z => ?_
  · simp! [e1]
    refine ⟨a, b, e, rfl, hs1, by omega, fun bk M2 nb hs2 k2 => ?_⟩
    simp! []
    exact h [.wh kSame xp nil_ bk] M2 (nest_wh nb) hs2 (k1.trans k2)
  simp! []
  refine ⟨a, b, 2, rfl, hs1, by decide, by decide, fun r M2 _ _ hs2 k2 => ?_⟩
  simp! []
  refine bif_dec (fun z => ?_) fun z => ?_
  · simp! [e1]
    refine ⟨a, b, e, rfl, hs2, by omega, fun bk M3 nb hs3 k3 => ?_⟩
    simp! []
    exact h [.at_ .free [xp], .ite kSame xp nil_ bk []] M3 (nest_if nb) hs3 ((k1.trans k2).trans k3)
  simp! [e1]
  refine ⟨a, b, e, rfl, hs2, by omega, fun bk M3 nb hs3 k3 => ?_⟩
  simp! []
  exact h [.ite kSame xp nil_ [] bk] M3 (nest_else nb) hs3 ((k1.trans k2).trans k3)
end K04

set_option maxHeartbeats 4000000
namespace K04
open PySem PySem.Spec PyProof.Rows L2 PL SX
variable {P : Program} {w : World} {K : PySem.W.Frag} {mg : Str → Option Value} {base : Heap} {C_CellchainsError C_BadProgram C_TooLarge C_Checker : Addr}
local macro_rules | `(tactic| simp! [$ls,*]) => `(tactic| simp only [s_fld, s_fldK, s_insAt, s_optD, s_obAt, s_fput, s_fputK1, s_fputK2, s_faug, s_faugK1, s_faugK2, s_faugK3, s_meth, s_methK1, s_methK2, s_make, s_makeK, s_makeK2, s_dead, s_tryN, noX_nx, noX_rt, noX_bk, noX_ct, mSplit, opMulS, s_enum, s_enumK, s_sortBy, s_sortByK, look_nil, look_cons, putFD_nil, putFD_cons, List.append_nil, to_nx, to_rt, to_bk, to_ct, to_ex, lp_nx, lp_rt, lp_bk, lp_ct, lp_ex, ret_nx, ret_rt, ret_ex, s_exK, s_bif1, s_bif0, s_optB, s_optE, s_nxD, s_ifK, s_asgN, s_asgT, s_asgL, b_nil, b_nm, b_tp, s_next, s_seq, s_drop, s_ret, s_retN, s_ifS, s_asg, s_brk, s_cont, s_put, s_put1, s_put2, s_put3, s_aug, s_augV, s_augK, s_augK2, s_bin, s_bin1, s_bin2, s_var, s_varK, s_C, s_cb, s_cbK, s_call, s_callK, s_m, s_m1, s_m2, s_nil, s_cons, s_cons1, s_cons2, s_tup, s_tupK, s_lst, s_lstK, s_truth, s_trK, s_tK, s_eK, s_cK, s_and, s_andK, s_or, s_orK, s_not, s_notK, s_ife, s_ifeK, s_andV, s_orV, s_andvK, s_orvK, s_andvK2, s_orvK2, s_notV, s_notvK, s_blK, s_neg, s_negK, s_sl, s_sl1, s_sl2, s_sl3, s_noPart, s_part, s_partK, s_rev, s_revK, s_for, s_forK, s_lc, s_lcK, s_yes, s_walk, s_walkT, s_walkS, s_walkA, s_walkL, s_walkR, s_rng1, s_rng2, s_rng1K, s_rng2K, s_callL, s_callLK, s_callLO, s_clK, s_raise, r_val, r_new, r_put, s_whK, s_lcY, s_lcT, s_lcE, s_cg, s_cgK, s_rng3, s_rng3K, s_lcB, s_lcS, wipeD, Pat.bind, seqOf, rg, s_dict0, s_sortSet, s_sortSetK, q_is_tuple, q_is_str, q_is_int, q_is_bool, q_is_list, q_isR, ofS_inj, String.reduceEq, q_eqI, q_neI, q_eqS, q_neS, decide_true, decide_false, Int.reduceEq, reduceCtorEq, i_NoneType_tuple, i_NoneType_str, i_NoneType_int, i_NoneType_bool, i_NoneType_list, i_bool_tuple, i_bool_str, i_bool_int, i_bool_bool, i_bool_list, i_int_tuple, i_int_str, i_int_int, i_int_bool, i_int_list, i_str_tuple, i_str_str, i_str_int, i_str_bool, i_str_list, i_tuple_tuple, i_tuple_str, i_tuple_int, i_tuple_bool, i_tuple_list, i_list_tuple, i_list_str, i_list_int, i_list_bool, i_list_list, i_dict_tuple, i_dict_str, i_dict_int, i_dict_bool, i_dict_list, tyN, startD, mupd_same, mupd_ne, ne_eq, not_false_eq_true, List.map_cons, List.map_nil, List.length_cons, List.length_nil, List.replicate_succ, List.replicate_zero, Nat.zero_add, Nat.reduceAdd, Nat.reduceSub, Int.cast_ofNat_Int, List.cons_append, List.nil_append, List.getElem?_cons_zero, List.getElem?_cons_succ, List.set_cons_zero, List.set_cons_succ, opIx, atI_cons, ixN, opPut, opAdd, opSub, opMul, opFdiv, opMod, opPow, opLt, opLe, opGt, opGe, opIs, opIsNot, D.isNon, truth, bLen, bAbs, bInt, bTuple, bList, isTy, mAppend, mExtend, mPop, Int.reduceLE, Int.reduceLT, Int.reduceToNat, Int.reduceNeg, Int.reduceNe, Option.bind_some, if_true, if_false, ite_true, ite_false, true_and, and_true, Bool.not_true, Bool.not_false, opIadd, Nat.reduceLT, Nat.reduceLeDiff, Int.ofNat_lt, s_lc2, s_lc2J, s_lc2B, s_lc2T, s_lc2E, s_raiseF, s_raiseFK, s_tryF, s_xf, s_xfK, s_xfAt, s_lenSet, s_lenSetK, opMulT, mInsert, s_dpNil, s_dpCons, s_dpK1, s_dpK2, s_dpK3, s_disp, s_dispK, s_optKV, kvOf, s_dc, s_dcK, s_keys, s_lockK, s_sortIt, mGet, mDPop, dgetR, bDictC, bTupC, opEqD, opNeD, eqDR, D.key, merge_one, optKV, id, opEqL, opNeL, eqLR, $ls,*])
def sp_shuf : DSp := fun ds M Q E => ∃ (a b l : Addr) (ps : List Pic), ds = [.ob a, .ob l] ∧ StAt M a b ∧ M l = some (.lst (ps.map encPic)) ∧ l ≠ a ∧ ps.length < 1000 ∧ ∀ (qs : List Pic) r M', qs.Perm ps → M r = none → M' r = some (.lst (qs.map encPic)) → StAt M' a b → Keep [a] M M' → Q (.ob r) M'
theorem mono_shuf : MonoSp sp_shuf := by
  rintro ds M Q Q' E E' hQ hE ⟨a, b, l, ps, h1, h2, h3, h4, h5, h⟩
  exact ⟨a, b, l, ps, h1, h2, h3, h4, h5, fun qs r M' z1 z2 z3 z4 z5 => hQ _ _ (h qs r M' z1 z2 z3 z4 z5)⟩
theorem fn_shuf (S0 : Src K mg "_law_shuffled" s__law_shuffled ["state", "items"]) (G : GF K mg C_CellchainsError C_BadProgram C_TooLarge C_Checker) (F__law_draw : Fn P w K mg base 1 "_law_draw" sp_draw []) : Fn P w K mg base 2 "_law_shuffled" sp_shuf [] := by
  refine S0.fn mono_shuf fun g fd F => fn_ok F sc__law_shuffled (fun ds M Q E h => by obtain ⟨a, b, l, ps, rfl, _⟩ := h; rfl) ⟨_, fun cdv A outer s H E hr => have hu := hr.u200
    (xss_cons (xs_set 2 sc__law_shuffled.nd (xe_lst (n := 0) xa_nil))
 (xss_cons (xs_for (p := .nm 3) bx_passes rfl (xi_walk (xe_var 1)) (xg_name 3 sc__law_shuffled.nd)
 (xss_one (xs_expr (xe_bm PySem.F.plainAttrs_list PySem.F.slot_list_insert PySem.F.type_list_insert m_insert (xe_var 2) (xa_cons (xe_call F__law_draw (hr.mono (by first | decide | omega)) bx_takes (by rfl) (xa_cons (xe_var 0) (xa_cons (xe_bin x_add (xe_callB c_len (by rfl) G.len (by decide +kernel) (xa_cons (xe_var 2) xa_nil)) xe_int) xa_nil))) (xa_cons (xe_var 3) xa_nil))))))
 (xss_one (xs_ret (xe_var 2))))), fun ds M Q E h => ?_⟩
  obtain ⟨a, b, l, ps, rfl, hst, hl, la, few, h⟩ := h
  have sz : (16777216 : Nat) = sizeLine := sizeLine_eq.symm
  simp! []
  intro f hf
  have hfa := (hst.ne hf).1
  have hfb := (hst.ne hf).2
  have fl : l ≠ f := ne_new hl hf
  simp! [mupd_ne fl, hl]
  refine loop_inv encPic (fun rest env M' => ∃ done qs d3, ps = done ++ rest ∧ env = [some (.ob a), some (.ob l), some (.ob f), d3] ∧ M' f = some (.lst (qs.map encPic)) ∧ M' l = some (.lst (ps.map encPic)) ∧ StAt M' a b ∧ Keep [f, a] M M' ∧ qs.Perm done) (fun _ _ _ ⟨_, _, _, _, _, _, z, _⟩ => .inl z) ?_ ?_ ps _ _ ⟨[], [], none, rfl, rfl, mupd_same, by rw [mupd_ne fl]; exact hl, hst.new hf, Keep.new hf, .nil⟩
  · rintro p rest env M1 N ⟨done, qs, d3, e1, rfl, h1, hl1, hs1, k1, pm⟩ hN
    have ql : qs.length = done.length := pm.length_eq
    have dl : done.length < 1000 := by rw [e1, List.length_append] at few; omega
    simp! [h1, List.length_map]
    refine ⟨a, b, _, rfl, hs1, by omega, by omega, fun i M2 i0 i1 hs2 k2 => ?_⟩
    have h2 := k2 _ _ h1 (by simpa using hfa)
    have hl2 := k2 _ _ hl1 (by simpa using la)
    simp! [h2, List.length_map]
    refine ⟨⟨by omega, i0, by omega⟩, ?_⟩
    have e2 : (qs.map encPic).take i.toNat ++ [encPic p] ++ (qs.map encPic).drop i.toNat = (qs.take i.toNat ++ [p] ++ qs.drop i.toNat).map encPic := by rw [List.map_append, List.map_append, List.map_take, List.map_drop]; rfl
    refine hN _ _ ⟨done ++ [p], qs.take i.toNat ++ [p] ++ qs.drop i.toNat, _, by rw [e1]; simp, rfl, by rw [mupd_same, e2], by rw [mupd_ne fl]; exact hl2, hs2.put hfa hfb, (k1.trans (k2.weaken (by simp))).trans (Keep.put (by simp)), ?_⟩
    have : (qs.take i.toNat ++ [p] ++ qs.drop i.toNat).Perm (qs ++ [p]) := by
      have := (List.perm_append_comm (l₁ := [p]) (l₂ := qs.drop i.toNat)).append_left (qs.take i.toNat)
      rw [List.append_assoc]
      refine this.trans ?_
      rw [← List.append_assoc, List.take_append_drop]
    exact this.trans (pm.append_right [p])
  · rintro env M1 ⟨done, qs, d3, e1, rfl, h1, hl1, hs1, k1, pm⟩
    rw [List.append_nil] at e1
    simp! []
    exact h qs f M1 (e1 ▸ pm) hf h1 hs1 fun c o hc hn => k1 _ _ hc (by simp [ne_new hc hf]; simpa using hn)
end K04

set_option maxHeartbeats 4000000
namespace K04
open PySem PySem.Spec PyProof.Rows L2 PL SX
variable {P : Program} {w : World} {K : PySem.W.Frag} {mg : Str → Option Value} {base : Heap} {C_CellchainsError C_BadProgram C_TooLarge C_Checker : Addr}
local macro_rules | `(tactic| simp! [$ls,*]) => `(tactic| simp only [s_fld, s_fldK, s_insAt, s_optD, s_obAt, s_fput, s_fputK1, s_fputK2, s_faug, s_faugK1, s_faugK2, s_faugK3, s_meth, s_methK1, s_methK2, s_make, s_makeK, s_makeK2, s_dead, s_tryN, noX_nx, noX_rt, noX_bk, noX_ct, mSplit, opMulS, s_enum, s_enumK, s_sortBy, s_sortByK, look_nil, look_cons, putFD_nil, putFD_cons, List.append_nil, to_nx, to_rt, to_bk, to_ct, to_ex, lp_nx, lp_rt, lp_bk, lp_ct, lp_ex, ret_nx, ret_rt, ret_ex, s_exK, s_bif1, s_bif0, s_optB, s_optE, s_nxD, s_ifK, s_asgN, s_asgT, s_asgL, b_nil, b_nm, b_tp, s_next, s_seq, s_drop, s_ret, s_retN, s_ifS, s_asg, s_brk, s_cont, s_put, s_put1, s_put2, s_put3, s_aug, s_augV, s_augK, s_augK2, s_bin, s_bin1, s_bin2, s_var, s_varK, s_C, s_cb, s_cbK, s_call, s_callK, s_m, s_m1, s_m2, s_nil, s_cons, s_cons1, s_cons2, s_tup, s_tupK, s_lst, s_lstK, s_truth, s_trK, s_tK, s_eK, s_cK, s_and, s_andK, s_or, s_orK, s_not, s_notK, s_ife, s_ifeK, s_andV, s_orV, s_andvK, s_orvK, s_andvK2, s_orvK2, s_notV, s_notvK, s_blK, s_neg, s_negK, s_sl, s_sl1, s_sl2, s_sl3, s_noPart, s_part, s_partK, s_rev, s_revK, s_for, s_forK, s_lc, s_lcK, s_yes, s_walk, s_walkT, s_walkS, s_walkA, s_walkL, s_walkR, s_rng1, s_rng2, s_rng1K, s_rng2K, s_callL, s_callLK, s_callLO, s_clK, s_raise, r_val, r_new, r_put, s_whK, s_lcY, s_lcT, s_lcE, s_cg, s_cgK, s_rng3, s_rng3K, s_lcB, s_lcS, wipeD, Pat.bind, seqOf, rg, s_dict0, s_sortSet, s_sortSetK, q_is_tuple, q_is_str, q_is_int, q_is_bool, q_is_list, q_isR, ofS_inj, String.reduceEq, q_eqI, q_neI, q_eqS, q_neS, decide_true, decide_false, Int.reduceEq, reduceCtorEq, i_NoneType_tuple, i_NoneType_str, i_NoneType_int, i_NoneType_bool, i_NoneType_list, i_bool_tuple, i_bool_str, i_bool_int, i_bool_bool, i_bool_list, i_int_tuple, i_int_str, i_int_int, i_int_bool, i_int_list, i_str_tuple, i_str_str, i_str_int, i_str_bool, i_str_list, i_tuple_tuple, i_tuple_str, i_tuple_int, i_tuple_bool, i_tuple_list, i_list_tuple, i_list_str, i_list_int, i_list_bool, i_list_list, i_dict_tuple, i_dict_str, i_dict_int, i_dict_bool, i_dict_list, tyN, startD, mupd_same, mupd_ne, ne_eq, not_false_eq_true, List.map_cons, List.map_nil, List.length_cons, List.length_nil, List.replicate_succ, List.replicate_zero, Nat.zero_add, Nat.reduceAdd, Nat.reduceSub, Int.cast_ofNat_Int, List.cons_append, List.nil_append, List.getElem?_cons_zero, List.getElem?_cons_succ, List.set_cons_zero, List.set_cons_succ, opIx, atI_cons, ixN, opPut, opAdd, opSub, opMul, opFdiv, opMod, opPow, opLt, opLe, opGt, opGe, opIs, opIsNot, D.isNon, truth, bLen, bAbs, bInt, bTuple, bList, isTy, mAppend, mExtend, mPop, Int.reduceLE, Int.reduceLT, Int.reduceToNat, Int.reduceNeg, Int.reduceNe, Option.bind_some, if_true, if_false, ite_true, ite_false, true_and, and_true, Bool.not_true, Bool.not_false, opIadd, Nat.reduceLT, Nat.reduceLeDiff, Int.ofNat_lt, s_lc2, s_lc2J, s_lc2B, s_lc2T, s_lc2E, s_raiseF, s_raiseFK, s_tryF, s_xf, s_xfK, s_xfAt, s_lenSet, s_lenSetK, opMulT, mInsert, s_dpNil, s_dpCons, s_dpK1, s_dpK2, s_dpK3, s_disp, s_dispK, s_optKV, kvOf, s_dc, s_dcK, s_keys, s_lockK, s_sortIt, mGet, mDPop, dgetR, bDictC, bTupC, opEqD, opNeD, eqDR, D.key, merge_one, optKV, id, opEqL, opNeL, eqLR, $ls,*])
structure PartsOk (xs : List Str) (m : Nat) (p : Pic) : Prop where
  four : p.length = 4
  many : p.flatten.length = m
  in_ : ∀ x ∈ p, ∀ q ∈ x, q.1 ∈ xs ∧ q.2 = nil_
/-- the rows: where they lie and what they hold -/
abbrev Row := Addr × List Pr
structure Rows (M : Mem) (f : Addr) (rs : List Row) : Prop where
  at_ : M f = some (.lst (rs.map fun r => D.ob r.1))
  row : ∀ r ∈ rs, M r.1 = some (.lst (r.2.map encPr))
  nd : (f :: rs.map (·.1)).Nodup
theorem Rows.keep {M M' : Mem} {f : Addr} {rs : List Row} {S : List Addr} (h : Rows M f rs) (k : Keep S M M') (hf : f ∉ S) (hr : ∀ r ∈ rs, r.1 ∉ S) : Rows M' f rs := ⟨k _ _ h.at_ hf, fun r hm => k _ _ (h.row r hm) (hr r hm), h.nd⟩
def sp_lparts : DSp := fun ds M Q E => ∃ (a b l : Addr) (xs : List Str) (m : Nat), ds = [.ob a, .ob l, .int (m : Int)] ∧ StAt M a b ∧ M l = some (.lst (xs.map D.str)) ∧ l ≠ a ∧ xs ≠ [] ∧ xs.length < 1000 ∧ m < 100 ∧ ∀ (p : Pic) M', PartsOk xs m p → StAt M' a b → Keep [a] M M' → Q (encPic p) M'
theorem mono_lparts : MonoSp sp_lparts := by
  rintro ds M Q Q' E E' hQ hE ⟨a, b, l, xs, m, h1, h2, h3, h4, h5, h6, h7, h⟩
  exact ⟨a, b, l, xs, m, h1, h2, h3, h4, h5, h6, h7, fun p M' z1 z2 z3 => hQ _ _ (h p M' z1 z2 z3)⟩
theorem rows_put {M : Mem} {f : Addr} {rs : List Row} (h : Rows M f rs) {i : Nat} (hi : i < rs.length) {q : Pr} : Rows (mupd M (rs[i]).1 (.lst ((rs[i]).2.map encPr ++ [encPr q]))) f (rs.set i ((rs[i]).1, (rs[i]).2 ++ [q])) := by
  have nf : ∀ r ∈ rs, r.1 ≠ f := fun r hr e => (List.nodup_cons.mp h.nd).1 (e ▸ List.mem_map_of_mem (f := (·.1)) hr)
  have e1 : (rs.set i ((rs[i]).1, (rs[i]).2 ++ [q])).map (·.1) = rs.map (·.1) := by
    rw [List.map_set]
    exact List.ext_getElem (by simp) fun j h1 h2 => by
      rw [List.getElem_set]
      split
      · rename_i e; subst e; simp
      · rfl
  refine ⟨?_, fun r hr => ?_, by rw [e1]; exact h.nd⟩
  · rw [mupd_ne (nf _ (List.getElem_mem hi)).symm, h.at_]
    have := congrArg (List.map D.ob) e1
    rw [List.map_map, List.map_map] at this
    exact congrArg some (congrArg Ob.lst this.symm)
  · obtain ⟨j, hj, e⟩ := List.getElem_of_mem hr
    rw [List.getElem_set] at e
    split at e
    · rw [← e]
      show mupd M (rs[i]).1 _ (rs[i]).1 = _
      rw [mupd_same, List.map_append]
      rfl
    · rename_i ne
      have hj' : j < rs.length := by simpa using hj
      have hne : r.1 ≠ (rs[i]).1 := by
        rw [← e]
        intro z
        have nd := (List.nodup_cons.mp h.nd).2
        have := (List.getElem_inj (i := j) (j := i) (h₀ := by simpa using hj') (h₁ := by simpa using hi) nd).mp (by simpa using z)
        exact ne this.symm
      rw [mupd_ne hne]
      exact h.row r (e ▸ List.getElem_mem hj')
def total (rs : List Row) : Nat := (rs.map fun r => r.2.length).sum
theorem total_set {rs : List Row} {i : Nat} (hi : i < rs.length) {q : Pr} : total (rs.set i ((rs[i]).1, (rs[i]).2 ++ [q])) = total rs + 1 := by
  unfold total
  induction rs generalizing i with
  | nil => simp at hi
  | cons r rs ih =>
    cases i with
    | zero => simp; omega
    | succ j =>
      have := ih (i := j) (by simpa using hi)
      simp only [List.set_cons_succ, List.getElem_cons_succ, List.map_cons, List.sum_cons]
      simp only [List.map_set] at this ⊢
      omega
theorem le_total {rs : List Row} {r : Row} (h : r ∈ rs) : r.2.length ≤ total rs := by
  unfold total
  induction rs with
  | nil => cases h
  | cons x rs ih =>
    rw [List.map_cons, List.sum_cons]
    rcases List.mem_cons.mp h with rfl | h
    · omega
    · have := ih h; omega
theorem fn_lparts (S0 : Src K mg "_law_parts" s__law_parts ["state", "names", "many"]) (G : GF K mg C_CellchainsError C_BadProgram C_TooLarge C_Checker) (F__law_draw : Fn P w K mg base 1 "_law_draw" sp_draw []) (F__law_one_of : Fn P w K mg base 2 "_law_one_of" sp_one_of []) : Fn P w K mg base 3 "_law_parts" sp_lparts [] := by
  refine S0.fn mono_lparts fun g fd F => fn_ok F sc__law_parts (fun ds M Q E h => by obtain ⟨a, b, l, xs, m, rfl, _⟩ := h; rfl) ⟨_, fun cdv A outer s H E hr => have hu := hr.u200
    (xss_cons (xs_set 3 sc__law_parts.nd (xe_lst (n := 4) (xa_cons (xe_lst (n := 0) xa_nil) (xa_cons (xe_lst (n := 0) xa_nil) (xa_cons (xe_lst (n := 0) xa_nil) (xa_cons (xe_lst (n := 0) xa_nil) xa_nil))))))
 (xss_cons (xs_for (p := .nm 4) bx_passes rfl (xi_range1 (by rfl) G.range (xa_cons (xe_var 2) xa_nil)) (xg_name 4 sc__law_parts.nd)
 (xss_cons (xs_set 5 sc__law_parts.nd (xe_ix hu (xe_var 3) (xe_call F__law_draw (hr.mono (by first | decide | omega)) bx_takes (by rfl) (xa_cons (xe_var 0) (xa_cons xe_int xa_nil)))))
 (xss_one (xs_expr (xe_bm PySem.F.plainAttrs_list PySem.F.slot_list_append PySem.F.type_list_append m_append (xe_var 5) (xa_cons (xe_tup (n := 2) (xa_cons (xe_call F__law_one_of (hr.mono (by first | decide | omega)) bx_takes (by rfl) (xa_cons (xe_var 0) (xa_cons (xe_var 1) xa_nil))) (xa_cons xe_str xa_nil))) xa_nil))))))
 (xss_one (xs_ret (xe_callTy c_tuple (by rfl) G.tuple (by decide +kernel) (xa_cons (xe_lc (own := [("row", 5)]) (p := .nm 5) rfl sc__law_parts.nd (xi_walk (xe_var 3)) (blkOk_by (by first | (show blkC ["state", "names", "many", "found", "k", "row"] (defScope s__law_parts) _ _ = true; decide +kernel) | kernel_rfl | rfl)) (fun _ _ _ _ _ => (xg_name 5 sc__law_parts.nd)) (fun _ _ _ _ _ => xts_nil) (fun _ _ _ _ _ => (xe_callTy c_tuple (by rfl) G.tuple (by decide +kernel) (xa_cons (xe_var 5) xa_nil)))) xa_nil)))))), fun ds M Q E h => ?_⟩
  obtain ⟨a, b, l, xs, m, rfl, hst, hl, la, ne, few, hm, h⟩ := h
  have sz : (16777216 : Nat) = sizeLine := sizeLine_eq.symm
  simp! []
  intro r0 h0 r1 h1 r2 h2 r3 h3 f hf
  generalize e0 : mupd M r0 (.lst []) = A0 at *
  generalize e1 : mupd A0 r1 (.lst []) = A1 at *
  generalize e2 : mupd A1 r2 (.lst []) = A2 at *
  generalize e3 : mupd A2 r3 (.lst []) = A3 at *
  have a0 : A0 r0 = some (.lst []) := by rw [← e0]; exact mupd_same
  have a1 : A1 r1 = some (.lst []) := by rw [← e1]; exact mupd_same
  have a2 : A2 r2 = some (.lst []) := by rw [← e2]; exact mupd_same
  have a3 : A3 r3 = some (.lst []) := by rw [← e3]; exact mupd_same
  have k0 : Keep [] M A0 := by rw [← e0]; exact Keep.new h0
  have k1 : Keep [] A0 A1 := by rw [← e1]; exact Keep.new h1
  have k2 : Keep [] A1 A2 := by rw [← e2]; exact Keep.new h2
  have k3 : Keep [] A2 A3 := by rw [← e3]; exact Keep.new h3
  clear e0 e1 e2 e3
  have n01 := ne_new a0 h1
  have n02 := ne_new (k1 _ _ a0 (by simp)) h2
  have n12 := ne_new a1 h2
  have n03 := ne_new (k2 _ _ (k1 _ _ a0 (by simp)) (by simp)) h3
  have n13 := ne_new (k2 _ _ a1 (by simp)) h3
  have n23 := ne_new a2 h3
  have b0 := k3 _ _ (k2 _ _ (k1 _ _ a0 (by simp)) (by simp)) (by simp)
  have b1 := k3 _ _ (k2 _ _ a1 (by simp)) (by simp)
  have b2 := k3 _ _ a2 (by simp)
  have n0f := ne_new b0 hf
  have n1f := ne_new b1 hf
  have n2f := ne_new b2 hf
  have n3f := ne_new a3 hf
  have k03 : Keep [] M A3 := ((k0.trans k1).trans k2).trans k3
  have fr1 := k0.fresh h1
  have fr2 := (k0.trans k1).fresh h2
  have fr3 := ((k0.trans k1).trans k2).fresh h3
  have frf := k03.fresh hf
  have rw0 : Rows (mupd A3 f (.lst [.ob r0, .ob r1, .ob r2, .ob r3])) f [(r0, []), (r1, []), (r2, []), (r3, [])] := by
    refine ⟨mupd_same, fun r hr => ?_, ?_⟩
    · simp only [List.mem_cons, List.not_mem_nil, or_false] at hr
      rcases hr with rfl | rfl | rfl | rfl
      · exact (mupd_ne n0f).trans b0
      · exact (mupd_ne n1f).trans b1
      · exact (mupd_ne n2f).trans b2
      · exact (mupd_ne n3f).trans a3
    · simp [n01, n02, n03, n12, n13, n23, n0f.symm, n1f.symm, n2f.symm, n3f.symm]
  have kf : Keep [a] M (mupd A3 f (.lst [.ob r0, .ob r1, .ob r2, .ob r3])) := (k03.trans (Keep.new hf)).weaken (by simp)
  have frs : ∀ r ∈ ([(r0, []), (r1, []), (r2, []), (r3, [])] : List Row), M r.1 = none := fun r hr => by
    simp only [List.mem_cons, List.not_mem_nil, or_false] at hr
    rcases hr with rfl | rfl | rfl | rfl <;> assumption
  have sf : StAt (mupd A3 f (.lst [.ob r0, .ob r1, .ob r2, .ob r3])) a b := (hst.keep k03).new hf
  refine ⟨by omega, ?_⟩
  have la2 : ofA a (.ob l) = false := by simp [ofA, la]
  refine loop_inv (fun i : Nat => D.int (0 + (i : Int))) (fun rest env M' => ∃ rs d4 d5, env = [some (.ob a), some (.ob l), some (.int (m : Int)), some (.ob f), d4, d5] ∧ Rows M' f rs ∧ rs.length = 4 ∧ total rs + rest.length = m ∧ (∀ r ∈ rs, ∀ q ∈ r.2, q.1 ∈ xs ∧ q.2 = nil_) ∧ (∀ r ∈ rs, M r.1 = none) ∧ StAt M' a b ∧ Keep [a] M M') (fun _ _ _ _ => trivial) ?_ ?_ (List.range (m : Int).toNat) _ _ ⟨_, none, none, rfl, rw0, rfl, by simp [total], by simp, frs, sf, kf⟩
  · rintro i rest env M1 N ⟨rs, d4, d5, rfl, rw1, r4, tt, inn, fr, s1, kk⟩ hN
    simp! []
    refine ⟨a, b, 4, rfl, s1, by decide, by decide, fun c M2 c0 c4 s2 k2 => ?_⟩
    have nf : f ≠ a := (hst.ne frf).1
    have rw2 : Rows M2 f rs := rw1.keep k2 (by simpa using nf) fun r hr => by simpa using (hst.ne (fr r hr)).1
    obtain ⟨j, rfl⟩ : ∃ j : Nat, c = (j : Int) := ⟨c.toNat, by omega⟩
    have hj : j < rs.length := by omega
    have ix : atI (rs.map fun r => D.ob r.1) (j : Int) = some (.ob (rs[j]).1) := by
      rw [atI_natI (by rw [List.length_map]; exact hj), List.getElem_map]
    have hl2 := (kk.trans k2) _ _ hl (by simpa using la)
    have hjm := List.getElem_mem hj
    simp! [rw2.at_, ix, rw2.row _ hjm]
    refine ⟨a, b, .ob l, xs.map D.str, rfl, s2, by simp [seqI, hl2], la2, by cases xs <;> simp at ne ⊢, by rw [List.length_map]; omega, fun x M3 hx s3 k3 => ?_⟩
    obtain ⟨y, hy, rfl⟩ := List.mem_map.mp hx
    have rw3 : Rows M3 f rs := rw2.keep k3 (by simpa using nf) fun r hr => by simpa using (hst.ne (fr r hr)).1
    simp! [rw3.row _ hjm, List.length_map]
    have rl : (rs[j]).2.length ≤ total rs := le_total hjm
    refine ⟨by omega, ?_⟩
    have pf : M (rs[j]).1 = none := fr _ hjm
    refine hN _ _ ⟨rs.set j ((rs[j]).1, (rs[j]).2 ++ [(y, nil_)]), _, _, rfl, rows_put (q := (y, nil_)) rw3 hj, by rw [List.length_set]; exact r4, ?_, fun r hr q hq => ?_, fun r hr => ?_, s3.put (hst.ne pf).1 (hst.ne pf).2, fun c o hc hn => ?_⟩
    · rw [total_set hj]; simp only [List.length_cons] at tt; omega
    · rcases List.mem_or_eq_of_mem_set hr with hr | rfl
      · exact inn r hr q hq
      · rcases List.mem_append.mp hq with hq | hq
        · exact inn _ hjm q hq
        · rw [List.mem_singleton.mp hq]; exact ⟨hy, rfl⟩
    · rcases List.mem_or_eq_of_mem_set hr with hr | rfl
      · exact fr r hr
      · exact pf
    · rw [mupd_ne (ne_new hc pf)]
      exact ((kk.trans k2).trans k3) _ _ hc hn
  · rintro env M1 ⟨rs, d4, d5, rfl, rw1, r4, tt, inn, fr, s1, kk⟩
    simp! [rw1.at_]
    intro q hq
    refine lc_pure (fun r : Row => D.ob r.1) (fun r => encPart r.2) (fun _ => true) rs hq (fun M' k => .inl (k _ _ rw1.at_ (by simp))) (by omega) (fun r hr M2 N sk k2 hy _ => ?_) fun M2 k2 e2 => ?_
    · simp! [k2 _ _ (rw1.row r hr) (by simp)]
      exact hy rfl _ Keep.refl
    · rw [filter_tt] at e2
      simp! [e2]
      have ee : rs.map (fun r => encPart r.2) = (rs.map (·.2)).map encPart := by rw [List.map_map]; rfl
      rw [ee]
      refine h (rs.map (·.2)) M2 ⟨by rw [List.length_map]; exact r4, ?_, fun x hx => ?_⟩ (s1.keep k2) (kk.trans (k2.weaken (by simp)))
      · rw [List.length_flatten, List.map_map]; simp only [List.length_nil, Nat.add_zero] at tt; exact tt
      · obtain ⟨r, hr, rfl⟩ := List.mem_map.mp hx
        exact inn r hr
end K04

set_option maxHeartbeats 4000000
namespace K04
open PySem PySem.Spec PyProof.Rows L2 PL SX
variable {P : Program} {w : World} {K : PySem.W.Frag} {mg : Str → Option Value} {base : Heap} {C_CellchainsError C_BadProgram C_TooLarge C_Checker : Addr}
/-! the plain law of the fitting procedures -/
structure FitOk (b : Bool) (nm : Str) (p : Proc) : Prop where
  nm : p.nm = nm
  fit : Fit 6 p
  right : ∀ hs, isRight hs p = true
  small : isSmall p = b
theorem ghosts_nil {p : Proc} (h : ∀ x ∈ picNames p.need, x = nil_ ∨ x ∈ p.ps) : ghosts p = [] := by
  unfold ghosts
  rw [List.filter_eq_nil_iff]
  intro x hx
  obtain ⟨h1, h2⟩ := names_mem.mp hx
  rcases h x h1 with e | e
  · exact absurd e h2
  · simpa using e
structure Sized (e : Pic) : Prop where
  few : e.length < 1000
  each : ∀ x ∈ e, x.length < 1000
theorem fit_mk {p : Proc} (hk : p.known.Nodup) (hl : p.known.length < 60) (hg : ∀ x ∈ picNames p.need, x = nil_ ∨ x ∈ p.ps) (he : ∀ e ∈ p.ens, ∀ x ∈ picNames e, x = nil_ ∨ x ∈ p.known) (hb : ∀ s ∈ flat p.body, (∀ x ∈ s.places, x ∈ p.known ∨ x = nil_) ∧ s.places.length ≤ 2 ∧ ∀ l, callOk l s = true)
    (en : p.ens.length < 1000) (fl : (flat p.body).length < 1000000) (dp : depL p.body < 6) (nd : Sized p.need) (ed : ∀ e ∈ p.ens, Sized e) (hps : p.ps.length < 60) :
    FitOk ((decide (p.known.length ≤ 6) && decide (p.ens.length ≤ 3)) && ((p.need :: p.ens).all fun e => decide (atoms e ≤ 6)) && decide (depL p.body ≤ 4)) p.nm p := by
  have gn := ghosts_nil hg
  refine ⟨rfl, ⟨⟨nil_ :: p.ps, by simp only [List.length_cons]; omega, fun x hx => ?_⟩, fun e hee => ?_, by omega, en, fl, dp, fun s hs => by have := (hb s hs).2.1; omega, ⟨nd.few, nd.each⟩, fun e hee => ⟨(ed e hee).few, (ed e hee).each⟩⟩, fun hs => ?_, ?_⟩
  · rcases hg x hx with e | e <;> simp [e]
  · exact ⟨nil_ :: p.known, by simp only [List.length_cons]; omega, fun x hx => by rcases he e hee x hx with z | z <;> simp [z]⟩
  · unfold isRight headOk ensOk
    rw [gn, decide_eq_true hk]
    simp only [List.any_nil, Bool.not_false, Bool.and_self, Bool.true_and, List.append_nil, Bool.and_eq_true, List.all_eq_true]
    refine ⟨fun e hee x hx => ?_, fun s hs => ?_⟩
    · obtain ⟨h1, h2⟩ := names_mem.mp hx
      rcases he e hee x h1 with z | z
      · exact absurd z h2
      · exact decide_eq_true z
    · obtain ⟨h1, _, h3⟩ := hb s hs
      unfold stOk
      rw [h3, Bool.and_true, List.all_eq_true]
      intro x hx
      refine decide_eq_true ?_
      rcases h1 x hx with z | z <;> simp [z]
  · unfold isSmall manyOk picsOk
    rw [gn]
    simp
abbrev va : Str := Str.ofString "va_p"
abbrev vb : Str := Str.ofString "vb_p"
abbrev vc : Str := Str.ofString "vc_p"
abbrev vd : Str := Str.ofString "vd_p"
abbrev ve : Str := Str.ofString "ve_p"
abbrev vf : Str := Str.ofString "vf_p"
abbrev ga : Str := Str.ofString "ga_p"
abbrev gb : Str := Str.ofString "gb_p"
abbrev gc : Str := Str.ofString "gc_p"
abbrev gd : Str := Str.ofString "gd_p"
def KN : List Str := [xp, va, vb, vc, vd, ve, vf]
abbrev empty4 : Pic := [[], [], [], []]
theorem sized_empty : Sized empty4 := ⟨by decide, by simp⟩
theorem names_empty {x : Str} {P : Prop} (h : x ∈ picNames empty4) : P := by simp [picNames] at h
theorem atoms_empty : atoms empty4 = 0 := rfl
/-- pick 0 -/
def p0 (nm : Str) (c m : Nat) : Proc := ⟨nm, KN.take c, (KN.drop c).take (6 + m - c), empty4, [], []⟩
theorem p0_known : ∀ m, m < 2 → ∀ c, c < 7 → c ≤ 5 + m → (KN.take c ++ (KN.drop c).take (6 + m - c)).Nodup ∧ (KN.take c ++ (KN.drop c).take (6 + m - c)).length = 6 + m := by decide +kernel
theorem p0_ok {nm : Str} {c m : Nat} (hm : m < 2) (hc : c ≤ 5 + m) : FitOk (decide (m = 0)) nm (p0 nm c m) := by
  obtain ⟨k1, k2⟩ := p0_known m hm c (by omega) hc
  have k2' : (p0 nm c m).known.length = 6 + m := k2
  have := fit_mk (p := p0 nm c m) k1 (by omega) (fun x hx => names_empty hx) (fun e he => by cases he) (fun s hs => by cases hs) (by show 0 < _; decide) (by show 0 < _; decide) (by show 0 < _; decide) sized_empty (fun e he => by cases he) (by show (KN.take c).length < 60; rw [List.length_take]; simp [KN]; omega)
  rw [k2'] at this
  have e : (decide (6 + m ≤ 6) && decide ((p0 nm c m).ens.length ≤ 3) && ((p0 nm c m).need :: (p0 nm c m).ens).all (fun e => decide (atoms e ≤ 6)) && decide (depL (p0 nm c m).body ≤ 4)) = decide (m = 0) := by
    have : m = 0 ∨ m = 1 := by omega
    rcases this with rfl | rfl <;> rfl
  rw [e] at this
  exact this
/-- drawn parts -/
theorem parts_names {xs : List Str} {m : Nat} {e : Pic} (h : PartsOk xs m e) {x : Str} (hx : x ∈ picNames e) : x = nil_ ∨ x ∈ xs := by
  unfold picNames at hx
  obtain ⟨l, hl1, hx⟩ := List.mem_flatten.mp hx
  obtain ⟨q, hq, rfl⟩ := List.mem_map.mp hl1
  obtain ⟨part, h1, h2⟩ := List.mem_flatten.mp hq
  have := h.in_ part h1 q h2
  simp only [two, List.mem_cons, List.not_mem_nil, or_false] at hx
  rcases hx with rfl | rfl
  · exact .inr this.1
  · exact .inl this.2
theorem parts_atoms {xs : List Str} {m : Nat} {e : Pic} (h : PartsOk xs m e) : atoms e = m := by
  rw [← h.many]
  unfold atoms
  generalize e = e
  induction e with
  | nil => rfl
  | cons x r ih => rw [List.map_cons, List.sum_cons, ih, List.flatten_cons, List.length_append]; omega
theorem parts_sized {xs : List Str} {m : Nat} {e : Pic} (h : PartsOk xs m e) (hm : m < 1000) : Sized e := by
  refine ⟨by rw [h.four]; decide, fun x hx => ?_⟩
  have : x.length ≤ e.flatten.length := (List.sublist_flatten_of_mem hx).length_le
  rw [h.many] at this
  omega
abbrev two_ : List Str := [xp, va]
/-- pick 3 and pick 5 -/
def p3 (nm : Str) (es : List Pic) : Proc := ⟨nm, [xp], [va], empty4, es, []⟩
theorem p3_ok {nm : Str} {es : List Pic} (hl : es.length < 1000) (h : ∀ e ∈ es, ∃ m, m < 100 ∧ PartsOk two_ m e) : FitOk (decide (es.length ≤ 3) && es.all fun e => decide (atoms e ≤ 6)) nm (p3 nm es) := by
  have := fit_mk (p := p3 nm es) (by show [xp, va].Nodup; decide +kernel) (by show 2 < 60; decide) (fun x hx => names_empty hx) (fun e he x hx => by obtain ⟨m, _, h⟩ := h e he; exact parts_names h hx) (fun s hs => by cases hs) hl (by show 0 < _; decide) (by show 0 < _; decide) sized_empty (fun e he => by obtain ⟨m, _, h⟩ := h e he; exact parts_sized h (by omega)) (by show 1 < 60; decide)
  have e : (decide ((p3 nm es).known.length ≤ 6) && decide ((p3 nm es).ens.length ≤ 3) && ((p3 nm es).need :: (p3 nm es).ens).all (fun e => decide (atoms e ≤ 6)) && decide (depL (p3 nm es).body ≤ 4)) = (decide (es.length ≤ 3) && es.all fun e => decide (atoms e ≤ 6)) := by
    show (true && decide (es.length ≤ 3) && (decide (atoms empty4 ≤ 6) && es.all fun e => decide (atoms e ≤ 6)) && true) = _
    rw [atoms_empty]
    simp
  rw [e] at this
  exact this
/-- pick 4 -/
def p4 (nm : Str) (e : Pic) : Proc := ⟨nm, [xp, va], [], e, [], []⟩
theorem p4_ok {nm : Str} {e : Pic} {m : Nat} (hm : m < 100) (h : PartsOk two_ m e) : FitOk (decide (m ≤ 6)) nm (p4 nm e) := by
  have := fit_mk (p := p4 nm e) (by show [xp, va].Nodup; decide +kernel) (by show 2 < 60; decide) (fun x hx => parts_names h hx) (fun e he => by cases he) (fun s hs => by cases hs) (by show 0 < _; decide) (by show 0 < _; decide) (by show 0 < _; decide) (parts_sized h (by omega)) (fun e he => by cases he) (by show 2 < 60; decide)
  have e : (decide ((p4 nm e).known.length ≤ 6) && decide ((p4 nm e).ens.length ≤ 3) && ((p4 nm e).need :: (p4 nm e).ens).all (fun e => decide (atoms e ≤ 6)) && decide (depL (p4 nm e).body ≤ 4)) = decide (m ≤ 6) := by
    show (true && true && (decide (atoms e ≤ 6) && true) && true) = _
    rw [parts_atoms h]
    simp
    omega
  rw [e] at this
  exact this
/-- pick 6 -/
def p6 (nm : Str) (b c : List St) : Proc := ⟨nm, [xp], [], empty4, [], .at_ .new [xp] :: b ++ c⟩
theorem p6_ok {nm : Str} {m : Nat} {b c : List St} (hm : m < 2) (hb : Nest (4 + m) b) (hc : Nest 4 c) : FitOk (decide (m = 0)) nm (p6 nm b c) := by
  have fe : flat (p6 nm b c).body = .at_ .new [xp] :: (flat b ++ flat c) := by
    show flat (.at_ .new [xp] :: b ++ c) = _
    rw [flat_app]; simp [flat, St.sub]
  have de : depL (p6 nm b c).body = 4 + m := by
    show depL (.at_ .new [xp] :: b ++ c) = _
    rw [depL_app]; simp [depL, St.dep, hb.dep, hc.dep]
  have sb := hb.size
  have sc := hc.size
  have sn : ∀ s ∈ flat (p6 nm b c).body, SN s := fun s hs => by
    rw [fe] at hs
    rcases List.mem_cons.mp hs with rfl | hs
    · exact sn_new
    · rcases List.mem_append.mp hs with hs | hs
      · exact hb.st s hs
      · exact hc.st s hs
  have := fit_mk (p := p6 nm b c) (by show [xp].Nodup; decide +kernel) (by show 1 < 60; decide) (fun x hx => names_empty hx) (fun e he => by cases he) (fun s hs => ⟨fun x hx => ((sn s hs).1 x hx).imp (fun e => by rw [e]; exact List.mem_singleton.mpr rfl) id, (sn s hs).2⟩) (by show 0 < _; decide) (by rw [fe, List.length_cons, List.length_append]; omega) (by rw [de]; omega) sized_empty (fun e he => by cases he) (by show 1 < 60; decide)
  have e : (decide ((p6 nm b c).known.length ≤ 6) && decide ((p6 nm b c).ens.length ≤ 3) && ((p6 nm b c).need :: (p6 nm b c).ens).all (fun e => decide (atoms e ≤ 6)) && decide (depL (p6 nm b c).body ≤ 4)) = decide (m = 0) := by
    rw [de]
    have : m = 0 ∨ m = 1 := by omega
    rcases this with rfl | rfl <;> rfl
  rw [e] at this
  exact this
/-! picks 1 and 2: with ghosts -/
theorem srt_eq {xs ys : List Str} (p : ys.Perm xs) (s : ys.Pairwise leS) : srt xs = ys := pw_unique ((srt_perm xs).trans p.symm) (srt_pw _) s
theorem ghost_mk {p : Proc} {gs : List Str} (h : ghosts p = gs) (fw : FewN p.need) (nd : Sized p.need) (hk : p.known.Nodup) (hl : p.known.length < 60) (hgl : ∀ x ∈ gs, x ∉ p.ls) (he : p.ens = []) (hb : p.body = []) :
    FitOk (decide (p.known.length + gs.length ≤ 6) && decide (gs.length ≤ 3) && decide (atoms p.need ≤ 6)) p.nm p := by
  refine ⟨rfl, ⟨fw, (fun e hee => by rw [he] at hee; cases hee), by omega, by rw [he]; decide, by rw [hb]; decide, by rw [hb]; decide, (fun s hs => by rw [hb] at hs; cases hs), ⟨nd.few, nd.each⟩, (fun e hee => by rw [he] at hee; cases hee)⟩, fun hs => ?_, ?_⟩
  · unfold isRight headOk ensOk
    rw [h, he, hb, decide_eq_true hk]
    simp only [flat, List.all_nil, Bool.and_true, Bool.true_and, Bool.not_eq_true', List.any_eq_false]
    intro x hx
    simpa using hgl x hx
  · unfold isSmall manyOk picsOk
    rw [h, he, hb]
    simp [depL]
def need1 (m : Nat) : Pic := [[], [(ga, gb)], [(gc, xp)], [(gd, nil_)].take m]
def p1 (nm : Str) (m : Nat) : Proc := ⟨nm, [xp], [va, vb].take (2 - m), need1 m, [], []⟩
theorem fin_few {e : Pic} (h : (picNames e).length < 64) : FewN e := ⟨picNames e, h, fun _ => id⟩
theorem p1_ok {nm : Str} {m : Nat} (hm : m < 2) : FitOk (decide (m = 0)) nm (p1 nm m) := by
  have : m = 0 ∨ m = 1 := by omega
  rcases this with rfl | rfl
  · have g : ghosts (p1 nm 0) = [ga, gb, gc] := by
      unfold ghosts names
      rw [show nub (picNames (p1 nm 0).need) = nub (picNames (need1 0)) from rfl, srt_eq (ys := [ga, gb, gc, xp]) (by decide +kernel) (by decide +kernel)]
      show List.filter (fun x => !decide (x ∈ [xp])) (List.filter _ _) = _
      decide +kernel
    exact ghost_mk g (fin_few (by show (picNames (need1 0)).length < 64; decide)) ⟨by show (need1 0).length < _; decide, by show ∀ x ∈ need1 0, x.length < 1000; decide⟩ (by show [xp, va, vb].Nodup; decide +kernel) (by show 3 < 60; decide) (by show ∀ x ∈ [ga, gb, gc], x ∉ [va, vb]; decide +kernel) rfl rfl
  · have g : ghosts (p1 nm 1) = [ga, gb, gc, gd] := by
      unfold ghosts names
      rw [show nub (picNames (p1 nm 1).need) = nub (picNames (need1 1)) from rfl, srt_eq (ys := [ga, gb, gc, gd, nil_, xp]) (by decide +kernel) (by decide +kernel)]
      show List.filter (fun x => !decide (x ∈ [xp])) (List.filter _ _) = _
      decide +kernel
    exact ghost_mk g (fin_few (by show (picNames (need1 1)).length < 64; decide)) ⟨by show (need1 1).length < _; decide, by show ∀ x ∈ need1 1, x.length < 1000; decide⟩ (by show [xp, va].Nodup; decide +kernel) (by show 2 < 60; decide) (by show ∀ x ∈ [ga, gb, gc, gd], x ∉ [va]; decide +kernel) rfl rfl
def need2 : Pic := [[(ga, gb)], [], [(gc, xp)], []]
def p2 (nm : Str) (m : Nat) : Proc := ⟨nm, [xp, va].take (1 + m), [vb, vc], need2, [], []⟩
theorem p2_ok {nm : Str} {m : Nat} (hm : m < 2) : FitOk (decide (m = 0)) nm (p2 nm m) := by
  have s2 : srt (nub (picNames need2)) = [ga, gb, gc, xp] := srt_eq (by decide +kernel) (by decide +kernel)
  have : m = 0 ∨ m = 1 := by omega
  rcases this with rfl | rfl
  · have g : ghosts (p2 nm 0) = [ga, gb, gc] := by
      unfold ghosts names
      rw [show nub (picNames (p2 nm 0).need) = nub (picNames need2) from rfl, s2]
      show List.filter (fun x => !decide (x ∈ [xp])) (List.filter _ _) = _
      decide +kernel
    exact ghost_mk g (fin_few (by show (picNames need2).length < 64; decide)) ⟨by show need2.length < _; decide, by show ∀ x ∈ need2, x.length < 1000; decide⟩ (by show [xp, vb, vc].Nodup; decide +kernel) (by show 3 < 60; decide) (by show ∀ x ∈ [ga, gb, gc], x ∉ [vb, vc]; decide +kernel) rfl rfl
  · have g : ghosts (p2 nm 1) = [ga, gb, gc] := by
      unfold ghosts names
      rw [show nub (picNames (p2 nm 1).need) = nub (picNames need2) from rfl, s2]
      show List.filter (fun x => !decide (x ∈ [xp, va])) (List.filter _ _) = _
      decide +kernel
    exact ghost_mk g (fin_few (by show (picNames need2).length < 64; decide)) ⟨by show need2.length < _; decide, by show ∀ x ∈ need2, x.length < 1000; decide⟩ (by show [xp, va, vb, vc].Nodup; decide +kernel) (by show 4 < 60; decide) (by show ∀ x ∈ [ga, gb, gc], x ∉ [vb, vc]; decide +kernel) rfl rfl
end K04

set_option maxHeartbeats 4000000
namespace K04
open PySem PySem.Spec PyProof.Rows L2 PL SX
variable {P : Program} {w : World} {K : PySem.W.Frag} {mg : Str → Option Value} {base : Heap} {C_CellchainsError C_BadProgram C_TooLarge C_Checker : Addr}
local macro_rules | `(tactic| simp! [$ls,*]) => `(tactic| simp only [s_fld, s_fldK, s_insAt, s_optD, s_obAt, s_fput, s_fputK1, s_fputK2, s_faug, s_faugK1, s_faugK2, s_faugK3, s_meth, s_methK1, s_methK2, s_make, s_makeK, s_makeK2, s_dead, s_tryN, noX_nx, noX_rt, noX_bk, noX_ct, mSplit, opMulS, s_enum, s_enumK, s_sortBy, s_sortByK, look_nil, look_cons, putFD_nil, putFD_cons, List.append_nil, to_nx, to_rt, to_bk, to_ct, to_ex, lp_nx, lp_rt, lp_bk, lp_ct, lp_ex, ret_nx, ret_rt, ret_ex, s_exK, s_bif1, s_bif0, s_optB, s_optE, s_nxD, s_ifK, s_asgN, s_asgT, s_asgL, b_nil, b_nm, b_tp, s_next, s_seq, s_drop, s_ret, s_retN, s_ifS, s_asg, s_brk, s_cont, s_put, s_put1, s_put2, s_put3, s_aug, s_augV, s_augK, s_augK2, s_bin, s_bin1, s_bin2, s_var, s_varK, s_C, s_cb, s_cbK, s_call, s_callK, s_m, s_m1, s_m2, s_nil, s_cons, s_cons1, s_cons2, s_tup, s_tupK, s_lst, s_lstK, s_truth, s_trK, s_tK, s_eK, s_cK, s_and, s_andK, s_or, s_orK, s_not, s_notK, s_ife, s_ifeK, s_andV, s_orV, s_andvK, s_orvK, s_andvK2, s_orvK2, s_notV, s_notvK, s_blK, s_neg, s_negK, s_sl, s_sl1, s_sl2, s_sl3, s_noPart, s_part, s_partK, s_rev, s_revK, s_for, s_forK, s_lc, s_lcK, s_yes, s_walk, s_walkT, s_walkS, s_walkA, s_walkL, s_walkR, s_rng1, s_rng2, s_rng1K, s_rng2K, s_callL, s_callLK, s_callLO, s_clK, s_raise, r_val, r_new, r_put, s_whK, s_lcY, s_lcT, s_lcE, s_cg, s_cgK, s_rng3, s_rng3K, s_lcB, s_lcS, wipeD, Pat.bind, seqOf, rg, s_dict0, s_sortSet, s_sortSetK, q_is_tuple, q_is_str, q_is_int, q_is_bool, q_is_list, q_isR, ofS_inj, String.reduceEq, q_eqI, q_neI, q_eqS, q_neS, decide_true, decide_false, Int.reduceEq, reduceCtorEq, i_NoneType_tuple, i_NoneType_str, i_NoneType_int, i_NoneType_bool, i_NoneType_list, i_bool_tuple, i_bool_str, i_bool_int, i_bool_bool, i_bool_list, i_int_tuple, i_int_str, i_int_int, i_int_bool, i_int_list, i_str_tuple, i_str_str, i_str_int, i_str_bool, i_str_list, i_tuple_tuple, i_tuple_str, i_tuple_int, i_tuple_bool, i_tuple_list, i_list_tuple, i_list_str, i_list_int, i_list_bool, i_list_list, i_dict_tuple, i_dict_str, i_dict_int, i_dict_bool, i_dict_list, tyN, startD, mupd_same, mupd_ne, ne_eq, not_false_eq_true, List.map_cons, List.map_nil, List.length_cons, List.length_nil, List.replicate_succ, List.replicate_zero, Nat.zero_add, Nat.reduceAdd, Nat.reduceSub, Int.cast_ofNat_Int, List.cons_append, List.nil_append, List.getElem?_cons_zero, List.getElem?_cons_succ, List.set_cons_zero, List.set_cons_succ, opIx, atI_cons, ixN, opPut, opAdd, opSub, opMul, opFdiv, opMod, opPow, opLt, opLe, opGt, opGe, opIs, opIsNot, D.isNon, truth, bLen, bAbs, bInt, bTuple, bList, isTy, mAppend, mExtend, mPop, Int.reduceLE, Int.reduceLT, Int.reduceToNat, Int.reduceNeg, Int.reduceNe, Option.bind_some, if_true, if_false, ite_true, ite_false, true_and, and_true, Bool.not_true, Bool.not_false, opIadd, Nat.reduceLT, Nat.reduceLeDiff, Int.ofNat_lt, s_lc2, s_lc2J, s_lc2B, s_lc2T, s_lc2E, s_raiseF, s_raiseFK, s_tryF, s_xf, s_xfK, s_xfAt, s_lenSet, s_lenSetK, opMulT, mInsert, s_dpNil, s_dpCons, s_dpK1, s_dpK2, s_dpK3, s_disp, s_dispK, s_optKV, kvOf, s_dc, s_dcK, s_keys, s_lockK, s_sortIt, mGet, mDPop, dgetR, bDictC, bTupC, opEqD, opNeD, eqDR, D.key, merge_one, optKV, id, opEqL, opNeL, eqLR, $ls,*])
def sp_fitting : DSp := fun ds M Q E => ∃ (a b : Addr) (nm : Str) (pick m : Nat), ds = [.ob a, .str nm, .int (pick : Int), .int (m : Int)] ∧ StAt M a b ∧ m < 2 ∧ ∀ p M', FitOk (decide (m = 0)) nm p → StAt M' a b → Keep [a] M M' → Q p.enc M'
theorem mono_fitting : MonoSp sp_fitting := by
  rintro ds M Q Q' E E' hQ hE ⟨a, b, nm, k, m, h1, h2, h3, h⟩
  exact ⟨a, b, nm, k, m, h1, h2, h3, fun x M' z1 z2 z3 => hQ _ _ (h x M' z1 z2 z3)⟩
theorem outs_of {α : Type} {f : α → D} {T : α → Prop} : ∀ {ds : List D}, (∀ d ∈ ds, ∃ x, T x ∧ d = f x) → ∃ ss : List α, ds = ss.map f ∧ ∀ x ∈ ss, T x
  | [], _ => ⟨[], rfl, fun p h => by cases h⟩
  | d :: ds, h => by
    obtain ⟨ss, rfl, h2⟩ := outs_of (f := f) (T := T) (ds := ds) fun d hd => h d (List.mem_cons_of_mem _ hd)
    obtain ⟨x, hx, rfl⟩ := h d List.mem_cons_self
    refine ⟨x :: ss, rfl, fun p hp => ?_⟩
    rcases List.mem_cons.mp hp with e | e
    · rw [e]; exact hx
    · exact h2 p e
theorem outs_list {α β : Type} {f : α → D} {T : α → Prop} {R : β → Option D → Prop} (hR : ∀ b o, R b o ↔ ∃ x, T x ∧ o = some (f x)) {bs : List β} {ds : List D} (h : Outs R bs ds) : ∃ ss : List α, ds = ss.map f ∧ (∀ x ∈ ss, T x) ∧ ss.length = bs.length := by
  obtain ⟨ss, e, h2⟩ := outs_of (f := f) (T := T) (ds := ds) (h.all fun b d hd => by
    obtain ⟨x, h1, h2⟩ := (hR b _).mp hd
    cases h2
    exact ⟨x, h1, rfl⟩)
  refine ⟨ss, e, h2, ?_⟩
  have := h.lenEq fun b hb => by
    obtain ⟨x, _, q⟩ := (hR b _).mp hb
    cases q
  rw [← this, e, List.length_map]
theorem encL_len (b : List St) : (encL b).length ≤ (flat b).length := by
  rw [encL_map, List.length_map]
  induction b with
  | nil => simp
  | cons s r ih => simp only [flat, List.length_cons, List.length_append]; omega
theorem cut_mid {α : Type} (xs : List α) (c d : Nat) (h1 : c ≤ d) (h2 : d ≤ xs.length) : PL.cutD xs (some (c : Int)) (some (d : Int)) = (xs.drop c).take (d - c) := by
  unfold PL.cutD
  rw [HT.sIx_nat, HT.sIx_nat, Nat.min_eq_left h2, Nat.min_eq_left (by omega)]
theorem fn_fitting (S0 : Src K mg "_law_fitting" s__law_fitting ["state", "name", "pick", "more"]) (G : GF K mg C_CellchainsError C_BadProgram C_TooLarge C_Checker) (F__law_draw : Fn P w K mg base 1 "_law_draw" sp_draw []) (F__law_shuffled : Fn P w K mg base 2 "_law_shuffled" sp_shuf []) (F__law_parts : Fn P w K mg base 3 "_law_parts" sp_lparts []) (F__law_nested : Fn P w K mg base 7 "_law_nested" (sp_nested 6) []) : Fn P w K mg base 8 "_law_fitting" sp_fitting [] := by
  refine S0.fn mono_fitting fun g fd F => fn_ok F sc__law_fitting (fun ds M Q E h => by obtain ⟨a, b, nm, k, m, rfl, _⟩ := h; rfl) ⟨_, fun cdv A outer s H E hr => have hu := hr.u200
    (xss_cons (xs_set 4 sc__law_fitting.nd (xe_tup (n := 4) (xa_cons (xe_tup (n := 0) xa_nil) (xa_cons (xe_tup (n := 0) xa_nil) (xa_cons (xe_tup (n := 0) xa_nil) (xa_cons (xe_tup (n := 0) xa_nil) xa_nil))))))
 (xss_cons (xs_set 5 sc__law_fitting.nd (xe_lst (n := 7) (xa_cons xe_str (xa_cons xe_str (xa_cons xe_str (xa_cons xe_str (xa_cons xe_str (xa_cons xe_str (xa_cons xe_str xa_nil)))))))))
 (xss_cons (xs_if (xt_cmp (x_eq hu) (xe_var 2) xe_int (nomark _) bl_eq)
 (xss_cons (xs_set 6 sc__law_fitting.nd (xe_bin x_add xe_int (xe_call F__law_draw (hr.mono (by first | decide | omega)) bx_takes (by rfl) (xa_cons (xe_var 0) (xa_cons (xe_bin x_add xe_int (xe_var 3)) xa_nil)))))
 (xss_one (xs_ret (xe_tup (n := 6) (xa_cons (xe_var 1) (xa_cons (xe_callTy c_tuple (by rfl) G.tuple (by decide +kernel) (xa_cons (xe_sl (xe_var 5) xo_none (xo_some (xe_var 6))) xa_nil)) (xa_cons (xe_callTy c_tuple (by rfl) G.tuple (by decide +kernel) (xa_cons (xe_sl (xe_var 5) (xo_some (xe_var 6)) (xo_some (xe_bin x_add xe_int (xe_var 3)))) xa_nil)) (xa_cons (xe_var 4) (xa_cons (xe_tup (n := 0) xa_nil) (xa_cons (xe_tup (n := 0) xa_nil) xa_nil))))))))))
 xss_nil)
 (xss_cons (xs_if (xt_cmp (x_eq hu) (xe_var 2) xe_int (nomark _) bl_eq)
 (xss_cons (xs_set 7 sc__law_fitting.nd (xe_tup (n := 4) (xa_cons (xe_tup (n := 0) xa_nil) (xa_cons (xe_tup (n := 1) (xa_cons (xe_tup (n := 2) (xa_cons xe_str (xa_cons xe_str xa_nil))) xa_nil)) (xa_cons (xe_tup (n := 1) (xa_cons (xe_tup (n := 2) (xa_cons xe_str (xa_cons xe_str xa_nil))) xa_nil)) (xa_cons (xe_sl (xe_tup (n := 1) (xa_cons (xe_tup (n := 2) (xa_cons xe_str (xa_cons xe_str xa_nil))) xa_nil)) xo_none (xo_some (xe_var 3))) xa_nil))))))
 (xss_one (xs_ret (xe_tup (n := 6) (xa_cons (xe_var 1) (xa_cons (xe_tup (n := 1) (xa_cons xe_str xa_nil)) (xa_cons (xe_sl (xe_tup (n := 2) (xa_cons xe_str (xa_cons xe_str xa_nil))) xo_none (xo_some (xe_bin x_sub xe_int (xe_var 3)))) (xa_cons (xe_var 7) (xa_cons (xe_tup (n := 0) xa_nil) (xa_cons (xe_tup (n := 0) xa_nil) xa_nil))))))))))
 xss_nil)
 (xss_cons (xs_if (xt_cmp (x_eq hu) (xe_var 2) xe_int (nomark _) bl_eq)
 (xss_cons (xs_set 7 sc__law_fitting.nd (xe_tup (n := 4) (xa_cons (xe_tup (n := 1) (xa_cons (xe_tup (n := 2) (xa_cons xe_str (xa_cons xe_str xa_nil))) xa_nil)) (xa_cons (xe_tup (n := 0) xa_nil) (xa_cons (xe_tup (n := 1) (xa_cons (xe_tup (n := 2) (xa_cons xe_str (xa_cons xe_str xa_nil))) xa_nil)) (xa_cons (xe_tup (n := 0) xa_nil) xa_nil))))))
 (xss_one (xs_ret (xe_tup (n := 6) (xa_cons (xe_var 1) (xa_cons (xe_sl (xe_tup (n := 2) (xa_cons xe_str (xa_cons xe_str xa_nil))) xo_none (xo_some (xe_bin x_add xe_int (xe_var 3)))) (xa_cons (xe_tup (n := 2) (xa_cons xe_str (xa_cons xe_str xa_nil))) (xa_cons (xe_var 7) (xa_cons (xe_tup (n := 0) xa_nil) (xa_cons (xe_tup (n := 0) xa_nil) xa_nil))))))))))
 xss_nil)
 (xss_cons (xs_if (xt_cmp (x_eq hu) (xe_var 2) xe_int (nomark _) bl_eq)
 (xss_cons (xs_set 8 sc__law_fitting.nd (xe_callTy c_tuple (by rfl) G.tuple (by decide +kernel) (xa_cons (xe_lc (own := [("k", 11)]) (p := .nm 11) rfl sc__law_fitting.nd (xi_range1 (by rfl) G.range (xa_cons (xe_bin x_add xe_int (xe_var 3)) xa_nil)) (blkOk_by (by first | (show blkC ["state", "name", "pick", "more", "empty", "known", "many", "need", "ensures", "wide", "body", "k"] (defScope s__law_fitting) _ _ = true; decide +kernel) | kernel_rfl | rfl)) (fun _ _ _ _ _ => (xg_name 11 sc__law_fitting.nd)) (fun _ _ _ _ _ => xts_nil) (fun _ _ _ _ _ => (xe_call F__law_parts (hr.mono (by first | decide | omega)) takes0 (by rfl) (xa_cons (xe_var 0) (xa_cons (xe_sl (xe_var 5) xo_none (xo_some xe_int)) (xa_cons (xe_call F__law_draw (hr.mono (by first | decide | omega)) takes0 (by rfl) (xa_cons (xe_var 0) (xa_cons xe_int xa_nil))) xa_nil)))))) xa_nil)))
 (xss_one (xs_ret (xe_tup (n := 6) (xa_cons (xe_var 1) (xa_cons (xe_callTy c_tuple (by rfl) G.tuple (by decide +kernel) (xa_cons (xe_sl (xe_var 5) xo_none (xo_some xe_int)) xa_nil)) (xa_cons (xe_callTy c_tuple (by rfl) G.tuple (by decide +kernel) (xa_cons (xe_sl (xe_var 5) (xo_some xe_int) (xo_some xe_int)) xa_nil)) (xa_cons (xe_var 4) (xa_cons (xe_var 8) (xa_cons (xe_tup (n := 0) xa_nil) xa_nil))))))))))
 xss_nil)
 (xss_cons (xs_if (xt_cmp (x_eq hu) (xe_var 2) xe_int (nomark _) bl_eq)
 (xss_one (xs_ret (xe_tup (n := 6) (xa_cons (xe_var 1) (xa_cons (xe_callTy c_tuple (by rfl) G.tuple (by decide +kernel) (xa_cons (xe_sl (xe_var 5) xo_none (xo_some xe_int)) xa_nil)) (xa_cons (xe_tup (n := 0) xa_nil) (xa_cons (xe_call F__law_parts (hr.mono (by first | decide | omega)) bx_takes (by rfl) (xa_cons (xe_var 0) (xa_cons (xe_sl (xe_var 5) xo_none (xo_some xe_int)) (xa_cons (xe_bin x_add xe_int (xe_var 3)) xa_nil)))) (xa_cons (xe_tup (n := 0) xa_nil) (xa_cons (xe_tup (n := 0) xa_nil) xa_nil)))))))))
 xss_nil)
 (xss_cons (xs_if (xt_cmp (x_eq hu) (xe_var 2) xe_int (nomark _) bl_eq)
 (xss_cons (xs_set 9 sc__law_fitting.nd (xe_call F__law_parts (hr.mono (by first | decide | omega)) bx_takes (by rfl) (xa_cons (xe_var 0) (xa_cons (xe_sl (xe_var 5) xo_none (xo_some xe_int)) (xa_cons (xe_bin x_add xe_int (xe_var 3)) xa_nil)))))
 (xss_cons (xs_set 8 sc__law_fitting.nd (xe_callTy c_tuple (by rfl) G.tuple (by decide +kernel) (xa_cons (xe_call F__law_shuffled (hr.mono (by first | decide | omega)) bx_takes (by rfl) (xa_cons (xe_var 0) (xa_cons (xe_lst (n := 3) (xa_cons (xe_var 4) (xa_cons (xe_var 9) (xa_cons (xe_call F__law_parts (hr.mono (by first | decide | omega)) bx_takes (by rfl) (xa_cons (xe_var 0) (xa_cons (xe_sl (xe_var 5) xo_none (xo_some xe_int)) (xa_cons xe_int xa_nil)))) xa_nil)))) xa_nil))) xa_nil)))
 (xss_one (xs_ret (xe_tup (n := 6) (xa_cons (xe_var 1) (xa_cons (xe_callTy c_tuple (by rfl) G.tuple (by decide +kernel) (xa_cons (xe_sl (xe_var 5) xo_none (xo_some xe_int)) xa_nil)) (xa_cons (xe_callTy c_tuple (by rfl) G.tuple (by decide +kernel) (xa_cons (xe_sl (xe_var 5) (xo_some xe_int) (xo_some xe_int)) xa_nil)) (xa_cons (xe_var 4) (xa_cons (xe_var 8) (xa_cons (xe_tup (n := 0) xa_nil) xa_nil)))))))))))
 xss_nil)
 (xss_cons (xs_set 10 sc__law_fitting.nd (xe_bin x_add (xe_bin x_add (xe_tup (n := 1) (xa_cons (xe_tup (n := 2) (xa_cons xe_str (xa_cons xe_str xa_nil))) xa_nil)) (xe_call F__law_nested (hr.mono (by first | decide | omega)) bx_takes (by rfl) (xa_cons (xe_var 0) (xa_cons (xe_bin x_add xe_int (xe_var 3)) xa_nil)))) (xe_call F__law_nested (hr.mono (by first | decide | omega)) bx_takes (by rfl) (xa_cons (xe_var 0) (xa_cons xe_int xa_nil)))))
 (xss_one (xs_ret (xe_tup (n := 6) (xa_cons (xe_var 1) (xa_cons (xe_tup (n := 1) (xa_cons xe_str xa_nil)) (xa_cons (xe_tup (n := 0) xa_nil) (xa_cons (xe_var 4) (xa_cons (xe_tup (n := 0) xa_nil) (xa_cons (xe_var 10) xa_nil)))))))))))))))))), fun ds M Q E h => ?_⟩
  obtain ⟨a, b, nm, k, m, rfl, hst, hm, h⟩ := h
  have sz : (16777216 : Nat) = sizeLine := sizeLine_eq.symm
  have e6 : (6 : Int) + (m : Int) = ((6 + m : Nat) : Int) := by omega
  simp! []
  intro kn hkn
  have sk := hst.new (o := .lst (KN.map D.str)) hkn
  have kk : (mupd M kn (.lst (KN.map D.str))) kn = some (.lst (KN.map D.str)) := mupd_same
  have k1 : Keep [a] M (mupd M kn (.lst (KN.map D.str))) := Keep.new hkn
  have kna := (hst.ne hkn).1
  have ek : [D.str (Str.ofString "x_p"), D.str (Str.ofString "va_p"), D.str (Str.ofString "vb_p"), D.str (Str.ofString "vc_p"), D.str (Str.ofString "vd_p"), D.str (Str.ofString "ve_p"), D.str (Str.ofString "vf_p")] = KN.map D.str := rfl
  rw [ek]
  generalize mupd M kn _ = M1 at sk kk k1 ⊢
  refine bif_dec (fun z => ?_) fun z0 => ?_
  · simp! []
    refine ⟨a, b, _, rfl, sk, by omega, by omega, fun c M2 c0 c1 s2 k2 => ?_⟩
    have kk2 := k2 _ _ kk (by simpa using kna)
    obtain ⟨c, rfl⟩ : ∃ j : Nat, c = (j : Int) := ⟨c.toNat, by omega⟩
    have e1c : (1 : Int) + (c : Int) = ((1 + c : Nat) : Int) := by omega
    simp! [e1c, e6, kk2, opSl, cut_take]
    intro p1 hp1
    have n1 := ne_new kk2 hp1
    simp! [mupd_ne n1, kk2, cut_mid (KN.map D.str) (1 + c) (6 + m) (by omega) (by show _ ≤ 7; omega)]
    intro p2 hp2
    rw [← List.map_take] at hp2
    rw [← List.map_drop, ← List.map_take, ← List.map_take]
    exact h (p0 nm (1 + c) m) _ (p0_ok hm (by omega)) ((s2.new hp1).new hp2) (((k1.trans k2).trans (Keep.new hp1)).trans (Keep.new hp2))
  simp! []
  refine bif_dec (fun z => ?_) fun z1 => ?_
  · have e2 : (2 : Int) - (m : Int) = ((2 - m : Nat) : Int) := by omega
    have t1 : List.take m [D.tup [D.str (Str.ofString "gd_p"), D.str (Str.ofString "nil")]] = ([(gd, nil_)].take m).map encPr := by rw [List.map_take]; rfl
    have t2 : List.take (2 - m) [D.str (Str.ofString "va_p"), D.str (Str.ofString "vb_p")] = ([va, vb].take (2 - m)).map D.str := by rw [List.map_take]; rfl
    simp! [opSl, cut_take, e2, t1, t2]
    exact h (p1 nm m) _ (p1_ok hm) sk k1
  simp! []
  refine bif_dec (fun z => ?_) fun z2 => ?_
  · have e2 : (1 : Int) + (m : Int) = ((1 + m : Nat) : Int) := by omega
    have t2 : List.take (1 + m) [D.str (Str.ofString "x_p"), D.str (Str.ofString "va_p")] = ([xp, va].take (1 + m)).map D.str := by rw [List.map_take]; rfl
    simp! [opSl, cut_take, e2, t2]
    exact h (p2 nm m) _ (p2_ok hm) sk k1
  have c2 : PL.cutD (KN.map D.str) none (some 2) = two_.map D.str := cut_take (KN.map D.str) 2
  have c1 : PL.cutD (KN.map D.str) none (some 1) = [D.str xp] := cut_take (KN.map D.str) 1
  have c12 : PL.cutD (KN.map D.str) (some 1) (some 2) = [D.str va] := cut_mid (KN.map D.str) 1 2 (by decide) (by decide)
  simp! []
  refine bif_dec (fun z => ?_) fun z3 => ?_
  · simp! []
    refine ⟨by omega, fun l1 hl1 => ?_⟩
    refine lc_rule (fun i : Nat => D.int (0 + (i : Int))) (fun _ o => ∃ y : Pic, (∃ j, j < 7 ∧ PartsOk two_ j y) ∧ o = some (encPic y)) (fun M => StAt M a b ∧ M kn = some (.lst (KN.map D.str))) [a] (List.range _) hl1 (by simpa using (sk.ne hl1).1) ⟨sk, kk⟩ (fun M' o hj => ⟨hj.1.put (sk.ne hl1).1 (sk.ne hl1).2, by rw [mupd_ne (ne_new kk hl1)]; exact hj.2⟩) (fun _ _ => trivial) (by rw [List.length_range]; omega) (fun i hi M2 N sk2 j2 k2 hy _ => ?_) fun M2 out ho j2 k2 e2 => ?_
    · simp! [j2.2, opSl, c2]
      intro p1 hp1
      refine ⟨a, b, 7, rfl, j2.1.new hp1, by decide, by decide, fun c M3 c0 c7 s3 k3 => ?_⟩
      obtain ⟨c, rfl⟩ : ∃ j : Nat, c = (j : Int) := ⟨c.toNat, by omega⟩
      have p1a := (j2.1.ne hp1).1
      simp! []
      refine ⟨a, b, p1, two_, c, rfl, s3, k3 _ _ mupd_same (by simpa using p1a), p1a, by simp, by decide, by omega, fun e M4 pe s4 k4 => ?_⟩
      have kn3 := k3 _ _ ((mupd_ne (ne_new j2.2 hp1)).trans j2.2) (by simpa using kna)
      exact hy _ M4 ⟨e, ⟨c, by omega, pe⟩, rfl⟩ ⟨s4, k4 _ _ kn3 (by simpa using kna)⟩ (((Keep.new hp1).trans k3).trans k4)
    obtain ⟨es, rfl, eok, esl⟩ := outs_list (f := encPic) (T := fun y => ∃ j, j < 7 ∧ PartsOk two_ j y) (fun b o => Iff.rfl) ho
    rw [List.length_range] at esl
    simp! [e2, j2.2, opSl, c1]
    intro p1 hp1
    have n1 := ne_new j2.2 hp1
    simp! [mupd_ne n1, j2.2, c12]
    intro p2 hp2
    have := p3_ok (nm := nm) (es := es) (by omega) fun e he => by obtain ⟨j, h1, h2⟩ := eok e he; exact ⟨j, by omega, h2⟩
    have eb : (decide (es.length ≤ 3) && es.all fun e => decide (atoms e ≤ 6)) = decide (m = 0) := by
      have : (es.all fun e => decide (atoms e ≤ 6)) = true := by
        rw [List.all_eq_true]
        intro e he
        obtain ⟨j, h1, h2⟩ := eok e he
        rw [parts_atoms h2]
        exact decide_eq_true (by omega)
      rw [this, Bool.and_true]
      exact decide_eq_decide.mpr (by omega)
    rw [eb] at this
    exact h (p3 nm es) _ this ((j2.1.new hp1).new hp2) (((k1.trans k2).trans (Keep.new hp1)).trans (Keep.new hp2))
  simp! []
  refine bif_dec (fun z => ?_) fun z4 => ?_
  · simp! [kk, opSl, c2]
    intro p1 hp1
    have n1 := ne_new kk hp1
    simp! [mupd_ne n1, kk, c2]
    intro p2 hp2
    have p2a := ((sk.new hp1).ne hp2).1
    refine ⟨a, b, p2, two_, 6 + m, by rw [e6], (sk.new hp1).new hp2, mupd_same, p2a, by simp, by decide, by omega, fun e M3 pe s3 k3 => ?_⟩
    simp! []
    have := p4_ok (nm := nm) (by omega) pe
    rw [show decide (6 + m ≤ 6) = decide (m = 0) from decide_eq_decide.mpr (by omega)] at this
    exact h (p4 nm e) _ this s3 (((k1.trans (Keep.new hp1)).trans (Keep.new hp2)).trans k3)
  simp! []
  refine bif_dec (fun z => ?_) fun z5 => ?_
  · simp! [kk, opSl, c2]
    intro p1 hp1
    have p1a := (sk.ne hp1).1
    refine ⟨a, b, p1, two_, 6 + m, by rw [e6], sk.new hp1, mupd_same, p1a, by simp, by decide, by omega, fun wd M2 pw s2 k2 => ?_⟩
    have kn2 := k2 _ _ ((mupd_ne (ne_new kk hp1)).trans kk) (by simpa using kna)
    simp! [kn2, opSl, c2]
    intro p2 hp2
    have p2a := (s2.ne hp2).1
    refine ⟨a, b, p2, two_, 6, rfl, s2.new hp2, mupd_same, p2a, by simp, by decide, by omega, fun w6 M3 pv s3 k3 => ?_⟩
    have kn3 := k3 _ _ ((mupd_ne (ne_new kn2 hp2)).trans kn2) (by simpa using kna)
    simp! []
    intro q3 hp3
    have q3a := (s3.ne hp3).1
    have k13 := ((((k1.trans (Keep.new hp1)).trans k2).trans (Keep.new hp2)).trans k3).trans (Keep.new (o := .lst ([empty4, wd, w6].map encPic)) hp3)
    refine ⟨a, b, q3, [empty4, wd, w6], rfl, s3.new hp3, mupd_same, q3a, by simp, fun qs r M4 pm hr4 e4 s4 k4 => ?_⟩
    have kn4 := k4 _ _ ((mupd_ne (ne_new kn3 hp3)).trans kn3) (by simpa using kna)
    have ql : qs.length = 3 := pm.length_eq
    have qe : ∀ e ∈ qs, ∃ j, j < 100 ∧ PartsOk two_ j e := fun e he => by
      have := pm.mem_iff.mp he
      simp only [List.mem_cons, List.not_mem_nil, or_false] at this
      rcases this with rfl | rfl | rfl
      · exact ⟨0, by decide, by decide, by decide, by simp⟩
      · exact ⟨6 + m, by omega, pw⟩
      · exact ⟨6, by decide, pv⟩
    simp! [e4, kn4, opSl, c1]
    intro q4 hp4
    have n4 := ne_new kn4 hp4
    simp! [mupd_ne n4, kn4, c12]
    intro p5 hp5
    have := p3_ok (nm := nm) (es := qs) (by omega) qe
    have eb : (decide (qs.length ≤ 3) && qs.all fun e => decide (atoms e ≤ 6)) = decide (m = 0) := by
      rw [ql, show (qs.all fun e => decide (atoms e ≤ 6)) = [empty4, wd, w6].all fun e => decide (atoms e ≤ 6) from pm.all_eq]
      simp only [List.all_cons, List.all_nil, parts_atoms pw, parts_atoms pv, atoms_empty]
      have : m = 0 ∨ m = 1 := by omega
      rcases this with rfl | rfl <;> rfl
    rw [eb] at this
    exact h (p3 nm qs) _ this ((s4.new hp4).new hp5) (((k13.trans k4).trans (Keep.new hp4)).trans (Keep.new hp5))
  have e4 : (4 : Int) + (m : Int) = ((4 + m : Nat) : Int) := by omega
  simp! [e4]
  refine ⟨a, b, 4 + m, rfl, sk, by omega, fun bb M2 nb s2 k2 => ?_⟩
  have l1 := encL_len bb
  have l1' := nb.size
  simp! []
  refine ⟨by omega, a, b, 4, rfl, s2, by decide, fun bc M3 nc s3 k3 => ?_⟩
  have l2 := encL_len bc
  have l2' := nc.size
  simp! []
  refine ⟨by omega, ?_⟩
  have := p6_ok (nm := nm) hm nb nc
  have ee : D.tup [D.str (Str.ofString "new"), D.str (Str.ofString "x_p")] :: (encL bb ++ encL bc) = encL (p6 nm bb bc).body := by
    show _ = encL (.at_ .new [xp] :: bb ++ bc)
    rw [encL_map, encL_map, encL_map, List.cons_append, List.map_cons, List.map_append]
    rfl
  rw [ee]
  exact h (p6 nm bb bc) _ this s3 ((k1.trans k2).trans k3)
end K04

set_option maxHeartbeats 4000000
namespace K04
open PySem PySem.Spec PyProof.Rows L2 PL SX
variable {P : Program} {w : World} {K : PySem.W.Frag} {mg : Str → Option Value} {base : Heap} {C_CellchainsError C_BadProgram C_TooLarge C_Checker : Addr}
/-! the plain law of the limits -/
theorem firstDup_app : ∀ (xs seen r : List Str), (seen ++ xs).Nodup → firstDup seen (xs ++ r) = firstDup (seen ++ xs) r
  | [], seen, r, _ => by simp
  | x :: xs, seen, r, h => by
    have hx : x ∉ seen := fun z => (List.nodup_append.mp h).2.2 x z x List.mem_cons_self rfl
    rw [List.cons_append, firstDup, if_neg hx, firstDup_app xs (seen ++ [x]) r (by simpa using h)]
    simp
theorem firstDup_none {xs : List Str} (h : xs.Nodup) : firstDup [] xs = none := by
  have := firstDup_app xs [] [] (by simpa using h)
  rw [List.append_nil] at this
  rw [this]
  rfl
abbrev nms (ws : List Proc) : List Str := ws.map Proc.nm
def AnyOk (p : Proc) : Prop := ∃ b, FitOk b p.nm p
theorem verdict_right {ws : List Proc} (nd : (nms ws).Nodup) (r : ∀ w ∈ ws, AnyOk w) : verdict ws = match (nms ws)[8]? with
      | some x => some (true, x)
      | none => match ws.find? fun p => !isSmall p with
        | some p => some (true, p.nm)
        | none => none := by
  unfold verdict
  rw [firstDup_none nd]
  have e1 : (ws.find? fun p => !isRight (heads ws) p) = none := List.find?_eq_none.mpr fun p hp => by
    obtain ⟨b, h⟩ := r p hp
    rw [h.right]; simp
  first | (simp only [e1]; done) | (simp only [e1]; rfl)
theorem right_v {ws : List Proc} (nd : (nms ws).Nodup) (l : ws.length ≤ 8) (r : ∀ w ∈ ws, FitOk true w.nm w) : verdict ws = none := by
  rw [verdict_right nd fun w hw => ⟨true, r w hw⟩, List.getElem?_eq_none (by rw [List.length_map]; omega)]
  have e3 : (ws.find? fun p => !isSmall p) = none := List.find?_eq_none.mpr fun p hp => by
    rw [(r p hp).small]; simp
  simp only [e3]
theorem wrong_v {xs zs : List Proc} {q : Proc} (nd : (nms (xs ++ q :: zs)).Nodup) (l : (xs ++ q :: zs).length ≤ 8) (rx : ∀ w ∈ xs, FitOk true w.nm w) (rq : FitOk false q.nm q) (rz : ∀ w ∈ zs, AnyOk w) : verdict (xs ++ q :: zs) = some (true, q.nm) := by
  rw [verdict_right nd fun w hw => ?_, List.getElem?_eq_none (by rw [List.length_map]; omega)]
  · have e3 : ((xs ++ q :: zs).find? fun p => !isSmall p) = some q := by
      rw [List.find?_append, List.find?_eq_none.mpr (fun x h => by rw [(rx x h).small]; simp), Option.none_or, List.find?_cons_of_pos (by rw [rq.small]; rfl)]
    simp only [e3]
  · rcases List.mem_append.mp hw with h | h
    · exact ⟨true, rx w h⟩
    · rcases List.mem_cons.mp h with rfl | h
      · exact ⟨false, rq⟩
      · exact rz w h
theorem nine_v {ws : List Proc} {x : Str} (nd : (nms ws).Nodup) (hx : (nms ws)[8]? = some x) (r : ∀ w ∈ ws, AnyOk w) : verdict ws = some (true, x) := by
  rw [verdict_right nd r, hx]
def bad (nm : Str) : Proc := ⟨nm, [xp], [], empty4, [], [.at_ .copy [xp, none_]]⟩
theorem bad_v {xs : List Proc} {nm : Str} (nd : (nms (xs ++ [bad nm])).Nodup) (r : ∀ w ∈ xs, AnyOk w) : verdict (xs ++ [bad nm]) = some (false, nm) := by
  unfold verdict
  rw [firstDup_none nd]
  have : ((xs ++ [bad nm]).find? fun p => !isRight (heads (xs ++ [bad nm])) p) = some (bad nm) := by
    rw [List.find?_append, List.find?_eq_none.mpr (fun x h => by obtain ⟨b, h⟩ := r x h; rw [h.right]; simp), Option.none_or, List.find?_cons_of_pos]
    have : isRight (heads (xs ++ [bad nm])) (bad nm) = false := by
      unfold isRight
      rw [Bool.and_eq_false_iff]
      refine .inr (List.all_eq_false.mpr ⟨.at_ .copy [xp, none_], by show _ ∈ flat [.at_ .copy [xp, none_]]; simp [flat], ?_⟩)
      unfold stOk
      rw [Bool.not_eq_true, Bool.and_eq_false_iff]
      exact .inl (List.all_eq_false.mpr ⟨none_, by simp [St.places], by show ¬ decide (none_ ∈ [xp] ++ [nil_]) = true; decide +kernel⟩)
    rw [this]; rfl
  rw [this]
  rfl
theorem bad_fit (nm : Str) : Fit 6 (bad nm) := by
  refine ⟨fin_few (by show (picNames empty4).length < 64; decide), (fun e he => by cases he), by show 1 < 900; decide, by show 0 < _; decide, by show (flat [.at_ .copy [xp, none_]]).length < _; decide, by show depL [.at_ .copy [xp, none_]] < 6; decide, (fun s hs => ?_), ⟨by show (4 : Nat) < _; decide, by show ∀ x ∈ empty4, x.length < 1000; simp⟩, fun e he => by cases he⟩
  have : s = .at_ .copy [xp, none_] := by simpa [bad, flat, St.sub] using hs
  rw [this]
  simp [St.places]
theorem any_fits {ws : List Proc} (h : ws.length ≤ 1000) (f : ∀ w ∈ ws, Fit 6 w ∧ w.nm.length ≤ 1000) : FitS 6 ws := ⟨h, fun w hw => (f w hw).1, fun w hw => (f w hw).2⟩
end K04

set_option maxHeartbeats 4000000
namespace K04
open PySem PySem.Spec PyProof.Rows L2 PL SX
variable {P : Program} {w : World} {K : PySem.W.Frag} {mg : Str → Option Value} {base : Heap} {C_CellchainsError C_BadProgram C_TooLarge C_Checker : Addr}
local macro_rules | `(tactic| simp! [$ls,*]) => `(tactic| simp only [s_fld, s_fldK, s_insAt, s_optD, s_obAt, s_fput, s_fputK1, s_fputK2, s_faug, s_faugK1, s_faugK2, s_faugK3, s_meth, s_methK1, s_methK2, s_make, s_makeK, s_makeK2, s_dead, s_tryN, noX_nx, noX_rt, noX_bk, noX_ct, mSplit, opMulS, s_enum, s_enumK, s_sortBy, s_sortByK, look_nil, look_cons, putFD_nil, putFD_cons, List.append_nil, to_nx, to_rt, to_bk, to_ct, to_ex, lp_nx, lp_rt, lp_bk, lp_ct, lp_ex, ret_nx, ret_rt, ret_ex, s_exK, s_bif1, s_bif0, s_optB, s_optE, s_nxD, s_ifK, s_asgN, s_asgT, s_asgL, b_nil, b_nm, b_tp, s_next, s_seq, s_drop, s_ret, s_retN, s_ifS, s_asg, s_brk, s_cont, s_put, s_put1, s_put2, s_put3, s_aug, s_augV, s_augK, s_augK2, s_bin, s_bin1, s_bin2, s_var, s_varK, s_C, s_cb, s_cbK, s_call, s_callK, s_m, s_m1, s_m2, s_nil, s_cons, s_cons1, s_cons2, s_tup, s_tupK, s_lst, s_lstK, s_truth, s_trK, s_tK, s_eK, s_cK, s_and, s_andK, s_or, s_orK, s_not, s_notK, s_ife, s_ifeK, s_andV, s_orV, s_andvK, s_orvK, s_andvK2, s_orvK2, s_notV, s_notvK, s_blK, s_neg, s_negK, s_sl, s_sl1, s_sl2, s_sl3, s_noPart, s_part, s_partK, s_rev, s_revK, s_for, s_forK, s_lc, s_lcK, s_yes, s_walk, s_walkT, s_walkS, s_walkA, s_walkL, s_walkR, s_rng1, s_rng2, s_rng1K, s_rng2K, s_callL, s_callLK, s_callLO, s_clK, s_raise, r_val, r_new, r_put, s_whK, s_lcY, s_lcT, s_lcE, s_cg, s_cgK, s_rng3, s_rng3K, s_lcB, s_lcS, wipeD, Pat.bind, seqOf, rg, s_dict0, s_sortSet, s_sortSetK, q_is_tuple, q_is_str, q_is_int, q_is_bool, q_is_list, q_isR, ofS_inj, String.reduceEq, q_eqI, q_neI, q_eqS, q_neS, decide_true, decide_false, Int.reduceEq, reduceCtorEq, i_NoneType_tuple, i_NoneType_str, i_NoneType_int, i_NoneType_bool, i_NoneType_list, i_bool_tuple, i_bool_str, i_bool_int, i_bool_bool, i_bool_list, i_int_tuple, i_int_str, i_int_int, i_int_bool, i_int_list, i_str_tuple, i_str_str, i_str_int, i_str_bool, i_str_list, i_tuple_tuple, i_tuple_str, i_tuple_int, i_tuple_bool, i_tuple_list, i_list_tuple, i_list_str, i_list_int, i_list_bool, i_list_list, i_dict_tuple, i_dict_str, i_dict_int, i_dict_bool, i_dict_list, tyN, startD, mupd_same, mupd_ne, ne_eq, not_false_eq_true, List.map_cons, List.map_nil, List.length_cons, List.length_nil, List.replicate_succ, List.replicate_zero, Nat.zero_add, Nat.reduceAdd, Nat.reduceSub, Int.cast_ofNat_Int, List.cons_append, List.nil_append, List.getElem?_cons_zero, List.getElem?_cons_succ, List.set_cons_zero, List.set_cons_succ, opIx, atI_cons, ixN, opPut, opAdd, opSub, opMul, opFdiv, opMod, opPow, opLt, opLe, opGt, opGe, opIs, opIsNot, D.isNon, truth, bLen, bAbs, bInt, bTuple, bList, isTy, mAppend, mExtend, mPop, Int.reduceLE, Int.reduceLT, Int.reduceToNat, Int.reduceNeg, Int.reduceNe, Option.bind_some, if_true, if_false, ite_true, ite_false, true_and, and_true, Bool.not_true, Bool.not_false, opIadd, Nat.reduceLT, Nat.reduceLeDiff, Int.ofNat_lt, s_lc2, s_lc2J, s_lc2B, s_lc2T, s_lc2E, s_raiseF, s_raiseFK, s_tryF, s_xf, s_xfK, s_xfAt, s_lenSet, s_lenSetK, opMulT, mInsert, s_dpNil, s_dpCons, s_dpK1, s_dpK2, s_dpK3, s_disp, s_dispK, s_optKV, kvOf, s_dc, s_dcK, s_keys, s_lockK, s_sortIt, mGet, mDPop, dgetR, bDictC, bTupC, opEqD, opNeD, eqDR, D.key, merge_one, optKV, id, opEqL, opNeL, eqLR, $ls,*])
def sp_law (K : PySem.W.Frag) : DSp := fun ds M Q E => ∃ (a : Addr) (ns : List Int), ds = [.ob a] ∧ Scr K M a ns ∧ ∀ M', Q (.bl true) M'
theorem mono_law : MonoSp (sp_law K) := by
  rintro ds M Q Q' E E' hQ hE ⟨a, ns, h1, h2, h⟩
  exact ⟨a, ns, h1, h2, fun M' => hQ _ _ (h M')⟩
theorem ne_non {M : Mem} {a b : Addr} {Q : DK} (ha : M a = some (.lst [.non])) (hb : M b = some (.lst [.non])) : (opNe (.ob a) (.ob b) M).run M Q = Q (.bl false) M := by
  simp [opNe, pyM, ha, hb, D.pure, pureL, D.py, pyL, Res.run, PyData.depth, PyData.depthAll, PyData.eqv, PyData.eqvAll, mostDeep]
theorem ne_two {M : Mem} {a b : Addr} {x : Str} {c : Bool} {Q : DK} (ha : M a = some (.lst [.str x, .bl c])) (hb : M b = some (.lst [.str x, .bl c])) : (opNe (.ob a) (.ob b) M).run M Q = Q (.bl false) M := by
  simp [opNe, pyM, ha, hb, D.pure, pureL, D.py, pyL, Res.run, PyData.depth, PyData.depthAll, PyData.eqv, PyData.eqvAll, mostDeep]
theorem told_v {ws : List Proc} {b : Bool} {x : Str} (h : verdict ws = some (b, x)) : toldD ws = [.str x, .bl b] := by unfold toldD; rw [h]
theorem told_n {ws : List Proc} (h : verdict ws = none) : toldD ws = [.non] := by unfold toldD; rw [h]
theorem cut_init {α : Type} (xs : List α) : PL.cutD xs none (some (-1)) = xs.dropLast := by
  unfold PL.cutD
  rw [HT.sIx_none, List.drop_zero, Nat.sub_zero, List.dropLast_eq_take]
  show xs.take (if (-1 : Int) < 0 then (-1 + (xs.length : Int)).toNat else min (-1 : Int).toNat xs.length) = _
  rw [if_pos (by decide)]
  congr 1
  omega
theorem cut_drop {α : Type} (xs : List α) (m : Nat) : PL.cutD xs (some (m : Int)) none = xs.drop m := by
  unfold PL.cutD
  rw [HT.sIx_none, HT.sIx_nat]
  by_cases h : m ≤ xs.length
  · rw [Nat.min_eq_left h, List.take_of_length_le (by rw [List.length_drop]; exact Nat.le_refl _)]
  · rw [Nat.min_eq_right (by omega), Nat.sub_self, List.take_zero, List.drop_eq_nil_of_le (by omega)]
theorem outs_fit {b : Bool} : ∀ {ys : List Str} {out : List D}, Outs (fun x o => ∃ p : Proc, FitOk b x p ∧ o = some p.enc) ys out → ∃ ps : List Proc, out = ps.map Proc.enc ∧ nms ps = ys ∧ ∀ p ∈ ps, FitOk b p.nm p
  | [], _, .nil => ⟨[], rfl, rfl, fun h hh => by cases hh⟩
  | x :: r, _, .yes hR ho => by
    obtain ⟨c, hc, e⟩ := hR
    cases e
    obtain ⟨hs, rfl, h2, h3⟩ := outs_fit ho
    refine ⟨c :: hs, rfl, by rw [nms, List.map_cons, hc.nm]; exact congrArg _ h2, fun h hh => ?_⟩
    rcases List.mem_cons.mp hh with rfl | hh
    · rw [hc.nm]; exact hc
    · exact h3 h hh
  | x :: r, _, .no hR ho => by
    obtain ⟨c, hc, e⟩ := hR
    cases e
structure At (M : Mem) (s b na : Addr) (ns : List Str) : Prop where
  st : StAt M s b
  at_ : M na = some (.lst (ns.map D.str))
  ne : na ≠ s
theorem At.keep {M M' : Mem} {s b r : Addr} {ps : List Str} (h : At M s b r ps) (k : Keep [] M M') : At M' s b r ps := ⟨h.st.keep k, k _ _ h.at_ (by simp), h.ne⟩
theorem At.new {M : Mem} {s b r l : Addr} {ps : List Str} {o : Ob} (h : At M s b r ps) (hl : M l = none) : At (mupd M l o) s b r ps := h.keep (Keep.new hl)
theorem At.keepS {M M' : Mem} {s b r : Addr} {ps : List Str} (h : At M s b r ps) (hs : StAt M' s b) (k : Keep [s] M M') : At M' s b r ps := ⟨hs, k _ _ h.at_ (by simpa using h.ne), h.ne⟩
theorem At.keepX {M M' : Mem} {s b r : Addr} {ps : List Str} (h : At M s b r ps) (k : KeepX M M') : At M' s b r ps := ⟨k.st h.st, k.lst h.at_, h.ne⟩
theorem seq_mid {t u : DS} {Z : DEnds} {env : DEnv} {M : Mem} (R : DEnv → Mem → Prop) (h1 : ∀ N, (∀ e M', R e M' → N e M') → t (Z.to N) env M) (h2 : ∀ e M', R e M' → u Z e M') : dSeq t u Z env M := h1 _ h2
theorem FitOk.self {b : Bool} {x : Str} {q : Proc} (h : FitOk b x q) : FitOk b q.nm q := by rw [h.nm]; exact h
theorem FitOk.any {b : Bool} {x : Str} {q : Proc} (h : FitOk b x q) : AnyOk q := ⟨b, h.self⟩
theorem fits_any {ws : List Proc} {ys : List Str} (hl : ws.length ≤ 1000) (h : ∀ w ∈ ws, AnyOk w) (hn : ∀ x ∈ nms ws, x ∈ ys) (yok : ∀ x ∈ ys, x ≠ none_ ∧ x.length ≤ 1000) : FitS 6 ws := any_fits hl fun w hw => ⟨by obtain ⟨b, h⟩ := h w hw; exact h.fit, (yok _ (hn _ (List.mem_map_of_mem hw))).2⟩
theorem split_at {α : Type} (xs : List α) (i : Nat) (h : i < xs.length) : xs = xs.take i ++ xs[i] :: xs.drop (i + 1) := by
  rw [List.getElem_cons_drop, List.take_append_drop]
/-- a wrong list: beyond a limit at x first -/
structure Wr (ns : List Str) (x : Str) (ws : List Proc) : Prop where
  nm : nms ws = ns
  any : ∀ w ∈ ws, AnyOk w
  v : verdict ws = some (true, x)
theorem nms_put {ps : List Proc} {i : Nat} {q : Proc} (hi : i < ps.length) (e : q.nm = ps[i].nm) : nms (ps.take i ++ [q] ++ ps.drop (i + 1)) = nms ps := by
  rw [congrArg nms (split_at ps i hi)]
  simp only [nms, List.map_append, List.map_cons, List.map_nil, e, List.append_assoc, List.cons_append, List.nil_append]
theorem wrong_ok {ps : List Proc} {ns : List Str} {i : Nat} {q : Proc} (hn : nms ps = ns) (nd : ns.Nodup) (l : ns.length ≤ 8) (r : ∀ w ∈ ps, FitOk true w.nm w) (hi : i < ps.length) (hq : FitOk false ps[i].nm q) : Wr ns ps[i].nm (ps.take i ++ [q] ++ ps.drop (i + 1)) := by
  have e := nms_put (q := q) hi hq.nm
  have ll : (ps.take i ++ [q] ++ ps.drop (i + 1)).length ≤ 8 := by
    have := congrArg List.length (e.trans hn)
    rw [List.length_map] at this
    omega
  have rx : ∀ w ∈ ps.take i, FitOk true w.nm w := fun w hw => r w (List.mem_of_mem_take hw)
  have rz : ∀ w ∈ ps.drop (i + 1), AnyOk w := fun w hw => (r w (List.mem_of_mem_drop hw)).any
  refine ⟨e.trans hn, fun w hw => ?_, ?_⟩
  · rcases List.mem_append.mp hw with h | h
    · rcases List.mem_append.mp h with h | h
      · exact (rx w h).any
      · rw [List.mem_singleton.mp h]; exact hq.any
    · exact rz w h
  · have ea : ps.take i ++ [q] ++ ps.drop (i + 1) = ps.take i ++ q :: ps.drop (i + 1) := by simp
    rw [ea] at e ll ⊢
    rw [← hq.nm]
    exact wrong_v (by rw [e, hn]; exact nd) ll rx hq.self rz
theorem wrong2_ok {ps : List Proc} {ns : List Str} {i : Nat} {q q2 : Proc} (hn : nms ps = ns) (nd : ns.Nodup) (l : ns.length ≤ 8) (r : ∀ w ∈ ps, FitOk true w.nm w) (hi : i < ps.length) (hq : FitOk false ps[i].nm q) (h2 : i + 1 < ps.length) (hq2 : FitOk false (ns[ns.length - 1]'(by rw [← hn, List.length_map]; omega)) q2) :
    Wr ns ps[i].nm ((ps.take i ++ [q] ++ ps.drop (i + 1)).dropLast ++ [q2]) := by
  have wr := wrong_ok hn nd l r hi hq
  have e : nms ((ps.take i ++ [q] ++ ps.drop (i + 1)).dropLast ++ [q2]) = ns := by
    have this : List.map Proc.nm (ps.take i ++ [q] ++ ps.drop (i + 1)) = ns := wr.nm
    rw [nms, List.map_append, List.map_dropLast, this, List.map_cons, List.map_nil, hq2.nm]
    have hne : ns ≠ [] := by rw [← hn]; intro z; have := congrArg List.length z; rw [List.length_map, List.length_nil] at this; omega
    rw [← List.getLast_eq_getElem hne]
    exact List.dropLast_concat_getLast hne
  have ne : ps.drop (i + 1) ≠ [] := fun z => by have := congrArg List.length z; rw [List.length_drop] at this; simp at this; omega
  have e2 : (ps.take i ++ [q] ++ ps.drop (i + 1)).dropLast ++ [q2] = ps.take i ++ q :: ((ps.drop (i + 1)).dropLast ++ [q2]) := by
    rw [List.dropLast_append_of_ne_nil ne]
    simp
  have rx : ∀ w ∈ ps.take i, FitOk true w.nm w := fun w hw => r w (List.mem_of_mem_take hw)
  have rz : ∀ w ∈ (ps.drop (i + 1)).dropLast ++ [q2], AnyOk w := fun w hw => by
    rcases List.mem_append.mp hw with h | h
    · exact (r w (List.mem_of_mem_drop ((List.dropLast_sublist _).subset h))).any
    · rw [List.mem_singleton.mp h]; exact hq2.any
  have ll := congrArg List.length e
  rw [List.length_map] at ll
  refine ⟨e, fun w hw => ?_, ?_⟩
  · rw [e2] at hw
    rcases List.mem_append.mp hw with h | h
    · exact (rx w h).any
    · rcases List.mem_cons.mp h with rfl | h
      · exact hq.any
      · exact rz w h
  · rw [e2] at e ll ⊢
    rw [← hq.nm]
    exact wrong_v (by rw [e]; exact nd) (by omega) rx hq.self rz
theorem ok_law {f : Addr} {fd : FuncData} (F : Fun K "law" "law" s_law f fd) (G : GF K mg C_CellchainsError C_BadProgram C_TooLarge C_Checker) (F__law_start : Fn P w K mg base 1 "_law_start" (sp_start K) []) (F__law_draw : Fn P w K mg base 1 "_law_draw" sp_draw []) (F__law_names : Fn P w K mg base 2 "_law_names" sp_names [])
    (F__law_fitting : Fn P w K mg base 8 "_law_fitting" sp_fitting []) (F__law_told : Fn P w K mg base 12 "_law_told" sp_told []) : FnOk P w K mg base (L2.CX P w) 15 f fd ["script"] (liftSp K (sp_law K)) := by
  refine fn_ok F sc_law (fun ds M Q E h => by obtain ⟨a, m, rfl, _⟩ := h; rfl) ⟨_, fun cdv A outer s H E hr => have hu := hr.u200
    (xss_cons (xs_set 1 sc_law.nd (xe_call F__law_start (hr.mono (by first | decide | omega)) bx_takes (by rfl) (xa_cons (xe_var 0) xa_nil)))
 (xss_cons (xs_set 2 sc_law.nd (xe_callG bSorted_mono c_sorted (by rfl) G.sorted (by decide +kernel) (xa_cons (xe_call F__law_names (hr.mono (by first | decide | omega)) bx_takes (by rfl) (xa_cons (xe_var 1) (xa_cons xe_int xa_nil))) xa_nil)))
 (xss_cons (xs_for (p := .nm 3) bx_passes rfl (xi_range1 (by rfl) G.range (xa_cons xe_int xa_nil)) (xg_name 3 sc_law.nd)
 (xss_cons (xs_set 4 sc_law.nd (xe_ix hu (xe_lst (n := 3) (xa_cons xe_int (xa_cons xe_int (xa_cons xe_int xa_nil)))) (xe_call F__law_draw (hr.mono (by first | decide | omega)) bx_takes (by rfl) (xa_cons (xe_var 1) (xa_cons xe_int xa_nil)))))
 (xss_cons (xs_setLc 5 (own := [("name", 10)]) (p := .nm 10) rfl sc_law.nd rfl (sw_true rfl rfl rfl (by decide +kernel)) (xi_walk (xe_sl (xe_var 2) xo_none (xo_some (xe_var 4)))) (blkOk_by (by first | (show blkC ["script", "state", "names", "turn", "many", "right", "at", "wrong", "bad", "nine", "name"] (defScope s_law) _ _ = true; decide +kernel) | kernel_rfl | rfl)) (fun _ _ _ _ _ => (xg_name 10 sc_law.nd)) (fun _ _ _ _ _ => xts_nil) (fun _ _ _ _ _ => (xe_call F__law_fitting (hr.mono (by first | decide | omega)) takes0 (by rfl) (xa_cons (xe_var 1) (xa_cons (xe_var 10) (xa_cons (xe_call F__law_draw (hr.mono (by first | decide | omega)) takes0 (by rfl) (xa_cons (xe_var 1) (xa_cons xe_int xa_nil))) (xa_cons xe_int xa_nil)))))))
 (xss_cons (xs_if (xt_cmp (x_ne hu) (xe_call F__law_told (hr.mono (by first | decide | omega)) bx_takes (by rfl) (xa_cons (xe_callTy c_tuple (by rfl) G.tuple (by decide +kernel) (xa_cons (xe_var 5) xa_nil)) xa_nil)) (xe_lst (n := 1) (xa_cons xe_non xa_nil)) (nomark _) bl_ne)
 (xss_one (xs_ret xe_bl))
 xss_nil)
 (xss_cons (xs_set 6 sc_law.nd (xe_call F__law_draw (hr.mono (by first | decide | omega)) bx_takes (by rfl) (xa_cons (xe_var 1) (xa_cons (xe_var 4) xa_nil))))
 (xss_cons (xs_set 7 sc_law.nd (xe_bin x_add (xe_bin x_add (xe_sl (xe_var 5) xo_none (xo_some (xe_var 6))) (xe_lst (n := 1) (xa_cons (xe_call F__law_fitting (hr.mono (by first | decide | omega)) bx_takes (by rfl) (xa_cons (xe_var 1) (xa_cons (xe_ix hu (xe_var 2) (xe_var 6)) (xa_cons (xe_call F__law_draw (hr.mono (by first | decide | omega)) bx_takes (by rfl) (xa_cons (xe_var 1) (xa_cons xe_int xa_nil))) (xa_cons xe_int xa_nil))))) xa_nil))) (xe_sl (xe_var 5) (xo_some (xe_bin x_add (xe_var 6) xe_int)) xo_none)))
 (xss_cons (xs_if (xt_wh (xw_and (xt_cmp x_lt (xe_bin x_add (xe_var 6) xe_int) (xe_var 4) (nomark _) bl_lt) (xw_and1 (xt_cmp (x_eq hu) (xe_call F__law_draw (hr.mono (by first | decide | omega)) bx_takes (by rfl) (xa_cons (xe_var 1) (xa_cons xe_int xa_nil))) xe_int (nomark _) bl_eq))))
 (xss_one (xs_set 7 sc_law.nd (xe_bin x_add (xe_sl (xe_var 7) xo_none (xo_some (xe_neg xe_int))) (xe_lst (n := 1) (xa_cons (xe_call F__law_fitting (hr.mono (by first | decide | omega)) bx_takes (by rfl) (xa_cons (xe_var 1) (xa_cons (xe_ix hu (xe_var 2) (xe_bin x_sub (xe_var 4) xe_int)) (xa_cons (xe_call F__law_draw (hr.mono (by first | decide | omega)) bx_takes (by rfl) (xa_cons (xe_var 1) (xa_cons xe_int xa_nil))) (xa_cons xe_int xa_nil))))) xa_nil)))))
 xss_nil)
 (xss_cons (xs_if (xt_cmp (x_ne hu) (xe_call F__law_told (hr.mono (by first | decide | omega)) bx_takes (by rfl) (xa_cons (xe_callTy c_tuple (by rfl) G.tuple (by decide +kernel) (xa_cons (xe_var 7) xa_nil)) xa_nil)) (xe_lst (n := 2) (xa_cons (xe_ix hu (xe_var 2) (xe_var 6)) (xa_cons xe_bl xa_nil))) (nomark _) bl_ne)
 (xss_one (xs_ret xe_bl))
 xss_nil)
 (xss_cons (xs_set 8 sc_law.nd (xe_tup (n := 6) (xa_cons (xe_ix hu (xe_var 2) (xe_var 4)) (xa_cons (xe_tup (n := 1) (xa_cons xe_str xa_nil)) (xa_cons (xe_tup (n := 0) xa_nil) (xa_cons (xe_tup (n := 4) (xa_cons (xe_tup (n := 0) xa_nil) (xa_cons (xe_tup (n := 0) xa_nil) (xa_cons (xe_tup (n := 0) xa_nil) (xa_cons (xe_tup (n := 0) xa_nil) xa_nil))))) (xa_cons (xe_tup (n := 0) xa_nil) (xa_cons (xe_tup (n := 1) (xa_cons (xe_tup (n := 3) (xa_cons xe_str (xa_cons xe_str (xa_cons xe_str xa_nil)))) xa_nil)) xa_nil))))))))
 (xss_cons (xs_if (xt_cmp (x_ne hu) (xe_call F__law_told (hr.mono (by first | decide | omega)) bx_takes (by rfl) (xa_cons (xe_callTy c_tuple (by rfl) G.tuple (by decide +kernel) (xa_cons (xe_bin x_add (xe_var 7) (xe_lst (n := 1) (xa_cons (xe_var 8) xa_nil))) xa_nil)) xa_nil)) (xe_lst (n := 2) (xa_cons (xe_ix hu (xe_var 2) (xe_var 4)) (xa_cons xe_bl xa_nil))) (nomark _) bl_ne)
 (xss_one (xs_ret xe_bl))
 xss_nil)
 (xss_cons (xs_setLc 9 (own := [("name", 10)]) (p := .nm 10) rfl sc_law.nd rfl (sw_true rfl rfl rfl (by decide +kernel)) (xi_walk (xe_var 2)) (blkOk_by (by first | (show blkC ["script", "state", "names", "turn", "many", "right", "at", "wrong", "bad", "nine", "name"] (defScope s_law) _ _ = true; decide +kernel) | kernel_rfl | rfl)) (fun _ _ _ _ _ => (xg_name 10 sc_law.nd)) (fun _ _ _ _ _ => xts_nil) (fun _ _ _ _ _ => (xe_call F__law_fitting (hr.mono (by first | decide | omega)) takes0 (by rfl) (xa_cons (xe_var 1) (xa_cons (xe_var 10) (xa_cons (xe_call F__law_draw (hr.mono (by first | decide | omega)) takes0 (by rfl) (xa_cons (xe_var 1) (xa_cons xe_int xa_nil))) (xa_cons xe_int xa_nil)))))))
 (xss_one (xs_if (xt_cmp (x_ne hu) (xe_call F__law_told (hr.mono (by first | decide | omega)) bx_takes (by rfl) (xa_cons (xe_callTy c_tuple (by rfl) G.tuple (by decide +kernel) (xa_cons (xe_var 9) xa_nil)) xa_nil)) (xe_lst (n := 2) (xa_cons (xe_ix hu (xe_var 2) xe_int) (xa_cons xe_bl xa_nil))) (nomark _) bl_ne)
 (xss_one (xs_ret xe_bl))
 xss_nil)))))))))))))
 (xss_one (xs_ret xe_bl))))), fun ds M Q E h => ?_⟩
  obtain ⟨a, ns, rfl, hs, h⟩ := h
  have sz : (16777216 : Nat) = sizeLine := sizeLine_eq.symm
  simp! []
  refine ⟨a, ns, rfl, hs, fun s b M1 _ _ hs1 k1 => ?_⟩
  simp! []
  refine ⟨s, b, 9, rfl, hs1, by decide, by decide, fun xs nm M2 nd ok len hnm e2 hs2 k2 => ?_⟩
  simp! []
  refine .inl ⟨_, _, xs, rfl, by simp only [lstAt, e2], strsOf_map _, by omega, fun ys na hys hna => ?_⟩
  have yp : ys.Perm xs := by simpa using hys.2
  have yl : ys.length = 9 := by rw [yp.length_eq]; omega
  have ynd : ys.Nodup := yp.nodup_iff.mpr nd
  have yok : ∀ x ∈ ys, x ≠ none_ ∧ x.length ≤ 1000 := fun x hx => ok x (yp.mem_iff.mp hx)
  have at3 : At (mupd M2 na (.lst (ys.map D.str))) s b na ys := ⟨hs2.new hna, mupd_same, (hs2.ne hna).1⟩
  generalize mupd M2 na _ = M3 at at3 ⊢
  simp! []
  refine ⟨by decide, ?_⟩
  refine loop_inv (fun i : Nat => D.int (0 + (i : Int))) (fun rest env M' => ∃ (d3 d4 d5 d6 d7 d8 d9 d10 : Option D), env = [some (.ob a), some (.ob s), some (.ob na), d3, d4, d5, d6, d7, d8, d9, d10] ∧ At M' s b na ys) (fun _ _ _ _ => trivial) ?_ ?_ (List.range 3) _ _ ⟨none, none, none, none, none, none, none, none, rfl, at3⟩
  · rintro turn rest env M4 N ⟨d3, d4, d5, d6, d7, d8, d9, d10, rfl, at4⟩ hN
    generalize hT : dSeq (dIfS (dAnd _ _) _ _) _ = T
    simp! []
    intro l4 hl4
    have at5 := at4.new (o := .lst [.int 1, .int 4, .int 8]) hl4
    have w5 : (mupd M4 l4 (.lst [.int 1, .int 4, .int 8])) l4 = _ := mupd_same
    have l4s := (at4.st.ne hl4).1
    generalize mupd M4 l4 _ = M5 at at5 w5 ⊢
    refine ⟨s, b, 3, rfl, at5.st, by decide, by decide, fun c M6 c0 c3 hs6 k6 => ?_⟩
    have at6 := at5.keepS hs6 k6
    have w6 := k6 _ _ w5 (by simpa using l4s)
    obtain ⟨mm, hm, ix⟩ : ∃ mm : Nat, (mm = 1 ∨ mm = 4 ∨ mm = 8) ∧ atI [D.int 1, .int 4, .int 8] c = some (.int (mm : Int)) := by
      rcases (show c = 0 ∨ c = 1 ∨ c = 2 by omega) with rfl | rfl | rfl
      · exact ⟨1, by simp, rfl⟩
      · exact ⟨4, by simp, rfl⟩
      · exact ⟨8, by simp, rfl⟩
    have m1 : 1 ≤ mm ∧ mm ≤ 8 := by omega
    simp! [w6, ix, at6.at_, opSl, cut_take]
    intro p1 hp1
    rw [← List.map_take]
    have at7 := at6.new (o := .lst ((ys.take mm).map D.str)) hp1
    have w7 : (mupd M6 p1 (.lst ((ys.take mm).map D.str))) p1 = _ := mupd_same
    have p1s := (at6.st.ne hp1).1
    generalize mupd M6 p1 _ = M7 at at7 w7 ⊢
    have tl : (ys.take mm).length = mm := by rw [List.length_take]; omega
    intro r hr
    refine lc_rule D.str (fun x o => ∃ p : Proc, FitOk true x p ∧ o = some p.enc) (fun M => At M s b na ys ∧ M p1 = some (.lst ((ys.take mm).map D.str))) [s] (ys.take mm) hr (by simpa using (at7.st.ne hr).1) ⟨at7, w7⟩ (fun M' o hj => ⟨⟨hj.1.st.put (at7.st.ne hr).1 (at7.st.ne hr).2, by rw [mupd_ne (ne_new at7.at_ hr)]; exact hj.1.at_, hj.1.ne⟩, by rw [mupd_ne (ne_new w7 hr)]; exact hj.2⟩) (fun M' k => .inl (k _ _ w7 (by simpa using p1s))) (by omega) (fun x hx M8 N8 sk j8 k8 hy _ => ?_) fun M8 out ho j8 k8 e8 => ?_
    · simp! []
      refine ⟨s, b, 7, rfl, j8.1.st, by decide, by decide, fun c M9 c0 c7 hs9 k9 => ?_⟩
      have at9 := j8.1.keepS hs9 k9
      have w9 := k9 _ _ j8.2 (by simpa using p1s)
      obtain ⟨c, rfl⟩ : ∃ j : Nat, c = (j : Int) := ⟨c.toNat, by omega⟩
      simp! []
      refine ⟨s, b, x, c, 0, rfl, at9.st, by decide, fun p M10 fp hs10 k10 => ?_⟩
      exact hy _ M10 ⟨p, fp, rfl⟩ ⟨at9.keepS hs10 k10, k10 _ _ w9 (by simpa using p1s)⟩ (k9.trans k10)
    obtain ⟨ps, rfl, pn, pf⟩ := outs_fit ho
    have pl : ps.length = mm := by have := congrArg List.length pn; rw [List.length_map, tl] at this; exact this
    have at8 := j8.1
    have rs := (at7.st.ne hr).1
    have tnd : (ys.take mm).Nodup := ynd.sublist (List.take_sublist _ _)
    have tin : ∀ x ∈ ys.take mm, x ∈ ys := fun x hx => List.mem_of_mem_take hx
    have pnd : (nms ps).Nodup := by rw [pn]; exact tnd
    simp! [e8]
    refine ⟨ps, rfl, fits_any (by omega) (fun w hw => (pf w hw).any) (by rw [pn]; exact tin) yok, fun t M9 ht e9 k9 => ?_⟩
    rw [told_n (right_v pnd (by omega) pf)] at e9
    have at9 := at8.keepX k9
    have r9 := k9.lst e8
    simp! []
    intro l9 hl9
    simp! [ne_non (Q := trK _) (by rw [mupd_ne (ne_new e9 hl9)]; exact e9) (mupd_same (M := M9) (a := l9) (o := .lst [.non]))]
    have at10 := at9.new (o := .lst [.non]) hl9
    have r10 : (mupd M9 l9 (.lst [.non])) r = _ := (mupd_ne (ne_new r9 hl9)).trans r9
    generalize mupd M9 l9 _ = M10 at at10 r10 ⊢
    refine ⟨s, b, _, rfl, at10.st, by omega, by omega, fun i M11 i0 i1 hs11 k11 => ?_⟩
    have at11 := at10.keepS hs11 k11
    have r11 := k11 _ _ r10 (by simpa using rs)
    obtain ⟨i, rfl⟩ : ∃ j : Nat, i = (j : Int) := ⟨i.toNat, by omega⟩
    have il : i < ps.length := by omega
    have e1 : (i : Int) + 1 = ((i + 1 : Nat) : Int) := by omega
    have psn : ∀ (j : Nat) (hj : j < ps.length), ps[j].nm = ys[j]'(by omega) := fun j hj => by
      have h1 : (nms ps)[j]? = (ys.take mm)[j]? := by rw [pn]
      rw [List.getElem?_map, List.getElem?_eq_getElem hj, List.getElem?_take_of_lt (by omega), List.getElem?_eq_getElem (by omega)] at h1
      exact Option.some.inj h1
    have ixy : ∀ j : Nat, (hj : j < 9) → atI (ys.map D.str) (j : Int) = some (.str (ys[j]'(by omega))) := fun j hj => by
      rw [atI_natI (by rw [List.length_map]; omega), List.getElem_map]
    simp! [r11, opSl, cut_take]
    intro p2 hp2
    rw [← List.map_take]
    have at12 := at11.new (o := .lst ((ps.take i).map Proc.enc)) hp2
    have w12 : (mupd M11 p2 (.lst ((ps.take i).map Proc.enc))) p2 = _ := mupd_same
    have r12 : (mupd M11 p2 (.lst ((ps.take i).map Proc.enc))) r = _ := (mupd_ne (ne_new r11 hp2)).trans r11
    have p2s := (at11.st.ne hp2).1
    generalize mupd M11 p2 _ = M12 at at12 w12 r12 ⊢
    simp! [at12.at_, ixy i (by omega)]
    refine ⟨s, b, 7, rfl, at12.st, by decide, by decide, fun c M13 c0 c7 hs13 k13 => ?_⟩
    have at13 := at12.keepS hs13 k13
    have w13 := k13 _ _ w12 (by simpa using p2s)
    have r13 := k13 _ _ r12 (by simpa using rs)
    obtain ⟨c, rfl⟩ : ∃ j : Nat, c = (j : Int) := ⟨c.toNat, by omega⟩
    simp! []
    refine ⟨s, b, ys[i], c, 1, rfl, at13.st, by decide, fun q M14 fq hs14 k14 => ?_⟩
    have fq : FitOk false ps[i].nm q := by rw [psn i il]; exact fq
    have at14 := at13.keepS hs14 k14
    have w14 := k14 _ _ w13 (by simpa using p2s)
    have r14 := k14 _ _ r13 (by simpa using rs)
    simp! []
    intro p3 hp3
    have at15 := at14.new (o := .lst [q.enc]) hp3
    have w15 : (mupd M14 p3 (.lst [q.enc])) p2 = _ := (mupd_ne (ne_new w14 hp3)).trans w14
    have r15 : (mupd M14 p3 (.lst [q.enc])) r = _ := (mupd_ne (ne_new r14 hp3)).trans r14
    have v15 : (mupd M14 p3 (.lst [q.enc])) p3 = some (.lst [q.enc]) := mupd_same
    generalize mupd M14 p3 _ = M15 at at15 w15 r15 v15 ⊢
    have til : (ps.take i).length ≤ 8 := by rw [List.length_take]; omega
    simp! [w15, v15, List.length_map]
    refine ⟨by omega, fun p4 hp4 => ?_⟩
    have at16 := at15.new (o := .lst ((ps.take i).map Proc.enc ++ [q.enc])) hp4
    have r16 : (mupd M15 p4 (.lst ((ps.take i).map Proc.enc ++ [q.enc]))) r = _ := (mupd_ne (ne_new r15 hp4)).trans r15
    have w16 : (mupd M15 p4 (.lst ((ps.take i).map Proc.enc ++ [q.enc]))) p4 = some (.lst ((ps.take i ++ [q]).map Proc.enc)) := by rw [mupd_same, List.map_append]; rfl
    generalize mupd M15 p4 _ = M16 at at16 w16 r16 ⊢
    simp! [r16, opSl, e1, cut_drop]
    intro p5 hp5
    rw [← List.map_drop]
    have at17 := at16.new (o := .lst ((ps.drop (i + 1)).map Proc.enc)) hp5
    have w17 : (mupd M16 p5 (.lst ((ps.drop (i + 1)).map Proc.enc))) p4 = _ := (mupd_ne (ne_new w16 hp5)).trans w16
    have v17 : (mupd M16 p5 (.lst ((ps.drop (i + 1)).map Proc.enc))) p5 = some (.lst ((ps.drop (i + 1)).map Proc.enc)) := mupd_same
    generalize mupd M16 p5 _ = M17 at at17 w17 v17 ⊢
    have dil : (ps.drop (i + 1)).length ≤ 8 := by rw [List.length_drop]; omega
    simp! [w17, v17, List.length_map, List.length_append]
    refine ⟨by omega, fun p6 hp6 => ?_⟩
    rw [← List.map_append]
    have at18 := at17.new (o := .lst ((ps.take i ++ [q] ++ ps.drop (i + 1)).map Proc.enc)) hp6
    have w18 : (mupd M17 p6 (.lst ((ps.take i ++ [q] ++ ps.drop (i + 1)).map Proc.enc))) p6 = _ := mupd_same
    have p6s := (at17.st.ne hp6).1
    generalize mupd M17 p6 _ = M18 at at18 w18 ⊢
    have wr1 := wrong_ok pn tnd (by omega) pf il fq
    rw [← hT]
    refine seq_mid (fun e M' => ∃ (p : Addr) (ws : List Proc), e = [some (.ob a), some (.ob s), some (.ob na), some (.int (0 + (turn : Int))), some (.int (mm : Int)), some (.ob r), some (.int (i : Int)), some (.ob p), d8, d9, d10] ∧ At M' s b na ys ∧ M' p = some (.lst (ws.map Proc.enc)) ∧ p ≠ s ∧ Wr (ys.take mm) ps[i].nm ws) (fun N2 hN2 => ?_) ?_
    · simp! [e1]
      refine bif_dec (fun z => ?_) fun z => ?_
      · simp! []
        refine ⟨s, b, 2, rfl, at18.st, by decide, by decide, fun c M19 _ _ hs19 k19 => ?_⟩
        have at19 := at18.keepS hs19 k19
        have w19 := k19 _ _ w18 (by simpa using p6s)
        simp! []
        refine bif_dec (fun z2 => ?_) fun z2 => ?_
        · generalize hws : ps.take i ++ [q] ++ ps.drop (i + 1) = ws0 at w19 wr1
          have wl : ws0.length = mm := by have := congrArg List.length wr1.nm; rw [List.length_map, tl] at this; exact this
          have de : (ws0.map Proc.enc).dropLast = ws0.dropLast.map Proc.enc := by rw [List.map_dropLast]
          have em : (mm : Int) - 1 = ((mm - 1 : Nat) : Int) := by omega
          simp! [w19, opSl, cut_init, de]
          intro p7 hp7
          have at20 := at19.new (o := .lst (ws0.dropLast.map Proc.enc)) hp7
          have w20 : (mupd M19 p7 (.lst (ws0.dropLast.map Proc.enc))) p7 = _ := mupd_same
          have p7s := (at19.st.ne hp7).1
          generalize mupd M19 p7 _ = M20 at at20 w20 ⊢
          simp! [at20.at_, em, ixy (mm - 1) (by omega)]
          refine ⟨s, b, 7, rfl, at20.st, by decide, by decide, fun c M21 c0 c7 hs21 k21 => ?_⟩
          have at21 := at20.keepS hs21 k21
          have w21 := k21 _ _ w20 (by simpa using p7s)
          obtain ⟨c, rfl⟩ : ∃ j : Nat, c = (j : Int) := ⟨c.toNat, by omega⟩
          simp! []
          refine ⟨s, b, ys[mm - 1], c, 1, rfl, at21.st, by decide, fun q2 M22 fq2 hs22 k22 => ?_⟩
          have at22 := at21.keepS hs22 k22
          have w22 := k22 _ _ w21 (by simpa using p7s)
          simp! []
          intro p8 hp8
          have at23 := at22.new (o := .lst [q2.enc]) hp8
          have w23 : (mupd M22 p8 (.lst [q2.enc])) p7 = _ := (mupd_ne (ne_new w22 hp8)).trans w22
          have v23 : (mupd M22 p8 (.lst [q2.enc])) p8 = some (.lst [q2.enc]) := mupd_same
          generalize mupd M22 p8 _ = M23 at at23 w23 v23 ⊢
          simp! [w23, v23, List.length_map, List.length_dropLast]
          refine ⟨by omega, fun p9 hp9 => ?_⟩
          have en : ws0.dropLast.map Proc.enc ++ [q2.enc] = (ws0.dropLast ++ [q2]).map Proc.enc := by rw [List.map_append]; rfl
          rw [en]
          refine hN2 _ _ ⟨p9, _, rfl, at23.new hp9, mupd_same, (at23.st.ne hp9).1, ?_⟩
          have fq2' : FitOk false ((ys.take mm)[(ys.take mm).length - 1]'(by rw [tl]; omega)) q2 := by
            have : (ys.take mm)[(ys.take mm).length - 1]'(by rw [tl]; omega) = ys[mm - 1]'(by omega) := by
              rw [List.getElem_take]
              congr 1
              omega
            rw [this]; exact fq2
          have := wrong2_ok pn tnd (by omega) pf il fq (by omega) fq2'
          rw [hws] at this
          exact this
        · simp! []
          exact hN2 _ _ ⟨p6, _, rfl, at19, w19, p6s, wr1⟩
      · simp! []
        exact hN2 _ _ ⟨p6, _, rfl, at18, w18, p6s, wr1⟩
    · rintro e M19 ⟨p, ws, rfl, at19, w19, ps19, wr⟩
      have wl : ws.length = mm := by have := congrArg List.length wr.nm; rw [List.length_map, tl] at this; exact this
      simp! [w19]
      refine ⟨ws, rfl, fits_any (by omega) wr.any (by rw [wr.nm]; exact tin) yok, fun t M20 ht e20 k20 => ?_⟩
      rw [told_v wr.v, psn i il] at e20
      have at20 := at19.keepX k20
      have w20 := k20.lst w19
      simp! [at20.at_, ixy i (by omega)]
      intro l21 hl21
      simp! [ne_two (Q := trK _) (by rw [mupd_ne (ne_new e20 hl21)]; exact e20) (mupd_same (M := M20) (a := l21) (o := .lst [.str ys[i], .bl true]))]
      have at21 := at20.new (o := .lst [.str ys[i], .bl true]) hl21
      have w21 : (mupd M20 l21 (.lst [.str ys[i], .bl true])) p = _ := (mupd_ne (ne_new w20 hl21)).trans w20
      generalize mupd M20 l21 _ = M21 at at21 w21 ⊢
      simp! [at21.at_, ixy mm (by omega)]
      have eb : D.tup [D.str ys[mm], D.tup [D.str (Str.ofString "x_p")], D.tup [], D.tup [D.tup [], D.tup [], D.tup [], D.tup []], D.tup [], D.tup [D.tup [D.str (Str.ofString "copy"), D.str (Str.ofString "x_p"), D.str (Str.ofString "none_q")]]] = (bad ys[mm]).enc := rfl
      rw [eb]
      intro p1 hp1
      have at22 := at21.new (o := .lst [(bad ys[mm]).enc]) hp1
      have w22 : (mupd M21 p1 (.lst [(bad ys[mm]).enc])) p = _ := (mupd_ne (ne_new w21 hp1)).trans w21
      have v22 : (mupd M21 p1 (.lst [(bad ys[mm]).enc])) p1 = some (.lst [(bad ys[mm]).enc]) := mupd_same
      generalize mupd M21 p1 _ = M22 at at22 w22 v22 ⊢
      simp! [w22, v22, List.length_map]
      refine ⟨by omega, fun p2 hp2 => ?_⟩
      have at23 := at22.new (o := .lst (ws.map Proc.enc ++ [(bad ys[mm]).enc])) hp2
      generalize mupd M22 p2 _ = M23 at at23 ⊢
      have ybm : ys[mm] ∈ ys := List.getElem_mem _
      have bn : nms (ws ++ [bad ys[mm]]) = ys.take (mm + 1) := by
        rw [nms, List.map_append, List.take_add_one, List.getElem?_eq_getElem (by omega)]
        exact congrArg (· ++ _) wr.nm
      refine ⟨ws ++ [bad ys[mm]], by rw [List.map_append]; rfl, any_fits (by rw [List.length_append]; simp only [List.length_cons, List.length_nil]; omega) fun w hw => ?_, fun t M24 ht e24 k24 => ?_⟩
      · rcases List.mem_append.mp hw with hw | hw
        · obtain ⟨b', hb'⟩ := wr.any w hw
          exact ⟨hb'.fit, (yok _ (tin _ (by rw [← wr.nm]; exact List.mem_map_of_mem hw))).2⟩
        · rw [List.mem_singleton.mp hw]
          exact ⟨bad_fit _, (yok _ ybm).2⟩
      rw [told_v (bad_v (by rw [bn]; exact ynd.sublist (List.take_sublist _ _)) wr.any)] at e24
      have at24 := at23.keepX k24
      simp! [at24.at_, ixy mm (by omega)]
      intro l25 hl25
      simp! [ne_two (Q := trK _) (by rw [mupd_ne (ne_new e24 hl25)]; exact e24) (mupd_same (M := M24) (a := l25) (o := .lst [.str ys[mm], .bl false]))]
      have at25 := at24.new (o := .lst [.str ys[mm], .bl false]) hl25
      generalize mupd M24 l25 _ = M25 at at25 ⊢
      simp! [at25.at_]
      intro r2 hr2
      refine lc_rule D.str (fun x o => ∃ p : Proc, FitOk true x p ∧ o = some p.enc) (fun M => At M s b na ys) [s] ys hr2 (by simpa using (at25.st.ne hr2).1) at25 (fun M' o hj => ⟨hj.st.put (at25.st.ne hr2).1 (at25.st.ne hr2).2, by rw [mupd_ne (ne_new at25.at_ hr2)]; exact hj.at_, hj.ne⟩) (fun M' k => .inl (k _ _ at25.at_ (by simpa using at25.ne))) (by omega) (fun x hx M26 N26 sk j26 k26 hy _ => ?_) fun M26 out ho j26 k26 e26 => ?_
      · simp! []
        refine ⟨s, b, 7, rfl, j26.st, by decide, by decide, fun c M27 c0 c7 hs27 k27 => ?_⟩
        have at27 := j26.keepS hs27 k27
        obtain ⟨c, rfl⟩ : ∃ j : Nat, c = (j : Int) := ⟨c.toNat, by omega⟩
        simp! []
        refine ⟨s, b, x, c, 0, rfl, at27.st, by decide, fun p M28 fp hs28 k28 => ?_⟩
        exact hy _ M28 ⟨p, fp, rfl⟩ (at27.keepS hs28 k28) (k27.trans k28)
      obtain ⟨qs, rfl, qn, qf⟩ := outs_fit ho
      have ql : qs.length = 9 := by have := congrArg List.length qn; rw [List.length_map, yl] at this; exact this
      simp! [e26]
      refine ⟨qs, rfl, fits_any (by omega) (fun w hw => (qf w hw).any) (by rw [qn]; exact fun x hx => hx) yok, fun t M29 ht e29 k29 => ?_⟩
      rw [told_v (nine_v (x := ys[8]) (by rw [qn]; exact ynd) (by rw [qn]; exact List.getElem?_eq_getElem _) fun w hw => (qf w hw).any)] at e29
      have at29 := j26.keepX k29
      have ix8 : atI (ys.map D.str) 8 = some (.str ys[8]) := ixy 8 (by omega)
      simp! [at29.at_, ix8]
      intro l30 hl30
      simp! [ne_two (Q := trK _) (by rw [mupd_ne (ne_new e29 hl30)]; exact e29) (mupd_same (M := M29) (a := l30) (o := .lst [.str ys[8], .bl true]))]
      exact hN _ _ ⟨_, _, _, _, _, _, _, _, rfl, at29.new hl30⟩
  · rintro env M4 ⟨d3, d4, d5, d6, d7, d8, d9, d10, rfl, at4⟩
    simp! []
    exact h M4
end K04

set_option maxHeartbeats 4000000
namespace K04
open PySem PySem.Spec PyProof.Rows L2 PL SX
variable {P : Program} {w : World} {K : PySem.W.Frag} {mg : Str → Option Value} {base : Heap} {C_CellchainsError C_BadProgram C_TooLarge C_Checker : Addr}
theorem law_script {K : PySem.W.Frag} {M : Mem} {a : Addr} {ns : List Int} (hl : ns.length ≤ 63) (h : Scr K M a ns) : sp_law K [.ob a] M (fun d _ => d = .bl true) fun _ _ _ => False := ⟨a, ns, rfl, h, fun _ => rfl⟩
theorem all_ok {f : Addr} {fd : FuncData} (G : GF K mg C_CellchainsError C_BadProgram C_TooLarge C_Checker) (R_BadProgram : FCls P w K mg base 1 "BadProgram" C_BadProgram "name") (R_TooLarge : FCls P w K mg base 1 "TooLarge" C_TooLarge "name") (S_Checker___init__ : KSrc K mg "Checker" C_Checker "Checker.__init__" s_Checker___init__ ["self", "source"]) (S_Checker_is_call : MSrc K C_Checker "is_call" "Checker.is_call" s_Checker_is_call ["self", "statement"] []) (S_Checker_is_right : MSrc K C_Checker "is_right" "Checker.is_right" s_Checker_is_right ["self", "proc"] []) (S_Checker_is_small : MSrc K C_Checker "is_small" "Checker.is_small" s_Checker_is_small ["self", "proc"] []) (S_names_of : Src K mg "names_of" s_names_of ["picture"]) (S_atoms_in : Src K mg "atoms_in" s_atoms_in ["picture"]) (S_statements_in : Src K mg "statements_in" s_statements_in ["body"]) (S_depth_of : Src K mg "depth_of" s_depth_of ["body"]) (S_places_in : Src K mg "places_in" s_places_in ["statement"]) (S_ghosts_of : Src K mg "ghosts_of" s_ghosts_of ["proc"]) (S_check_source : Src K mg "check_source" s_check_source ["source"]) (S__law_start : Src K mg "_law_start" s__law_start ["script"]) (S__law_draw : Src K mg "_law_draw" s__law_draw ["state", "most"]) (S__law_one_of : Src K mg "_law_one_of" s__law_one_of ["state", "items"]) (S__law_shuffled : Src K mg "_law_shuffled" s__law_shuffled ["state", "items"]) (S__law_names : Src K mg "_law_names" s__law_names ["state", "many"]) (S__law_parts : Src K mg "_law_parts" s__law_parts ["state", "names", "many"]) (S__law_nested : Src K mg "_law_nested" s__law_nested ["state", "deep"]) (S__law_fitting : Src K mg "_law_fitting" s__law_fitting ["state", "name", "pick", "more"]) (S__law_told : Src K mg "_law_told" s__law_told ["source"]) (F : Fun K "law" "law" s_law f fd) : FnOk P w K mg base (L2.CX P w) 15 f fd ["script"] (liftSp K (sp_law K)) := by
  have F__law_start := fn_start (P := P) (w := w) (base := base) S__law_start G
  have F__law_draw := fn_draw (P := P) (w := w) (base := base) S__law_draw G
  have F__law_one_of := fn_one_of S__law_one_of G F__law_draw
  have F_names_of := fn_names_of (P := P) (w := w) (base := base) S_names_of G
  have F_atoms_in := fn_atoms (P := P) (w := w) (base := base) S_atoms_in G
  have F_statements_in : Fn P w K mg base 9 "statements_in" (sp_sin 6) [] := (fn_sin (P := P) (w := w) (base := base) S_statements_in G 6).up (by omega)
  have F_depth_of : Fn P w K mg base 9 "depth_of" (sp_dep 6) [] := (fn_dep (P := P) (w := w) (base := base) S_depth_of G 6).up (by omega)
  have F_places_in := fn_places_in (P := P) (w := w) (base := base) S_places_in G
  have K_Checker := fn_ckinit (P := P) (w := w) (base := base) S_Checker___init__ G
  have M_Checker_is_call := fn_is_call (P := P) (w := w) (base := base) S_Checker_is_call G
  have F__law_names := fn_names (P := P) (w := w) (base := base) S__law_names G F__law_draw
  have F__law_nested := fn_nested (P := P) (w := w) (base := base) S__law_nested G F__law_draw 6
  have F__law_shuffled := fn_shuf (P := P) (w := w) (base := base) S__law_shuffled G F__law_draw
  have F__law_parts := fn_lparts (P := P) (w := w) (base := base) S__law_parts G F__law_draw F__law_one_of
  have F_ghosts_of := fn_ghosts_of (P := P) (w := w) (base := base) S_ghosts_of G F_names_of
  have F__law_fitting := fn_fitting (P := P) (w := w) (base := base) S__law_fitting G F__law_draw F__law_shuffled F__law_parts F__law_nested
  have M_Checker_is_right := fn_is_right (P := P) (w := w) (base := base) S_Checker_is_right G F_names_of F_ghosts_of F_statements_in F_places_in M_Checker_is_call
  have M_Checker_is_small := fn_is_small (P := P) (w := w) (base := base) S_Checker_is_small G F_ghosts_of F_atoms_in F_depth_of
  have F_check_source := fn_check (P := P) (w := w) (base := base) S_check_source G R_BadProgram R_TooLarge K_Checker M_Checker_is_right M_Checker_is_small
  have F__law_told := fn_told (P := P) (w := w) (base := base) S__law_told G F_check_source
  exact ok_law F G F__law_start F__law_draw F__law_names F__law_fitting F__law_told
end K04

set_option maxHeartbeats 4000000
namespace K04
open PySem PySem.Spec PyProof.Rows L2 PL SX
theorem all_mk {l : PySem.W.OpenLaw} {w : World} {K : PySem.W.Frag} {h : Heap} {mg : Str → Option Value} {fa f1 f2 f3 f4 f5 f6 f7 f8 f9 f10 f11 f12 f13 f14 f15 f16 f17 C_CellchainsError C_BadProgram C_TooLarge C_Checker f18 f19 f20 f21 : Addr} (X : K.In h) (G : h.Ns mainGlobals mg) (hfa : mg "law" = some (.ref fa))
    {od1 an1 od2 an2 od3 an3 od4 an4 od5 an5 od6 an6 od7 an7 od8 an8 od9 an9 od10 an10 od11 an11 od12 an12 od13 an13 od14 an14 od15 an15 od16 an16 od17 an17 od18 an18 od19 an19 od20 an20 od21 an21 : Option Addr} {sl1 sl2 sl3 sl4 sl5 sl6 sl7 sl8 sl9 sl10 sl11 sl12 sl13 sl14 sl15 sl16 sl17 sl18 sl19 sl20 sl21 : Array (Option Value)} {oc1 kV1 dc1 pm1 cd1 ct1 oc2 kV2 dc2 pm2 cd2 ct2 oc3 kV3 dc3 pm3 cd3 ct3 oc4 kV4 dc4 pm4 cd4 ct4 oc5 kV5 dc5 pm5 cd5 ct5 oc6 kV6 dc6 pm6 cd6 ct6 oc7 kV7 dc7 pm7 cd7 ct7 oc8 kV8 dc8 pm8 cd8 ct8 oc9 kV9 dc9 pm9 cd9 ct9 oc10 kV10 dc10 pm10 cd10 ct10 oc11 kV11 dc11 pm11 cd11 ct11 oc12 kV12 dc12 pm12 cd12 ct12 oc13 kV13 dc13 pm13 cd13 ct13 oc14 kV14 dc14 pm14 cd14 ct14 oc15 kV15 dc15 pm15 cd15 ct15 oc16 kV16 dc16 pm16 cd16 ct16 oc17 kV17 dc17 pm17 cd17 ct17 oc18 kV18 dc18 pm18 cd18 ct18 oc19 kV19 dc19 pm19 cd19 ct19 oc20 kV20 dc20 pm20 cd20 ct20 oc21 kV21 dc21 pm21 cd21 ct21 : Value}
    (a1 : PySem.W.nsIn K mainGlobals "names_of" = some (some (.ref f1))) (l1 : K.lookup f1 = some ⟨oc1, od1, .func (PySem.W.fnOf "names_of" "names_of" (defArgs s_names_of) (defBody s_names_of) (defScope s_names_of) .none kV1 dc1 pm1 an1 cd1 ct1), sl1⟩) (c1 : PySem.W.codeIn K cd1 "names_of" = true) (k1 : PySem.W.keepIn K (.ref f1) = true)
    (a2 : PySem.W.nsIn K mainGlobals "atoms_in" = some (some (.ref f2))) (l2 : K.lookup f2 = some ⟨oc2, od2, .func (PySem.W.fnOf "atoms_in" "atoms_in" (defArgs s_atoms_in) (defBody s_atoms_in) (defScope s_atoms_in) .none kV2 dc2 pm2 an2 cd2 ct2), sl2⟩) (c2 : PySem.W.codeIn K cd2 "atoms_in" = true) (k2 : PySem.W.keepIn K (.ref f2) = true)
    (a3 : PySem.W.nsIn K mainGlobals "statements_in" = some (some (.ref f3))) (l3 : K.lookup f3 = some ⟨oc3, od3, .func (PySem.W.fnOf "statements_in" "statements_in" (defArgs s_statements_in) (defBody s_statements_in) (defScope s_statements_in) .none kV3 dc3 pm3 an3 cd3 ct3), sl3⟩) (c3 : PySem.W.codeIn K cd3 "statements_in" = true) (k3 : PySem.W.keepIn K (.ref f3) = true)
    (a4 : PySem.W.nsIn K mainGlobals "depth_of" = some (some (.ref f4))) (l4 : K.lookup f4 = some ⟨oc4, od4, .func (PySem.W.fnOf "depth_of" "depth_of" (defArgs s_depth_of) (defBody s_depth_of) (defScope s_depth_of) .none kV4 dc4 pm4 an4 cd4 ct4), sl4⟩) (c4 : PySem.W.codeIn K cd4 "depth_of" = true) (k4 : PySem.W.keepIn K (.ref f4) = true)
    (a5 : PySem.W.nsIn K mainGlobals "places_in" = some (some (.ref f5))) (l5 : K.lookup f5 = some ⟨oc5, od5, .func (PySem.W.fnOf "places_in" "places_in" (defArgs s_places_in) (defBody s_places_in) (defScope s_places_in) .none kV5 dc5 pm5 an5 cd5 ct5), sl5⟩) (c5 : PySem.W.codeIn K cd5 "places_in" = true) (k5 : PySem.W.keepIn K (.ref f5) = true)
    (a6 : PySem.W.nsIn K mainGlobals "ghosts_of" = some (some (.ref f6))) (l6 : K.lookup f6 = some ⟨oc6, od6, .func (PySem.W.fnOf "ghosts_of" "ghosts_of" (defArgs s_ghosts_of) (defBody s_ghosts_of) (defScope s_ghosts_of) .none kV6 dc6 pm6 an6 cd6 ct6), sl6⟩) (c6 : PySem.W.codeIn K cd6 "ghosts_of" = true) (k6 : PySem.W.keepIn K (.ref f6) = true)
    (a7 : PySem.W.nsIn K mainGlobals "check_source" = some (some (.ref f7))) (l7 : K.lookup f7 = some ⟨oc7, od7, .func (PySem.W.fnOf "check_source" "check_source" (defArgs s_check_source) (defBody s_check_source) (defScope s_check_source) .none kV7 dc7 pm7 an7 cd7 ct7), sl7⟩) (c7 : PySem.W.codeIn K cd7 "check_source" = true) (k7 : PySem.W.keepIn K (.ref f7) = true)
    (a8 : PySem.W.nsIn K mainGlobals "_law_start" = some (some (.ref f8))) (l8 : K.lookup f8 = some ⟨oc8, od8, .func (PySem.W.fnOf "_law_start" "_law_start" (defArgs s__law_start) (defBody s__law_start) (defScope s__law_start) .none kV8 dc8 pm8 an8 cd8 ct8), sl8⟩) (c8 : PySem.W.codeIn K cd8 "_law_start" = true) (k8 : PySem.W.keepIn K (.ref f8) = true)
    (a9 : PySem.W.nsIn K mainGlobals "_law_draw" = some (some (.ref f9))) (l9 : K.lookup f9 = some ⟨oc9, od9, .func (PySem.W.fnOf "_law_draw" "_law_draw" (defArgs s__law_draw) (defBody s__law_draw) (defScope s__law_draw) .none kV9 dc9 pm9 an9 cd9 ct9), sl9⟩) (c9 : PySem.W.codeIn K cd9 "_law_draw" = true) (k9 : PySem.W.keepIn K (.ref f9) = true)
    (a10 : PySem.W.nsIn K mainGlobals "_law_one_of" = some (some (.ref f10))) (l10 : K.lookup f10 = some ⟨oc10, od10, .func (PySem.W.fnOf "_law_one_of" "_law_one_of" (defArgs s__law_one_of) (defBody s__law_one_of) (defScope s__law_one_of) .none kV10 dc10 pm10 an10 cd10 ct10), sl10⟩) (c10 : PySem.W.codeIn K cd10 "_law_one_of" = true) (k10 : PySem.W.keepIn K (.ref f10) = true)
    (a11 : PySem.W.nsIn K mainGlobals "_law_shuffled" = some (some (.ref f11))) (l11 : K.lookup f11 = some ⟨oc11, od11, .func (PySem.W.fnOf "_law_shuffled" "_law_shuffled" (defArgs s__law_shuffled) (defBody s__law_shuffled) (defScope s__law_shuffled) .none kV11 dc11 pm11 an11 cd11 ct11), sl11⟩) (c11 : PySem.W.codeIn K cd11 "_law_shuffled" = true) (k11 : PySem.W.keepIn K (.ref f11) = true)
    (a12 : PySem.W.nsIn K mainGlobals "_law_names" = some (some (.ref f12))) (l12 : K.lookup f12 = some ⟨oc12, od12, .func (PySem.W.fnOf "_law_names" "_law_names" (defArgs s__law_names) (defBody s__law_names) (defScope s__law_names) .none kV12 dc12 pm12 an12 cd12 ct12), sl12⟩) (c12 : PySem.W.codeIn K cd12 "_law_names" = true) (k12 : PySem.W.keepIn K (.ref f12) = true)
    (a13 : PySem.W.nsIn K mainGlobals "_law_parts" = some (some (.ref f13))) (l13 : K.lookup f13 = some ⟨oc13, od13, .func (PySem.W.fnOf "_law_parts" "_law_parts" (defArgs s__law_parts) (defBody s__law_parts) (defScope s__law_parts) .none kV13 dc13 pm13 an13 cd13 ct13), sl13⟩) (c13 : PySem.W.codeIn K cd13 "_law_parts" = true) (k13 : PySem.W.keepIn K (.ref f13) = true)
    (a14 : PySem.W.nsIn K mainGlobals "_law_nested" = some (some (.ref f14))) (l14 : K.lookup f14 = some ⟨oc14, od14, .func (PySem.W.fnOf "_law_nested" "_law_nested" (defArgs s__law_nested) (defBody s__law_nested) (defScope s__law_nested) .none kV14 dc14 pm14 an14 cd14 ct14), sl14⟩) (c14 : PySem.W.codeIn K cd14 "_law_nested" = true) (k14 : PySem.W.keepIn K (.ref f14) = true)
    (a15 : PySem.W.nsIn K mainGlobals "_law_fitting" = some (some (.ref f15))) (l15 : K.lookup f15 = some ⟨oc15, od15, .func (PySem.W.fnOf "_law_fitting" "_law_fitting" (defArgs s__law_fitting) (defBody s__law_fitting) (defScope s__law_fitting) .none kV15 dc15 pm15 an15 cd15 ct15), sl15⟩) (c15 : PySem.W.codeIn K cd15 "_law_fitting" = true) (k15 : PySem.W.keepIn K (.ref f15) = true)
    (a16 : PySem.W.nsIn K mainGlobals "_law_told" = some (some (.ref f16))) (l16 : K.lookup f16 = some ⟨oc16, od16, .func (PySem.W.fnOf "_law_told" "_law_told" (defArgs s__law_told) (defBody s__law_told) (defScope s__law_told) .none kV16 dc16 pm16 an16 cd16 ct16), sl16⟩) (c16 : PySem.W.codeIn K cd16 "_law_told" = true) (k16 : PySem.W.keepIn K (.ref f16) = true)
    (a17 : PySem.W.nsIn K mainGlobals "law" = some (some (.ref f17))) (l17 : K.lookup f17 = some ⟨oc17, od17, .func (PySem.W.fnOf "law" "law" (defArgs s_law) (defBody s_law) (defScope s_law) .none kV17 dc17 pm17 an17 cd17 ct17), sl17⟩) (c17 : PySem.W.codeIn K cd17 "law" = true) (k17 : PySem.W.keepIn K (.ref f17) = true)
    {fI cc cda : Addr} {ocI kVI dcI pmI ctI ccl cl2 : Value} {odI anI cdd cld : Option Addr} {slI ccs csl : Array (Option Value)} {cvs : Array Value} {cfile : Str} {ctf : Tok}
    (lI : K.lookup fI = some ⟨ocI, odI, .func (PySem.W.fnX "__init__" "BadProgram.__init__" (defArgs s_BadProgram___init__) (defBody s_BadProgram___init__) (defScope s_BadProgram___init__) [("__class__", cc)] .none kVI dcI pmI anI (.ref cda) ctI), slI⟩) (cI : PySem.W.codeIn K (.ref cda) "BadProgram.__init__" = true) (gI : K.lookup cda = some ⟨ccl, cdd, .fields cvs, ccs⟩) (hI : cvs[2]? = some (.str cfile ctf)) (jI : ((l.prog.main.file : Str) == cfile) = true)
    (eI : K.lookup cc = some ⟨cl2, cld, .cell (some (.ref C_BadProgram)), csl⟩) (tI : (l.prog.main.scope.names.lookup ("super" : Str)).isSome = false) (sI : PySem.W.nsIn K mainGlobals "super" = some none) (pI : PySem.W.nsIn K cStatics "thirdparty.any" = some none) (yI : PySem.W.typeIn K (.ref fI) = some (.type "function"))
    (ca_BadProgram : PySem.W.nsIn K mainGlobals "BadProgram" = some (some (.ref C_BadProgram)))
    {nm_BadProgram q_BadProgram : Str} {N_BadProgram : Addr} {bs_BadProgram bm_BadProgram : List Value} {sn_BadProgram : List Str} {sub_BadProgram : List Value} {ab_BadProgram : Bool} {col_BadProgram : Option Bool} {dd_BadProgram : Option Addr} {k0_BadProgram k1_BadProgram k2_BadProgram k3_BadProgram k5_BadProgram : Option Value}
    (oc_BadProgram : K.lookup C_BadProgram = some (excClassObj nm_BadProgram q_BadProgram C_BadProgram N_BadProgram bs_BadProgram bm_BadProgram true sn_BadProgram sub_BadProgram ab_BadProgram col_BadProgram dd_BadProgram k0_BadProgram k1_BadProgram k2_BadProgram k3_BadProgram k5_BadProgram "ValueError.__new__")) (or_BadProgram : PySem.HandSPX.refsVE bm_BadProgram = true)
    (sa_BadProgram : PySem.W.findIn K (.ref C_BadProgram) "__setattr__" = some (some (.builtin "object.__setattr__"))) (cb_BadProgram : PySem.W.subIn K (.ref C_BadProgram) (.type "BaseException") = some true) (ct_BadProgram : PySem.W.typeIn K (.ref C_BadProgram) = some (.type "type")) (ck_BadProgram : PySem.W.keepIn K (.ref C_BadProgram) = true)
    (if_BadProgram : PySem.W.findIn K (.ref C_BadProgram) "__init__" = some (some (.ref fI))) (no_BadProgram : PySem.W.findIn K (.ref C_BadProgram) "name" = some none) (ms_BadProgram : PySem.W.mroIn K C_BadProgram (.ref C_BadProgram) = some true) (su_BadProgram : PySem.W.ks_superIn K C_BadProgram C_BadProgram "__init__" = some (some (.builtin "ValueError.__init__"))) (vb_BadProgram : PySem.W.subIn K (.ref C_BadProgram) (.type "ValueError") = some true) (mx_BadProgram : PySem.W.subIn K (.ref C_BadProgram) (.ref C_CellchainsError) = some true)
    (c1_BadProgram : PySem.W.findIn K (.ref C_BadProgram) "__getattribute__" = some (some (.builtin "BaseException.__getattribute__"))) (c2_BadProgram : PySem.W.findIn K (.ref C_BadProgram) "__getattr__" = some none) (c4_BadProgram : PySem.W.hasDictIn K C_BadProgram = true) (c5_BadProgram : PySem.W.findIn K (.ref C_BadProgram) "__class__" = some (some (.builtin "object.__class__"))) (c6_BadProgram : PySem.W.specialIn K (.builtin "object.__class__") "__get__" = some (some (.builtin "getset_descriptor.__get__"))) (c7_BadProgram : PySem.W.takesIn K (.builtin "object.__class__") = some true) (c8_BadProgram : PySem.W.mroIn K C_BadProgram (.type "object") = some true)
    (S_BadProgram_BadProgram : PySem.W.kitOne K (.ref C_BadProgram) (.ref C_BadProgram) = some true)
    (S_BadProgram_ValueError : PySem.W.kitOne K (.ref C_BadProgram) (.type "ValueError") = some true)
    (S_BadProgram_TooLarge : PySem.W.kitOne K (.ref C_BadProgram) (.ref C_TooLarge) = some false)
    (ca_TooLarge : PySem.W.nsIn K mainGlobals "TooLarge" = some (some (.ref C_TooLarge)))
    {nm_TooLarge q_TooLarge : Str} {N_TooLarge : Addr} {bs_TooLarge bm_TooLarge : List Value} {sn_TooLarge : List Str} {sub_TooLarge : List Value} {ab_TooLarge : Bool} {col_TooLarge : Option Bool} {dd_TooLarge : Option Addr} {k0_TooLarge k1_TooLarge k2_TooLarge k3_TooLarge k5_TooLarge : Option Value}
    (oc_TooLarge : K.lookup C_TooLarge = some (excClassObj nm_TooLarge q_TooLarge C_TooLarge N_TooLarge bs_TooLarge bm_TooLarge true sn_TooLarge sub_TooLarge ab_TooLarge col_TooLarge dd_TooLarge k0_TooLarge k1_TooLarge k2_TooLarge k3_TooLarge k5_TooLarge "ValueError.__new__")) (or_TooLarge : PySem.HandSPX.refsVE bm_TooLarge = true)
    (sa_TooLarge : PySem.W.findIn K (.ref C_TooLarge) "__setattr__" = some (some (.builtin "object.__setattr__"))) (cb_TooLarge : PySem.W.subIn K (.ref C_TooLarge) (.type "BaseException") = some true) (ct_TooLarge : PySem.W.typeIn K (.ref C_TooLarge) = some (.type "type")) (ck_TooLarge : PySem.W.keepIn K (.ref C_TooLarge) = true)
    (if_TooLarge : PySem.W.findIn K (.ref C_TooLarge) "__init__" = some (some (.ref fI))) (no_TooLarge : PySem.W.findIn K (.ref C_TooLarge) "name" = some none) (ms_TooLarge : PySem.W.mroIn K C_TooLarge (.ref C_BadProgram) = some true) (su_TooLarge : PySem.W.ks_superIn K C_TooLarge C_BadProgram "__init__" = some (some (.builtin "ValueError.__init__"))) (vb_TooLarge : PySem.W.subIn K (.ref C_TooLarge) (.type "ValueError") = some true) (mx_TooLarge : PySem.W.subIn K (.ref C_TooLarge) (.ref C_CellchainsError) = some true)
    (c1_TooLarge : PySem.W.findIn K (.ref C_TooLarge) "__getattribute__" = some (some (.builtin "BaseException.__getattribute__"))) (c2_TooLarge : PySem.W.findIn K (.ref C_TooLarge) "__getattr__" = some none) (c4_TooLarge : PySem.W.hasDictIn K C_TooLarge = true) (c5_TooLarge : PySem.W.findIn K (.ref C_TooLarge) "__class__" = some (some (.builtin "object.__class__"))) (c6_TooLarge : PySem.W.specialIn K (.builtin "object.__class__") "__get__" = some (some (.builtin "getset_descriptor.__get__"))) (c7_TooLarge : PySem.W.takesIn K (.builtin "object.__class__") = some true) (c8_TooLarge : PySem.W.mroIn K C_TooLarge (.type "object") = some true)
    (S_TooLarge_BadProgram : PySem.W.kitOne K (.ref C_TooLarge) (.ref C_BadProgram) = some true)
    (S_TooLarge_ValueError : PySem.W.kitOne K (.ref C_TooLarge) (.type "ValueError") = some true)
    (S_TooLarge_TooLarge : PySem.W.kitOne K (.ref C_TooLarge) (.ref C_TooLarge) = some true)
    (ca_CellchainsError : PySem.W.nsIn K mainGlobals "CellchainsError" = some (some (.ref C_CellchainsError))) (cb_CellchainsError : PySem.W.subIn K (.ref C_CellchainsError) (.type "BaseException") = some true) (ct_CellchainsError : PySem.W.typeIn K (.ref C_CellchainsError) = some (.type "type")) (c4_CellchainsError : PySem.W.hasDictIn K C_CellchainsError = true)
    (ca_Checker : PySem.W.nsIn K mainGlobals "Checker" = some (some (.ref C_Checker))) (pg_Checker : PySem.W.plainGet K C_Checker Str.empty = true) (hd_Checker : PySem.W.hasDictIn K C_Checker = true) (po_Checker : PySem.W.plainOver K C_Checker = true) (sa_Checker : PySem.W.findIn K (.ref C_Checker) "__setattr__" = some (some (.builtin "object.__setattr__"))) (mk_Checker : PySem.W.makesIn K C_Checker = true) (kc_Checker : PySem.W.keepIn K (.ref C_Checker) = true)
    (n_Checker_source : PySem.W.findIn K (.ref C_Checker) "source" = some none) (n_Checker_many : PySem.W.findIn K (.ref C_Checker) "many" = some none)
    (a18 : PySem.W.findIn K (.ref C_Checker) "__init__" = some (some (.ref f18))) (i18 : PySem.W.isFn K (.ref f18) = true) (l18 : K.lookup f18 = some ⟨oc18, od18, .func (PySem.W.fnOf "__init__" "Checker.__init__" (defArgs s_Checker___init__) (defBody s_Checker___init__) (defScope s_Checker___init__) .none kV18 dc18 pm18 an18 cd18 ct18), sl18⟩) (c18 : PySem.W.codeIn K cd18 "Checker.__init__" = true) (k18 : PySem.W.keepIn K (.ref f18) = true)
    (a19 : PySem.W.findIn K (.ref C_Checker) "is_call" = some (some (.ref f19))) (i19 : PySem.W.isFn K (.ref f19) = true) (l19 : K.lookup f19 = some ⟨oc19, od19, .func (PySem.W.fnOf "is_call" "Checker.is_call" (defArgs s_Checker_is_call) (defBody s_Checker_is_call) (defScope s_Checker_is_call) .none kV19 dc19 pm19 an19 cd19 ct19), sl19⟩) (c19 : PySem.W.codeIn K cd19 "Checker.is_call" = true) (k19 : PySem.W.keepIn K (.ref f19) = true)
    (a20 : PySem.W.findIn K (.ref C_Checker) "is_right" = some (some (.ref f20))) (i20 : PySem.W.isFn K (.ref f20) = true) (l20 : K.lookup f20 = some ⟨oc20, od20, .func (PySem.W.fnOf "is_right" "Checker.is_right" (defArgs s_Checker_is_right) (defBody s_Checker_is_right) (defScope s_Checker_is_right) .none kV20 dc20 pm20 an20 cd20 ct20), sl20⟩) (c20 : PySem.W.codeIn K cd20 "Checker.is_right" = true) (k20 : PySem.W.keepIn K (.ref f20) = true)
    (a21 : PySem.W.findIn K (.ref C_Checker) "is_small" = some (some (.ref f21))) (i21 : PySem.W.isFn K (.ref f21) = true) (l21 : K.lookup f21 = some ⟨oc21, od21, .func (PySem.W.fnOf "is_small" "Checker.is_small" (defArgs s_Checker_is_small) (defBody s_Checker_is_small) (defScope s_Checker_is_small) .none kV21 dc21 pm21 an21 cd21 ct21), sl21⟩) (c21 : PySem.W.codeIn K cd21 "Checker.is_small" = true) (k21 : PySem.W.keepIn K (.ref f21) = true)
    (z_ValueError : PySem.W.nsIn K mainGlobals "ValueError" = some none)
    (z_tuple : PySem.W.nsIn K mainGlobals "tuple" = some none)
    (z_sum : PySem.W.nsIn K mainGlobals "sum" = some none)
    (z_enumerate : PySem.W.nsIn K mainGlobals "enumerate" = some none)
    (z_range : PySem.W.nsIn K mainGlobals "range" = some none)
    (z_sorted : PySem.W.nsIn K mainGlobals "sorted" = some none)
    (z_len : PySem.W.nsIn K mainGlobals "len" = some none)
    (z_any : PySem.W.nsIn K mainGlobals "any" = some none)
    (z_list : PySem.W.nsIn K mainGlobals "list" = some none)
    (z_abs : PySem.W.nsIn K mainGlobals "abs" = some none)
    (z_int : PySem.W.nsIn K mainGlobals "int" = some none)
    (z_max : PySem.W.nsIn K mainGlobals "max" = some none)
    (z_all : PySem.W.nsIn K mainGlobals "all" = some none)
    (z_isinstance : PySem.W.nsIn K mainGlobals "isinstance" = some none)
    (z_set : PySem.W.nsIn K mainGlobals "set" = some none)
    {u_NIL : Value} (z_NIL : PySem.W.nsIn K mainGlobals "NIL" = some (some u_NIL)) (r_NIL : RelV (.str "nil") u_NIL)
    {u_MOST_PROCS : Value} (z_MOST_PROCS : PySem.W.nsIn K mainGlobals "MOST_PROCS" = some (some u_MOST_PROCS)) (r_MOST_PROCS : RelV (.int 8) u_MOST_PROCS)
    {u_MOST_NAMES : Value} (z_MOST_NAMES : PySem.W.nsIn K mainGlobals "MOST_NAMES" = some (some u_MOST_NAMES)) (r_MOST_NAMES : RelV (.int 6) u_MOST_NAMES)
    {u_MOST_GHOSTS : Value} (z_MOST_GHOSTS : PySem.W.nsIn K mainGlobals "MOST_GHOSTS" = some (some u_MOST_GHOSTS)) (r_MOST_GHOSTS : RelV (.int 3) u_MOST_GHOSTS)
    {u_MOST_ATOMS : Value} (z_MOST_ATOMS : PySem.W.nsIn K mainGlobals "MOST_ATOMS" = some (some u_MOST_ATOMS)) (r_MOST_ATOMS : RelV (.int 6) u_MOST_ATOMS)
    {u_MOST_ENSURES : Value} (z_MOST_ENSURES : PySem.W.nsIn K mainGlobals "MOST_ENSURES" = some (some u_MOST_ENSURES)) (r_MOST_ENSURES : RelV (.int 3) u_MOST_ENSURES)
    {u_MOST_DEEP : Value} (z_MOST_DEEP : PySem.W.nsIn K mainGlobals "MOST_DEEP" = some (some u_MOST_DEEP)) (r_MOST_DEEP : RelV (.int 4) u_MOST_DEEP)
    : ∃ fd : FuncData, (∀ (s : Shared) (v : Value), BindsTo s fd ⟨[v], []⟩ [("script", v)]) ∧ ∀ base : Heap, K.In base → base.Ns mainGlobals mg → FnOk l.prog w K mg base (L2.CX l.prog w) 15 fa fd ["script"] (liftSp K (sp_law K)) := by
  have e := hfa.symm.trans (PySem.W.mg_of X G a17)
  cases e
  have GG : GF K mg C_CellchainsError C_BadProgram C_TooLarge C_Checker := ⟨PySem.W.mg_none_of X G z_ValueError, PySem.W.mg_none_of X G z_tuple, PySem.W.mg_none_of X G z_sum, PySem.W.mg_none_of X G z_enumerate, PySem.W.mg_none_of X G z_range, PySem.W.mg_none_of X G z_sorted, PySem.W.mg_none_of X G z_len, PySem.W.mg_none_of X G z_any, PySem.W.mg_none_of X G z_list, PySem.W.mg_none_of X G z_abs, PySem.W.mg_none_of X G z_int, PySem.W.mg_none_of X G z_max, PySem.W.mg_none_of X G z_all, PySem.W.mg_none_of X G z_isinstance, PySem.W.mg_none_of X G z_set, ⟨_, PySem.W.mg_of X G z_NIL, r_NIL⟩, ⟨_, PySem.W.mg_of X G z_MOST_PROCS, r_MOST_PROCS⟩, ⟨_, PySem.W.mg_of X G z_MOST_NAMES, r_MOST_NAMES⟩, ⟨_, PySem.W.mg_of X G z_MOST_GHOSTS, r_MOST_GHOSTS⟩, ⟨_, PySem.W.mg_of X G z_MOST_ATOMS, r_MOST_ATOMS⟩, ⟨_, PySem.W.mg_of X G z_MOST_ENSURES, r_MOST_ENSURES⟩, ⟨_, PySem.W.mg_of X G z_MOST_DEEP, r_MOST_DEEP⟩, PySem.W.mg_of X G ca_CellchainsError, PySem.W.mg_of X G ca_BadProgram, PySem.W.mg_of X G ca_TooLarge, PySem.W.exm_ref cb_CellchainsError c4_CellchainsError ct_CellchainsError mx_BadProgram, PySem.W.exm_ref cb_CellchainsError c4_CellchainsError ct_CellchainsError mx_TooLarge, S_BadProgram_BadProgram, S_BadProgram_ValueError, S_BadProgram_TooLarge, S_TooLarge_BadProgram, S_TooLarge_ValueError, S_TooLarge_TooLarge, (fun C hC => by rcases hC with rfl | rfl; exact ⟨⟨c1_BadProgram, c2_BadProgram, cb_BadProgram, c4_BadProgram⟩, ⟨c1_BadProgram, c2_BadProgram, cb_BadProgram, c4_BadProgram, c5_BadProgram, c6_BadProgram, c7_BadProgram, c8_BadProgram⟩, no_BadProgram⟩; exact ⟨⟨c1_TooLarge, c2_TooLarge, cb_TooLarge, c4_TooLarge⟩, ⟨c1_TooLarge, c2_TooLarge, cb_TooLarge, c4_TooLarge, c5_TooLarge, c6_TooLarge, c7_TooLarge, c8_TooLarge⟩, no_TooLarge⟩), ⟨⟨pg_Checker, hd_Checker, po_Checker, sa_Checker⟩, (fun f hf => by simp only [List.mem_cons, List.not_mem_nil, or_false] at hf; rcases hf with rfl | rfl; exact n_Checker_source; exact n_Checker_many)⟩⟩
  have F1 := fun_mk (st := s_names_of) l1 c1 k1
  have b1 := F1.binds (ps := ["picture"]) fun _ _ _ _ _ _ us hl => match us, hl with | [_], _ => rfl
  have F2 := fun_mk (st := s_atoms_in) l2 c2 k2
  have b2 := F2.binds (ps := ["picture"]) fun _ _ _ _ _ _ us hl => match us, hl with | [_], _ => rfl
  have F3 := fun_mk (st := s_statements_in) l3 c3 k3
  have b3 := F3.binds (ps := ["body"]) fun _ _ _ _ _ _ us hl => match us, hl with | [_], _ => rfl
  have F4 := fun_mk (st := s_depth_of) l4 c4 k4
  have b4 := F4.binds (ps := ["body"]) fun _ _ _ _ _ _ us hl => match us, hl with | [_], _ => rfl
  have F5 := fun_mk (st := s_places_in) l5 c5 k5
  have b5 := F5.binds (ps := ["statement"]) fun _ _ _ _ _ _ us hl => match us, hl with | [_], _ => rfl
  have F6 := fun_mk (st := s_ghosts_of) l6 c6 k6
  have b6 := F6.binds (ps := ["proc"]) fun _ _ _ _ _ _ us hl => match us, hl with | [_], _ => rfl
  have F7 := fun_mk (st := s_check_source) l7 c7 k7
  have b7 := F7.binds (ps := ["source"]) fun _ _ _ _ _ _ us hl => match us, hl with | [_], _ => rfl
  have F8 := fun_mk (st := s__law_start) l8 c8 k8
  have b8 := F8.binds (ps := ["script"]) fun _ _ _ _ _ _ us hl => match us, hl with | [_], _ => rfl
  have F9 := fun_mk (st := s__law_draw) l9 c9 k9
  have b9 := F9.binds (ps := ["state", "most"]) fun _ _ _ _ _ _ us hl => match us, hl with | [_, _], _ => rfl
  have F10 := fun_mk (st := s__law_one_of) l10 c10 k10
  have b10 := F10.binds (ps := ["state", "items"]) fun _ _ _ _ _ _ us hl => match us, hl with | [_, _], _ => rfl
  have F11 := fun_mk (st := s__law_shuffled) l11 c11 k11
  have b11 := F11.binds (ps := ["state", "items"]) fun _ _ _ _ _ _ us hl => match us, hl with | [_, _], _ => rfl
  have F12 := fun_mk (st := s__law_names) l12 c12 k12
  have b12 := F12.binds (ps := ["state", "many"]) fun _ _ _ _ _ _ us hl => match us, hl with | [_, _], _ => rfl
  have F13 := fun_mk (st := s__law_parts) l13 c13 k13
  have b13 := F13.binds (ps := ["state", "names", "many"]) fun _ _ _ _ _ _ us hl => match us, hl with | [_, _, _], _ => rfl
  have F14 := fun_mk (st := s__law_nested) l14 c14 k14
  have b14 := F14.binds (ps := ["state", "deep"]) fun _ _ _ _ _ _ us hl => match us, hl with | [_, _], _ => rfl
  have F15 := fun_mk (st := s__law_fitting) l15 c15 k15
  have b15 := F15.binds (ps := ["state", "name", "pick", "more"]) fun _ _ _ _ _ _ us hl => match us, hl with | [_, _, _, _], _ => rfl
  have F16 := fun_mk (st := s__law_told) l16 c16 k16
  have b16 := F16.binds (ps := ["source"]) fun _ _ _ _ _ _ us hl => match us, hl with | [_], _ => rfl
  have F17 := fun_mk (st := s_law) l17 c17 k17
  have b17 := F17.binds (ps := ["script"]) fun _ _ _ _ _ _ us hl => match us, hl with | [_], _ => rfl
  have F18 := fun_mk (st := s_Checker___init__) l18 c18 k18
  have b18 := F18.binds (ps := ["self", "source"]) fun _ _ _ _ _ _ us hl => match us, hl with | [_, _], _ => rfl
  have S18 : KSrc K mg "Checker" C_Checker "Checker.__init__" s_Checker___init__ ["self", "source"] := ⟨PySem.W.mg_of X G ca_Checker, _, _, def_fun F18, ⟨mk_Checker, a18, i18, kc_Checker⟩, b18⟩
  have F19 := fun_mk (st := s_Checker_is_call) l19 c19 k19
  have b19 := F19.binds (ps := ["self", "statement"]) fun _ _ _ _ _ _ us hl => match us, hl with | [_, _], _ => rfl
  have S19 : MSrc K C_Checker "is_call" "Checker.is_call" s_Checker_is_call ["self", "statement"] [] := ⟨⟨_, _, [], [], def_fun F19, ⟨a19, i19, k19⟩, b19, .nil, fun _ => .nil⟩⟩
  have F20 := fun_mk (st := s_Checker_is_right) l20 c20 k20
  have b20 := F20.binds (ps := ["self", "proc"]) fun _ _ _ _ _ _ us hl => match us, hl with | [_, _], _ => rfl
  have S20 : MSrc K C_Checker "is_right" "Checker.is_right" s_Checker_is_right ["self", "proc"] [] := ⟨⟨_, _, [], [], def_fun F20, ⟨a20, i20, k20⟩, b20, .nil, fun _ => .nil⟩⟩
  have F21 := fun_mk (st := s_Checker_is_small) l21 c21 k21
  have b21 := F21.binds (ps := ["self", "proc"]) fun _ _ _ _ _ _ us hl => match us, hl with | [_, _], _ => rfl
  have S21 : MSrc K C_Checker "is_small" "Checker.is_small" s_Checker_is_small ["self", "proc"] [] := ⟨⟨_, _, [], [], def_fun F21, ⟨a21, i21, k21⟩, b21, .nil, fun _ => .nil⟩⟩
  have SFI : SupF l.prog K C_BadProgram fI "BadProgram.__init__" s_BadProgram___init__ _ _ cc cda := ⟨⟨_, _, _, _, _, _, rfl⟩, ⟨_, _, _, lI⟩, cI, ⟨_, _, _, _, _, _, gI, hI, jI⟩, ⟨_, _, _, eI⟩, (by obtain ⟨cd, hc, _⟩ := PySem.W.any_some c4_BadProgram; exact ⟨cd, hc⟩), tI, rfl⟩
  have BI : Binds K (PySem.W.fnX "__init__" "BadProgram.__init__" (defArgs s_BadProgram___init__) (defBody s_BadProgram___init__) (defScope s_BadProgram___init__) [("__class__", cc)] .none kVI dcI pmI anI (.ref cda) ctI) ["self", "name"] [] := fun s us _ hl => match us, hl with | [_, _], _ => BindsTo.of_eq rfl
  have R_BadProgram : ∀ base : Heap, FCls l.prog w K mg base 1 "BadProgram" C_BadProgram "name" := fun base => ⟨PySem.W.mg_of X G ca_BadProgram, ⟨⟨_, _, _, _, _, _, _, _, _, _, _, _, _, _, _,  oc_BadProgram, or_BadProgram⟩, sa_BadProgram, cb_BadProgram, ct_BadProgram, ck_BadProgram⟩, no_BadProgram, fI, C_BadProgram, _, ["self", "name"], "ValueError", "ValueError.__init__", "ValueError.__new__", _, exi_BadProgram SFI rfl (PySem.W.mg_none_of X G sI), ⟨PySem.W.kxs_ValueError, PySem.F.excBase_ValueError, ⟨_, _, _, _, _, _, _, _, _, _, _, _, _, _, _, _,  oc_BadProgram⟩, ms_BadProgram, su_BadProgram, vb_BadProgram, pI⟩, if_BadProgram, yI, BI⟩
  have R_TooLarge : ∀ base : Heap, FCls l.prog w K mg base 1 "TooLarge" C_TooLarge "name" := fun base => ⟨PySem.W.mg_of X G ca_TooLarge, ⟨⟨_, _, _, _, _, _, _, _, _, _, _, _, _, _, _,  oc_TooLarge, or_TooLarge⟩, sa_TooLarge, cb_TooLarge, ct_TooLarge, ck_TooLarge⟩, no_TooLarge, fI, C_BadProgram, _, ["self", "name"], "ValueError", "ValueError.__init__", "ValueError.__new__", _, exi_BadProgram SFI rfl (PySem.W.mg_none_of X G sI), ⟨PySem.W.kxs_ValueError, PySem.F.excBase_ValueError, ⟨_, _, _, _, _, _, _, _, _, _, _, _, _, _, _, _,  oc_TooLarge⟩, ms_TooLarge, su_TooLarge, vb_TooLarge, pI⟩, if_TooLarge, yI, BI⟩
  refine ⟨PySem.W.fnOf "law" "law" (defArgs s_law) (defBody s_law) (defScope s_law) .none kV17 dc17 pm17 an17 cd17 ct17, fun s v => .of_eq rfl, fun base _ _ => ?_⟩
  exact all_ok GG (R_BadProgram base) (R_TooLarge base) S18 S19 S20 S21 ⟨⟨_, _, F1, PySem.W.mg_of X G a1, k1, b1⟩⟩ ⟨⟨_, _, F2, PySem.W.mg_of X G a2, k2, b2⟩⟩ ⟨⟨_, _, F3, PySem.W.mg_of X G a3, k3, b3⟩⟩ ⟨⟨_, _, F4, PySem.W.mg_of X G a4, k4, b4⟩⟩ ⟨⟨_, _, F5, PySem.W.mg_of X G a5, k5, b5⟩⟩ ⟨⟨_, _, F6, PySem.W.mg_of X G a6, k6, b6⟩⟩ ⟨⟨_, _, F7, PySem.W.mg_of X G a7, k7, b7⟩⟩ ⟨⟨_, _, F8, PySem.W.mg_of X G a8, k8, b8⟩⟩ ⟨⟨_, _, F9, PySem.W.mg_of X G a9, k9, b9⟩⟩ ⟨⟨_, _, F10, PySem.W.mg_of X G a10, k10, b10⟩⟩ ⟨⟨_, _, F11, PySem.W.mg_of X G a11, k11, b11⟩⟩ ⟨⟨_, _, F12, PySem.W.mg_of X G a12, k12, b12⟩⟩ ⟨⟨_, _, F13, PySem.W.mg_of X G a13, k13, b13⟩⟩ ⟨⟨_, _, F14, PySem.W.mg_of X G a14, k14, b14⟩⟩ ⟨⟨_, _, F15, PySem.W.mg_of X G a15, k15, b15⟩⟩ ⟨⟨_, _, F16, PySem.W.mg_of X G a16, k16, b16⟩⟩ F17
end K04
open PySem PySem.W PyProof.Rows
set_option maxHeartbeats 0 in
theorem PySem.Challenge.cw_cellchains_k04_limits_of_sources_holds : PySem.Challenge.rw_cellchains_k04_limits_of_sources.Holds := by
  w_on; o_law; k_head; (case hw => w_witness2)
  k_fill
  refine L2.walk_of (l := PySem.Challenge.rw_cellchains_k04_limits_of_sources) (n := 63) (k := 15) (x := "script") (CX := fun w => L2.CX PySem.Challenge.rw_cellchains_k04_limits_of_sources.prog w) (sp := fun w => PL.liftSp _ (K04.sp_law _)) rfl (by decide) rfl ⟨rfl, by decide, by decide⟩ (fun w h Y => PySem.W.kIn_of Y) ?F (fun _ H a ns hl ho hS => PL.script_rep ho hS (fun M h => K04.law_script hl h) K04.mono_law) (fun _ _ _ _ _ h => PL.cx_none h)
  case F =>
    intro w mg fa h KX G hmg
    refine' K04.all_mk KX G hmg ?a1 ?l1 ?c1 ?k1 ?a2 ?l2 ?c2 ?k2 ?a3 ?l3 ?c3 ?k3 ?a4 ?l4 ?c4 ?k4 ?a5 ?l5 ?c5 ?k5 ?a6 ?l6 ?c6 ?k6 ?a7 ?l7 ?c7 ?k7 ?a8 ?l8 ?c8 ?k8 ?a9 ?l9 ?c9 ?k9 ?a10 ?l10 ?c10 ?k10 ?a11 ?l11 ?c11 ?k11 ?a12 ?l12 ?c12 ?k12 ?a13 ?l13 ?c13 ?k13 ?a14 ?l14 ?c14 ?k14 ?a15 ?l15 ?c15 ?k15 ?a16 ?l16 ?c16 ?k16 ?a17 ?l17 ?c17 ?k17 ?lI ?cI ?gI ?hI ?jI ?eI ?tI ?sI ?pI ?yI ?ca_BadProgram ?oc_BadProgram ?or_BadProgram ?sa_BadProgram ?cb_BadProgram ?ct_BadProgram ?ck_BadProgram ?if_BadProgram ?no_BadProgram ?ms_BadProgram ?su_BadProgram ?vb_BadProgram ?mx_BadProgram ?c1_BadProgram ?c2_BadProgram ?c4_BadProgram ?c5_BadProgram ?c6_BadProgram ?c7_BadProgram ?c8_BadProgram ?S_BadProgram_BadProgram ?S_BadProgram_ValueError ?S_BadProgram_TooLarge ?ca_TooLarge ?oc_TooLarge ?or_TooLarge ?sa_TooLarge ?cb_TooLarge ?ct_TooLarge ?ck_TooLarge ?if_TooLarge ?no_TooLarge ?ms_TooLarge ?su_TooLarge ?vb_TooLarge ?mx_TooLarge ?c1_TooLarge ?c2_TooLarge ?c4_TooLarge ?c5_TooLarge ?c6_TooLarge ?c7_TooLarge ?c8_TooLarge ?S_TooLarge_BadProgram ?S_TooLarge_ValueError ?S_TooLarge_TooLarge ?ca_CellchainsError ?cb_CellchainsError ?ct_CellchainsError ?c4_CellchainsError ?ca_Checker ?pg_Checker ?hd_Checker ?po_Checker ?sa_Checker ?mk_Checker ?kc_Checker ?n_Checker_source ?n_Checker_many ?a18 ?i18 ?l18 ?c18 ?k18 ?a19 ?i19 ?l19 ?c19 ?k19 ?a20 ?i20 ?l20 ?c20 ?k20 ?a21 ?i21 ?l21 ?c21 ?k21 ?z_ValueError ?z_tuple ?z_sum ?z_enumerate ?z_range ?z_sorted ?z_len ?z_any ?z_list ?z_abs ?z_int ?z_max ?z_all ?z_isinstance ?z_set ?z_NIL ?r_NIL ?z_MOST_PROCS ?r_MOST_PROCS ?z_MOST_NAMES ?r_MOST_NAMES ?z_MOST_GHOSTS ?r_MOST_GHOSTS ?z_MOST_ATOMS ?r_MOST_ATOMS ?z_MOST_ENSURES ?r_MOST_ENSURES ?z_MOST_DEEP ?r_MOST_DEEP
    (case ca_BadProgram => k_is)
    (case ca_TooLarge => k_is)
    (case ca_CellchainsError => k_is)
    (case if_BadProgram => k_is)
    (case lI => k_is)
    (case eI => k_is)
    (case gI => k_is)
    (case a1 => k_is)
    (case l1 => k_is)
    (case c1 => k_is)
    (case k1 => k_is)
    (case a2 => k_is)
    (case l2 => k_is)
    (case c2 => k_is)
    (case k2 => k_is)
    (case a3 => k_is)
    (case l3 => k_is)
    (case c3 => k_is)
    (case k3 => k_is)
    (case a4 => k_is)
    (case l4 => k_is)
    (case c4 => k_is)
    (case k4 => k_is)
    (case a5 => k_is)
    (case l5 => k_is)
    (case c5 => k_is)
    (case k5 => k_is)
    (case a6 => k_is)
    (case l6 => k_is)
    (case c6 => k_is)
    (case k6 => k_is)
    (case a7 => k_is)
    (case l7 => k_is)
    (case c7 => k_is)
    (case k7 => k_is)
    (case a8 => k_is)
    (case l8 => k_is)
    (case c8 => k_is)
    (case k8 => k_is)
    (case a9 => k_is)
    (case l9 => k_is)
    (case c9 => k_is)
    (case k9 => k_is)
    (case a10 => k_is)
    (case l10 => k_is)
    (case c10 => k_is)
    (case k10 => k_is)
    (case a11 => k_is)
    (case l11 => k_is)
    (case c11 => k_is)
    (case k11 => k_is)
    (case a12 => k_is)
    (case l12 => k_is)
    (case c12 => k_is)
    (case k12 => k_is)
    (case a13 => k_is)
    (case l13 => k_is)
    (case c13 => k_is)
    (case k13 => k_is)
    (case a14 => k_is)
    (case l14 => k_is)
    (case c14 => k_is)
    (case k14 => k_is)
    (case a15 => k_is)
    (case l15 => k_is)
    (case c15 => k_is)
    (case k15 => k_is)
    (case a16 => k_is)
    (case l16 => k_is)
    (case c16 => k_is)
    (case k16 => k_is)
    (case a17 => k_is)
    (case l17 => k_is)
    (case c17 => k_is)
    (case k17 => k_is)
    (case cI => k_is)
    (case hI => first | rfl | kernel_rfl)
    (case jI => first | rfl | decide +kernel | kernel_rfl)
    (case tI => first | rfl | decide +kernel | kernel_rfl)
    (case sI => k_is)
    (case pI => k_is)
    (case yI => k_is)
    (case oc_BadProgram => k_is)
    (case or_BadProgram => first | rfl | kernel_rfl)
    (case sa_BadProgram => k_is)
    (case cb_BadProgram => k_is)
    (case ct_BadProgram => k_is)
    (case ck_BadProgram => k_is)
    (case no_BadProgram => k_is)
    (case ms_BadProgram => k_is)
    (case su_BadProgram => ks_is)
    (case vb_BadProgram => k_is)
    (case mx_BadProgram => k_is)
    (case c1_BadProgram => k_is)
    (case c2_BadProgram => k_is)
    (case c4_BadProgram => k_is)
    (case c5_BadProgram => k_is)
    (case c6_BadProgram => k_is)
    (case c7_BadProgram => k_is)
    (case c8_BadProgram => k_is)
    (case S_BadProgram_BadProgram => kit_is)
    (case S_BadProgram_ValueError => kit_is)
    (case S_BadProgram_TooLarge => kit_is)
    (case oc_TooLarge => k_is)
    (case or_TooLarge => first | rfl | kernel_rfl)
    (case sa_TooLarge => k_is)
    (case cb_TooLarge => k_is)
    (case ct_TooLarge => k_is)
    (case ck_TooLarge => k_is)
    (case if_TooLarge => k_is)
    (case no_TooLarge => k_is)
    (case ms_TooLarge => k_is)
    (case su_TooLarge => ks_is)
    (case vb_TooLarge => k_is)
    (case mx_TooLarge => k_is)
    (case c1_TooLarge => k_is)
    (case c2_TooLarge => k_is)
    (case c4_TooLarge => k_is)
    (case c5_TooLarge => k_is)
    (case c6_TooLarge => k_is)
    (case c7_TooLarge => k_is)
    (case c8_TooLarge => k_is)
    (case S_TooLarge_BadProgram => kit_is)
    (case S_TooLarge_ValueError => kit_is)
    (case S_TooLarge_TooLarge => kit_is)
    (case cb_CellchainsError => k_is)
    (case ct_CellchainsError => k_is)
    (case c4_CellchainsError => k_is)
    (case ca_Checker => k_is)
    (case pg_Checker => k_is)
    (case hd_Checker => k_is)
    (case po_Checker => k_is)
    (case sa_Checker => k_is)
    (case mk_Checker => k_is)
    (case kc_Checker => k_is)
    (case n_Checker_source => k_is)
    (case n_Checker_many => k_is)
    (case a18 => k_is)
    (case i18 => k_is)
    (case l18 => k_is)
    (case c18 => k_is)
    (case k18 => k_is)
    (case a19 => k_is)
    (case i19 => k_is)
    (case l19 => k_is)
    (case c19 => k_is)
    (case k19 => k_is)
    (case a20 => k_is)
    (case i20 => k_is)
    (case l20 => k_is)
    (case c20 => k_is)
    (case k20 => k_is)
    (case a21 => k_is)
    (case i21 => k_is)
    (case l21 => k_is)
    (case c21 => k_is)
    (case k21 => k_is)
    (case z_ValueError => k_is)
    (case z_tuple => k_is)
    (case z_sum => k_is)
    (case z_enumerate => k_is)
    (case z_range => k_is)
    (case z_sorted => k_is)
    (case z_len => k_is)
    (case z_any => k_is)
    (case z_list => k_is)
    (case z_abs => k_is)
    (case z_int => k_is)
    (case z_max => k_is)
    (case z_all => k_is)
    (case z_isinstance => k_is)
    (case z_set => k_is)
    (case z_NIL => k_is)
    (case r_NIL => exact ⟨_, rfl⟩)
    (case z_MOST_PROCS => k_is)
    (case r_MOST_PROCS => exact ⟨_, rfl⟩)
    (case z_MOST_NAMES => k_is)
    (case r_MOST_NAMES => exact ⟨_, rfl⟩)
    (case z_MOST_GHOSTS => k_is)
    (case r_MOST_GHOSTS => exact ⟨_, rfl⟩)
    (case z_MOST_ATOMS => k_is)
    (case r_MOST_ATOMS => exact ⟨_, rfl⟩)
    (case z_MOST_ENSURES => k_is)
    (case r_MOST_ENSURES => exact ⟨_, rfl⟩)
    (case z_MOST_DEEP => k_is)
    (case r_MOST_DEEP => exact ⟨_, rfl⟩)
