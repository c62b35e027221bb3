import PyProof.Rows.All
import Wide.All
import OpenK.AllK
import Wide.FinOn
import HandS.ForMost
import HandS.ForExc
import KE.DataEq
import HandS.TupAny
import HandS.TupMul
import HandS.Wide
import HandS.Deep
import HandS.Style
import HandS.IsInst
import HandS.WideBits
import HandS.StrMore
import HandS.Flow
import HandS.CallSlots
import HandS.CallLocal
import HandS.Text
import HandS.WordsExc
import HandS.ExcOwn
import HandS.TryOnly
import HandS.Comp
import HandS.Iter
import HandS.ExcIs
import HandS.Strs
import HandS.Set
import HandS.SortInts
import HandS.SetFor
import HandS.SetKeys
import HandS.Codes
import HandS.DictComp
import HandS.DictTup
import HandS.ListItems
import KE.KDictPairs
import PyProof.NeKinds
import PyProof.EqAt
import HandS.SortOrd
import KE.KDictWalk
import HandS.Defaults
import HandS.Exc
import HandS.SortKw
import KE.SortKeyHeap
import PyProof.DictStraight
import PySem.Challenge.RW_cellchains_k02_written_sources
set_option Elab.async false
set_option linter.all false
set_option maxRecDepth 100000
namespace PL
open PySem PySem.Spec PyProof.Rows L2

/-! data: values, and tuples of data -/
inductive D where
  | v (x : V)
  | tup (ds : List D)

abbrev D.non : D := .v .non
abbrev D.bl (b : Bool) : D := .v (.bl b)
abbrev D.int (i : Int) : D := .v (.int i)
abbrev D.str (x : Str) : D := .v (.str x)
abbrev D.ob (a : Addr) : D := .v (.ref a)

section
variable (K : PySem.W.Frag) (H : Hp)
mutual
def RepD : D → V → Prop
  | .v x, u => u = x
  | .tup ds, u => ∃ a us, u = .ref a ∧ SqT K H a us ∧ RepL ds us
def RepL : List D → List V → Prop
  | [], us => us = []
  | d :: ds, us => ∃ u r, us = u :: r ∧ RepD d u ∧ RepL ds r
end
end

/-- tuples and locked things stay -/
structure Ext (K : PySem.W.Frag) (H H' : Hp) : Prop where
  sq : ∀ a xs, SqT K H a xs → SqT K H' a xs
  fz : ∀ a o u, H a = some (.frz o u) → H' a = some (.frz o u)
instance {K : PySem.W.Frag} {H H' : Hp} : CoeFun (Ext K H H') (fun _ => ∀ a xs, SqT K H a xs → SqT K H' a xs) := ⟨fun e => e.sq⟩
theorem Ext.refl {K : PySem.W.Frag} {H : Hp} : Ext K H H := ⟨fun _ _ h => h, fun _ _ _ h => h⟩
theorem Ext.trans {K : PySem.W.Frag} {H H1 H2 : Hp} (a : Ext K H H1) (b : Ext K H1 H2) : Ext K H H2 := ⟨fun c xs h => b.sq c xs (a.sq c xs h), fun c o u h => b.fz c o u (a.fz c o u h)⟩
theorem Ext.new {K : PySem.W.Frag} {H : Hp} {p : Addr} {o : HO} (h : H p = none) : Ext K H (upd H p o) := ⟨fun a xs q => by
  rcases q with (q | ⟨ob, q⟩) | q
  · exact .inl (.inl (by rw [upd_ne (ne_of_none q h)]; exact q))
  · exact .inl (.inr ⟨ob, by rw [upd_ne (ne_of_none q h)]; exact q⟩)
  · exact .inr q, fun a o' u q => by rw [upd_ne (ne_of_none q h)]; exact q⟩
theorem Ext.mut {K : PySem.W.Frag} {H : Hp} {p : Addr} {o o' : HO} (h : H p = some o) (m : Mut (some o)) : Ext K H (upd H p o') := ⟨fun a xs q => by
  rcases q with (q | ⟨ob, q⟩) | q
  · exact .inl (.inl (by rw [upd_ne (ne_of q h (by rintro rfl; exact m))]; exact q))
  · exact .inl (.inr ⟨ob, by rw [upd_ne (ne_of q h (by rintro rfl; exact m))]; exact q⟩)
  · exact .inr q, fun a o2 u q => by rw [upd_ne (ne_of q h (by rintro rfl; exact m))]; exact q⟩

mutual
theorem RepD.mono {K : PySem.W.Frag} {H H' : Hp} (e : Ext K H H') : ∀ (d : D) {u : V}, RepD K H d u → RepD K H' d u
  | .v _, _, h => by unfold RepD at h ⊢; exact h
  | .tup ds, _, h => by
    unfold RepD at h ⊢
    obtain ⟨a, us, e1, q, r⟩ := h
    exact ⟨a, us, e1, e _ _ q, RepL.mono e ds r⟩
theorem RepL.mono {K : PySem.W.Frag} {H H' : Hp} (e : Ext K H H') : ∀ (ds : List D) {us : List V}, RepL K H ds us → RepL K H' ds us
  | [], _, h => by unfold RepL at h ⊢; exact h
  | d :: ds, _, h => by
    unfold RepL at h ⊢
    obtain ⟨u, r, e1, q, t⟩ := h
    exact ⟨u, r, e1, RepD.mono e d q, RepL.mono e ds t⟩
end
theorem RepL.length {K : PySem.W.Frag} {H : Hp} : ∀ {ds : List D} {us : List V}, RepL K H ds us → us.length = ds.length
  | [], _, h => by unfold RepL at h; rw [h]; rfl
  | d :: ds, _, h => by
    unfold RepL at h
    obtain ⟨u, r, rfl, _, t⟩ := h
    simp [RepL.length t]
theorem RepL.get {K : PySem.W.Frag} {H : Hp} : ∀ {ds : List D} {us : List V} {i : Nat} {d : D}, RepL K H ds us → ds[i]? = some d → ∃ u, us[i]? = some u ∧ RepD K H d u
  | [], _, _, _, _, e => by simp at e
  | d :: ds, _, 0, _, h, e => by
    unfold RepL at h
    obtain ⟨u, r, rfl, q, _⟩ := h
    simp at e; subst e
    exact ⟨u, by simp, q⟩
  | d :: ds, _, i + 1, _, h, e => by
    unfold RepL at h
    obtain ⟨u, r, rfl, _, t⟩ := h
    obtain ⟨u', h1, h2⟩ := RepL.get (i := i) t (by simpa using e)
    exact ⟨u', by simpa using h1, h2⟩
theorem RepL.get' {K : PySem.W.Frag} {H : Hp} : ∀ {ds : List D} {us : List V} {i : Nat} {u : V}, RepL K H ds us → us[i]? = some u → ∃ d, ds[i]? = some d ∧ RepD K H d u
  | [], _, _, _, h, e => by unfold RepL at h; subst h; simp at e
  | d :: ds, _, 0, _, h, e => by
    unfold RepL at h
    obtain ⟨u, r, rfl, q, _⟩ := h
    simp at e; subst e
    exact ⟨d, by simp, q⟩
  | d :: ds, _, i + 1, _, h, e => by
    unfold RepL at h
    obtain ⟨u, r, rfl, _, t⟩ := h
    obtain ⟨u', h1, h2⟩ := RepL.get' (i := i) t (by simpa using e)
    exact ⟨u', by simpa using h1, h2⟩
theorem RepL.append {K : PySem.W.Frag} {H : Hp} : ∀ {ds es : List D} {us ws : List V}, RepL K H ds us → RepL K H es ws → RepL K H (ds ++ es) (us ++ ws)
  | [], _, _, _, h, g => by unfold RepL at h; subst h; exact g
  | d :: ds, _, _, _, h, g => by
    unfold RepL at h
    obtain ⟨u, r, rfl, q, t⟩ := h
    show RepL K H (d :: (ds ++ _)) _
    unfold RepL
    exact ⟨u, _, rfl, q, RepL.append t g⟩
theorem RepL.set {K : PySem.W.Frag} {H : Hp} {d' : D} {u' : V} (hd : RepD K H d' u') : ∀ {ds : List D} {us : List V} (i : Nat), RepL K H ds us → RepL K H (ds.set i d') (us.set i u')
  | [], _, _, h => by unfold RepL at h; subst h; simp [RepL]
  | d :: ds, _, 0, h => by
    unfold RepL at h
    obtain ⟨u, r, rfl, q, t⟩ := h
    simp only [List.set_cons_zero]; unfold RepL
    exact ⟨u', r, rfl, hd, t⟩
  | d :: ds, _, i + 1, h => by
    unfold RepL at h
    obtain ⟨u, r, rfl, q, t⟩ := h
    simp only [List.set_cons_succ]; unfold RepL
    exact ⟨u, _, rfl, q, RepL.set hd i t⟩
theorem RepL.drop {K : PySem.W.Frag} {H : Hp} : ∀ {ds : List D} {us : List V} (i : Nat), RepL K H ds us → RepL K H (ds.drop i) (us.drop i)
  | _, _, 0, h => by simpa using h
  | [], _, _ + 1, h => by unfold RepL at h; subst h; simp [RepL]
  | d :: ds, _, i + 1, h => by
    unfold RepL at h
    obtain ⟨u, r, rfl, q, t⟩ := h
    simpa using RepL.drop i t
theorem RepL.take {K : PySem.W.Frag} {H : Hp} : ∀ {ds : List D} {us : List V} (i : Nat), RepL K H ds us → RepL K H (ds.take i) (us.take i)
  | _, _, 0, h => by simp [RepL]
  | [], _, _ + 1, h => by unfold RepL at h; subst h; simp [RepL]
  | d :: ds, _, i + 1, h => by
    unfold RepL at h
    obtain ⟨u, r, rfl, q, t⟩ := h
    simp only [List.take_succ_cons]; unfold RepL
    exact ⟨u, _, rfl, q, RepL.take i t⟩
theorem RepL.cons {K : PySem.W.Frag} {H : Hp} {d : D} {u : V} {ds : List D} {us : List V} (h : RepD K H d u) (t : RepL K H ds us) : RepL K H (d :: ds) (u :: us) := by
  unfold RepL; exact ⟨u, us, rfl, h, t⟩
theorem RepL.nil {K : PySem.W.Frag} {H : Hp} : RepL K H [] [] := by unfold RepL; rfl
theorem RepL.ints {K : PySem.W.Frag} {H : Hp} : ∀ {ns : List Int} {us : List V}, RepL K H (ns.map D.int) us → us = ns.map V.int
  | [], _, h => by unfold RepL at h; simpa using h
  | n :: ns, _, h => by
    simp only [List.map_cons] at h; unfold RepL at h
    obtain ⟨u, r, rfl, q, t⟩ := h
    unfold RepD at q
    rw [RepL.ints t, q]; rfl
theorem RepL.of_ints {K : PySem.W.Frag} {H : Hp} : ∀ {ns : List Int}, RepL K H (ns.map D.int) (ns.map V.int)
  | [] => .nil
  | n :: ns => .cons (by unfold RepD; rfl) RepL.of_ints

/-! memory -/
inductive Ob where
  | lst (ds : List D)
  | rol (ds : List D)
  | dk (kvs : List (Key × D))
  | rdk (kvs : List (Key × D))
  | ctp (ds : List D)
  | ins (C : Addr) (fs : List (Str × D))
abbrev Mem := Addr → Option Ob
def mupd (M : Mem) (a : Addr) (o : Ob) : Mem := fun b => if b = a then some o else M b
theorem mupd_same {M : Mem} {a : Addr} {o : Ob} : mupd M a o a = some o := if_pos rfl
theorem mupd_ne {M : Mem} {a b : Addr} {o : Ob} (h : b ≠ a) : mupd M a o b = M b := if_neg h
theorem mupd_mupd {M : Mem} {a : Addr} {o u : Ob} : mupd (mupd M a o) a u = mupd M a u := by
  funext b; unfold mupd; split <;> rfl

section
variable (K : PySem.W.Frag) (H : Hp)
def RepKV {κ : Type} : List (κ × D) → List (κ × V) → Prop
  | [], us => us = []
  | (k, d) :: r, us => ∃ u t, us = (k, u) :: t ∧ RepD K H d u ∧ RepKV r t
def RepO (a : Addr) : Ob → Prop
  | .lst ds => ∃ us, H a = some (.lst us) ∧ RepL K H ds us
  | .rol ds => ∃ o us, H a = some (.frz o (.lst us)) ∧ RepL K H ds us
  | .dk kvs => ∃ us, H a = some (.dK us) ∧ RepKV K H kvs us
  | .rdk kvs => ∃ o us, H a = some (.frz o (.dK us)) ∧ RepKV K H kvs us
  | .ctp ds => ∃ o us, H a = some (.frz o (.tup us)) ∧ o.dict = none ∧ RepL K H ds us
  | .ins C fs => ∃ dx us, H a = some (.ins C dx us) ∧ RepKV K H fs us
def Sim (M : Mem) : Prop := ∀ a o, M a = some o → RepO K H a o
end
section
variable {K : PySem.W.Frag} {H H' : Hp} {M : Mem} {a : Addr}
theorem RepKV.mono {κ : Type} (e : Ext K H H') : ∀ {kvs : List (κ × D)} {us : List (κ × V)}, RepKV K H kvs us → RepKV K H' kvs us
  | [], _, h => h
  | (k, d) :: r, _, h => by
    obtain ⟨u, t, e1, q, z⟩ := h
    exact ⟨u, t, e1, RepD.mono e d q, RepKV.mono e z⟩
theorem RepO.mono (e : Ext K H H') (h : H' a = H a) : ∀ {o : Ob}, RepO K H a o → RepO K H' a o
  | .lst _, ⟨us, q, r⟩ => ⟨us, by rw [h]; exact q, RepL.mono e _ r⟩
  | .rol _, ⟨o, us, q, r⟩ => ⟨o, us, by rw [h]; exact q, RepL.mono e _ r⟩
  | .dk _, ⟨us, q, r⟩ => ⟨us, by rw [h]; exact q, RepKV.mono e r⟩
  | .rdk _, ⟨o, us, q, r⟩ => ⟨o, us, by rw [h]; exact q, RepKV.mono e r⟩
  | .ctp _, ⟨o, us, q, n, r⟩ => ⟨o, us, by rw [h]; exact q, n, RepL.mono e _ r⟩
  | .ins _ _, ⟨dx, us, q, r⟩ => ⟨dx, us, by rw [h]; exact q, RepKV.mono e r⟩
theorem RepO.there : ∀ {o : Ob}, RepO K H a o → ∃ x, H a = some x
  | .lst _, ⟨us, q, r⟩ => ⟨_, q⟩
  | .rol _, ⟨o, us, q, r⟩ => ⟨_, q⟩
  | .dk _, ⟨us, q, r⟩ => ⟨_, q⟩
  | .rdk _, ⟨o, us, q, r⟩ => ⟨_, q⟩
  | .ctp _, ⟨o, us, q, n, r⟩ => ⟨_, q⟩
  | .ins _ _, ⟨dx, us, q, r⟩ => ⟨_, q⟩
theorem Sim.mono (s : Sim K H M) (e : Ext K H H') (h : ∀ a o, M a = some o → H' a = H a) : Sim K H' M := fun a o q => (s a o q).mono e (h a o q)
theorem Sim.free (s : Sim K H M) {p : Addr} (h : H p = none) : M p = none := by
  cases q : M p with
  | none => rfl
  | some o =>
    obtain ⟨x, e⟩ := (s p o q).there
    rw [h] at e; cases e
/-- a new object, known -/
theorem Sim.new (s : Sim K H M) {p : Addr} {o : HO} {ob : Ob} (h : H p = none) (r : RepO K (upd H p o) p ob) : Sim K (upd H p o) (mupd M p ob) := fun b o' q => by
  by_cases hb : b = p
  · subst hb
    rw [mupd_same] at q; cases q
    exact r
  · rw [mupd_ne hb] at q
    exact (s b o' q).mono (Ext.new h) (upd_ne hb)
/-- a new object, not known -/
theorem Sim.laid (s : Sim K H M) {p : Addr} {o : HO} (h : H p = none) : Sim K (upd H p o) M := fun b o' q => by
  obtain ⟨x, e⟩ := (s b o' q).there
  exact (s b o' q).mono (Ext.new h) (upd_ne (ne_of_none e h))
/-- an object changed -/
theorem Sim.put (s : Sim K H M) {p : Addr} {o o' : HO} {ob : Ob} (h : H p = some o) (m : Mut (some o)) (r : RepO K (upd H p o') p ob) : Sim K (upd H p o') (mupd M p ob) := fun b q' q => by
  by_cases hb : b = p
  · subst hb
    rw [mupd_same] at q; cases q
    exact r
  · rw [mupd_ne hb] at q
    exact (s b q' q).mono (Ext.mut h m) (upd_ne hb)
end

/-! environments -/
abbrev DEnv := List (Option D)
def RepE (K : PySem.W.Frag) (H : Hp) (env : DEnv) (σ : L2.St) : Prop := env.length = σ.length ∧ ∀ (i : Nat) (d : D), env[i]? = some (some d) → ∃ u, σ[i]? = some (some u) ∧ RepD K H d u
theorem RepE.mono {K : PySem.W.Frag} {H H' : Hp} {env : DEnv} {σ : L2.St} (r : RepE K H env σ) (e : Ext K H H') : RepE K H' env σ :=
  ⟨r.1, fun i d h => let ⟨u, h1, h2⟩ := r.2 i d h; ⟨u, h1, RepD.mono e d h2⟩⟩
theorem RepE.set {K : PySem.W.Frag} {H : Hp} {env : DEnv} {σ : L2.St} (r : RepE K H env σ) {d : D} {u : V} (h : RepD K H d u) (i : Nat) : RepE K H (env.set i (some d)) (σ.set i (some u)) := by
  refine ⟨by simp [r.1], fun j e q => ?_⟩
  by_cases hj : i = j
  · subst hj
    by_cases hi : i < env.length
    · rw [List.getElem?_set_self hi] at q
      cases q
      exact ⟨u, by rw [List.getElem?_set_self (by rw [← r.1]; exact hi)], h⟩
    · rw [List.getElem?_eq_none (by simpa using hi)] at q; cases q
  · rw [List.getElem?_set_ne hj] at q ⊢
    exact r.2 j e q

/-! readings -/
abbrev DK := D → Mem → Prop
abbrev DX := Value → List (Str × D) → Mem → Prop
abbrev DE := DEnv → Mem → DK → DX → Prop
abbrev DT := DEnv → Mem → (Bool → Mem → Prop) → DX → Prop
abbrev DA := DEnv → Mem → (List D → Mem → Prop) → DX → Prop
structure DEnds where
  nx : DEnv → Mem → Prop
  rt : DK
  bk : DEnv → Mem → Prop := fun _ _ => False
  ct : DEnv → Mem → Prop := fun _ _ => False
  ex : Value → List (Str × D) → DEnv → Mem → Prop := fun _ _ _ _ => False
abbrev DS := DEnds → DEnv → Mem → Prop

def RepX (K : PySem.W.Frag) (H : Hp) (d : Option Addr) (fs : List (Str × D)) : Prop :=
  match d with
  | none => fs = []
  | some a => fs ≠ [] ∧ ∃ us, H a = some (.xd us) ∧ RepKV K H fs us

section
variable (K : PySem.W.Frag) (W : WX)
/-- the ends as the heap sees them, from H on -/
def upK (H : Hp) (Q : VK) : DK := fun d M' => ∀ u H', Ext K H H' → Sim K H' M' → RepD K H' d u → Q u H'
def upX (H : Hp) (σ : L2.St) : DX := fun c fs M' => ∀ d H', Ext K H H' → Sim K H' M' → RepX K H' d fs → W c d σ H'
def liftE (t : DE) : TE := fun σ H Q => ∃ env M, RepE K H env σ ∧ Sim K H M ∧ t env M (upK K H Q) (upX K W H σ)
def liftT (t : DT) : TT := fun σ H Q => ∃ env M, RepE K H env σ ∧ Sim K H M ∧ t env M (fun b M' => ∀ H', Ext K H H' → Sim K H' M' → Q b H') (upX K W H σ)
def liftA (t : DA) : TA := fun σ H Q => ∃ env M, RepE K H env σ ∧ Sim K H M ∧ t env M (fun ds M' => ∀ us H', Ext K H H' → Sim K H' M' → RepL K H' ds us → Q us H') (upX K W H σ)
def upN (H : Hp) (Q : L2.St → Hp → Prop) : DEnv → Mem → Prop := fun env' M' => ∀ σ' H', Ext K H H' → Sim K H' M' → RepE K H' env' σ' → Q σ' H'
def upEnds (H : Hp) (D : Ends) : DEnds where
  nx := upN K H D.nx
  rt := upK K H D.rt
  bk := upN K H D.bk
  ct := upN K H D.ct
  ex := fun c fs env' M' => ∀ d σ' H', Ext K H H' → Sim K H' M' → RepE K H' env' σ' → RepX K H' d fs → W c d σ' H'
def liftS (t : DS) : TS := fun D σ H => ∃ env M, RepE K H env σ ∧ Sim K H M ∧ t (upEnds K W H D) env M
end

def MonoE (t : DE) : Prop := ∀ env M (Q Q' : DK) (E E' : DX), (∀ d M, Q d M → Q' d M) → (∀ c f M, E c f M → E' c f M) → t env M Q E → t env M Q' E'
def MonoT (t : DT) : Prop := ∀ env M (Q Q' : Bool → Mem → Prop) (E E' : DX), (∀ d M, Q d M → Q' d M) → (∀ c f M, E c f M → E' c f M) → t env M Q E → t env M Q' E'
def MonoA (t : DA) : Prop := ∀ env M (Q Q' : List D → Mem → Prop) (E E' : DX), (∀ d M, Q d M → Q' d M) → (∀ c f M, E c f M → E' c f M) → t env M Q E → t env M Q' E'
structure DEnds.Le (D D' : DEnds) : Prop where
  nx : ∀ e M, D.nx e M → D'.nx e M
  rt : ∀ d M, D.rt d M → D'.rt d M
  bk : ∀ e M, D.bk e M → D'.bk e M
  ct : ∀ e M, D.ct e M → D'.ct e M
  ex : ∀ c f e M, D.ex c f e M → D'.ex c f e M
def MonoS (t : DS) : Prop := ∀ (D D' : DEnds) env M, D.Le D' → t D env M → t D' env M

structure XE (X : Cx) (W : WX) (e : Expr) (t : DE) : Prop where
  mono : MonoE t
  pe : PE X e (liftE X.K W t)
structure XT (X : Cx) (W : WX) (e : Expr) (t : DT) : Prop where
  mono : MonoT t
  pt : PT X e (liftT X.K W t)
structure XW (X : Cx) (W : WX) (e : Expr) (t : DT) : Prop where
  mono : MonoT t
  pw : PW X e (liftT X.K W t)
structure XA (X : Cx) (W : WX) (es : List Expr) (t : DA) : Prop where
  mono : MonoA t
  pa : PA X es (liftA X.K W t)
structure XS (X : Cx) (W : WX) (st : Stmt) (t : DS) : Prop where
  mono : MonoS t
  ps : PS X st (liftS X.K W t)
structure XSs (X : Cx) (W : WX) (st : List Stmt) (t : DS) : Prop where
  mono : MonoS t
  ps : PSs X st (liftS X.K W t)

theorem PEw {X : Cx} {e : Expr} {t t' : TE} (h : PE X e t) (w : ∀ σ H Q, t' σ H Q → t σ H Q) : PE X e t' := ⟨fun pins s σ H Q I q => h.run pins s σ H Q I (w σ H Q q)⟩
theorem PTw {X : Cx} {e : Expr} {t t' : TT} (h : PT X e t) (w : ∀ σ H Q, t' σ H Q → t σ H Q) : PT X e t' := ⟨fun pins s σ H Q I q => h.run pins s σ H Q I (w σ H Q q)⟩
theorem PWw {X : Cx} {e : Expr} {t t' : TT} (h : PW X e t) (w : ∀ σ H Q, t' σ H Q → t σ H Q) : PW X e t' := ⟨fun wh pins s σ H Q I q => h.run wh pins s σ H Q I (w σ H Q q)⟩
theorem PAw {X : Cx} {e : List Expr} {t t' : TA} (h : PA X e t) (w : ∀ σ H Q, t' σ H Q → t σ H Q) : PA X e t' := ⟨fun pos pins s σ H Q I q => h.run pos pins s σ H Q I (w σ H Q q)⟩
theorem PSw {X : Cx} {e : Stmt} {t t' : TS} (h : PS X e t) (w : ∀ D σ H, t' D σ H → t D σ H) : PS X e t' := ⟨fun pins s σ H Q I q => h.run pins s σ H Q I (w Q σ H q)⟩
theorem PSsw {X : Cx} {e : List Stmt} {t t' : TS} (h : PSs X e t) (w : ∀ D σ H, t' D σ H → t D σ H) : PSs X e t' := ⟨fun pins s σ H Q I q => h.run pins s σ H Q I (w Q σ H q)⟩

section
variable {K : PySem.W.Frag} {W : WX}
/-- a step of evaluation: the D-reading leads to the V-reading -/
theorem stepE {t : DE} (m : MonoE t) {σ : L2.St} {H : Hp} {env : DEnv} {M : Mem} {P : VK} {Q : DK} {E : DX} (re : RepE K H env σ) (s : Sim K H M) (h : t env M Q E)
    (hq : ∀ d M1 u H1, Ext K H H1 → Sim K H1 M1 → RepE K H1 env σ → RepD K H1 d u → Q d M1 → P u H1) (he : ∀ c f M1, E c f M1 → upX K W H σ c f M1) : liftE K W t σ H P :=
  ⟨env, M, re, s, m env M _ _ _ _ (fun d M1 q u H1 e1 s1 r1 => hq d M1 u H1 e1 s1 (re.mono e1) r1 q) he h⟩
theorem stepT {t : DT} (m : MonoT t) {σ : L2.St} {H : Hp} {env : DEnv} {M : Mem} {P : Bool → Hp → Prop} {Q : Bool → Mem → Prop} {E : DX} (re : RepE K H env σ) (s : Sim K H M) (h : t env M Q E)
    (hq : ∀ d M1 H1, Ext K H H1 → Sim K H1 M1 → RepE K H1 env σ → Q d M1 → P d H1) (he : ∀ c f M1, E c f M1 → upX K W H σ c f M1) : liftT K W t σ H P :=
  ⟨env, M, re, s, m env M _ _ _ _ (fun d M1 q H1 e1 s1 => hq d M1 H1 e1 s1 (re.mono e1) q) he h⟩
theorem stepA {t : DA} (m : MonoA t) {σ : L2.St} {H : Hp} {env : DEnv} {M : Mem} {P : List V → Hp → Prop} {Q : List D → Mem → Prop} {E : DX} (re : RepE K H env σ) (s : Sim K H M) (h : t env M Q E)
    (hq : ∀ ds M1 us H1, Ext K H H1 → Sim K H1 M1 → RepE K H1 env σ → RepL K H1 ds us → Q ds M1 → P us H1) (he : ∀ c f M1, E c f M1 → upX K W H σ c f M1) : liftA K W t σ H P :=
  ⟨env, M, re, s, m env M _ _ _ _ (fun d M1 q u H1 e1 s1 r1 => hq d M1 u H1 e1 s1 (re.mono e1) r1 q) he h⟩
theorem upX_mono {H H1 : Hp} {σ : L2.St} (e : Ext K H H1) : ∀ c f M1, upX K W H σ c f M1 → upX K W H1 σ c f M1 := fun c f M1 q d H' e' s r => q d H' (e.trans e') s r
theorem upK_mono {H H1 : Hp} {Q : VK} (e : Ext K H H1) : ∀ d M1, upK K H Q d M1 → upK K H1 Q d M1 := fun c M1 q d H' e' s r => q d H' (e.trans e') s r
end
end PL

namespace PL
open PySem PySem.Spec PyProof.Rows L2

/-! results of operations by values -/
inductive Res where
  | val (c : Prop) (d : D)
  | new (c : Prop) (o : Ob)
  | put (c : Prop) (a : Addr) (o : Ob) (d : D)
  | bad
def Res.run : Res → Mem → DK → Prop
  | .val c d, M, Q => c ∧ Q d M
  | .new c o, M, Q => c ∧ ∀ p, M p = none → Q (.ob p) (mupd M p o)
  | .put c a o d, M, Q => c ∧ Q d (mupd M a o)
  | .bad, _, _ => False
theorem Res.mono {r : Res} {M : Mem} {Q Q' : DK} (h : ∀ d M, Q d M → Q' d M) (q : r.run M Q) : r.run M Q' := by
  cases r with
  | val c d => exact ⟨q.1, h _ _ q.2⟩
  | new c o => exact ⟨q.1, fun p hp => h _ _ (q.2 p hp)⟩
  | put c a o d => exact ⟨q.1, h _ _ q.2⟩
  | bad => exact q

section
variable {K : PySem.W.Frag} {H : Hp} {M : Mem} {Q : VK}
theorem fin_val {x : V} (h : upK K H Q (.v x) M) (s : Sim K H M) : Q x H := h x H Ext.refl s (by unfold RepD; rfl)
theorem fin_rep {d : D} {x : V} (h : upK K H Q d M) (s : Sim K H M) (r : RepD K H d x) : Q x H := h x H Ext.refl s r
theorem fin_new {ob : Ob} {o : HO} {p : Addr} (h : ∀ p, M p = none → upK K H Q (.ob p) (mupd M p ob)) (s : Sim K H M) (hp : H p = none) (r : RepO K (upd H p o) p ob) : Q (.ref p) (upd H p o) :=
  h p (s.free hp) _ _ (Ext.new hp) (s.new hp r) (by unfold RepD; rfl)
theorem fin_tup {ds : List D} {us : List V} {p : Addr} (h : upK K H Q (.tup ds) M) (s : Sim K H M) (hp : H p = none) (r : RepL K H ds us) : Q (.ref p) (upd H p (.tup us)) :=
  h _ _ (Ext.new hp) (s.laid hp) (by unfold RepD; exact ⟨p, us, rfl, SqT.of upd_same, RepL.mono (Ext.new hp) _ r⟩)
theorem repO_lst {p : Addr} {ds : List D} {us : List V} (e : Ext K H (upd H p (.lst us))) (r : RepL K H ds us) : RepO K (upd H p (.lst us)) p (.lst ds) := ⟨us, upd_same, RepL.mono e _ r⟩
theorem fin_lst {ds : List D} {us : List V} {p : Addr} (h : ∀ p, M p = none → upK K H Q (.ob p) (mupd M p (.lst ds))) (s : Sim K H M) (hp : H p = none) (r : RepL K H ds us) : Q (.ref p) (upd H p (.lst us)) :=
  fin_new h s hp (repO_lst (Ext.new hp) r)
theorem fin_put {ob : Ob} {o o' : HO} {a : Addr} {d : D} {x : V} (h : upK K H Q d (mupd M a ob)) (s : Sim K H M) (ha : H a = some o) (m : Mut (some o)) (r : RepO K (upd H a o') a ob) (rd : RepD K H d x) : Q x (upd H a o') :=
  h x _ (Ext.mut ha m) (s.put ha m r) (RepD.mono (Ext.mut ha m) _ rd)
theorem rep_v {x u : V} (h : RepD K H (.v x) u) : u = x := by unfold RepD at h; exact h
theorem rep_of {x : V} : RepD K H (.v x) x := by unfold RepD; rfl
theorem rep_tup {ds : List D} {u : V} (h : RepD K H (.tup ds) u) : ∃ a us, u = .ref a ∧ SqT K H a us ∧ RepL K H ds us := by unfold RepD at h; exact h
theorem Sim.lst (s : Sim K H M) {a : Addr} {ds : List D} (h : M a = some (.lst ds)) : ∃ us, H a = some (.lst us) ∧ RepL K H ds us := s a _ h
theorem Sim.seq (s : Sim K H M) {a : Addr} {ds : List D} (h : M a = some (.lst ds) ∨ M a = some (.rol ds)) : ∃ us, SqL K H a us ∧ RepL K H ds us := by
  rcases h with h | h
  · obtain ⟨us, e, r⟩ := s a _ h
    exact ⟨us, SqL.of e, r⟩
  · obtain ⟨o, us, e, r⟩ := s a _ h
    exact ⟨us, .inl (.inr ⟨o, e⟩), r⟩
end

/-! plain data -/
mutual
def D.pure : D → Bool
  | .v .non | .v (.bl _) | .v (.int _) | .v (.str _) => true
  | .v _ => false
  | .tup ds => pureL ds
def pureL : List D → Bool
  | [] => true
  | d :: ds => d.pure && pureL ds
end
mutual
def D.py : D → PyData
  | .v .non => .none
  | .v (.bl b) => .bool b
  | .v (.int i) => .int i
  | .v (.str x) => .str x
  | .v _ => .none
  | .tup ds => .tuple (pyL ds)
def pyL : List D → List PyData
  | [] => []
  | d :: ds => d.py :: pyL ds
end
mutual
def D.dp : D → Nat
  | .v _ => 0
  | .tup ds => dpL ds + 1
def dpL : List D → Nat
  | [] => 0
  | d :: ds => max d.dp (dpL ds)
end
/-- == of plain data -/
def D.eqv (d e : D) : Bool := PyData.eqv d.py e.py
def eqvL (ds es : List D) : Bool := PyData.eqvAll (pyL ds) (pyL es)
theorem pyL_map : ∀ ds : List D, pyL ds = ds.map D.py
  | [] => by simp [pyL]
  | d :: ds => by simp [pyL, pyL_map ds]
mutual
theorem plain_py : ∀ d : D, d.py.plain = true
  | .v x => by cases x <;> simp [D.py, PyData.plain]
  | .tup ds => by simp [D.py, PyData.plain, plain_pyL ds]
theorem plain_pyL : ∀ ds : List D, PyData.plainAll (pyL ds) = true
  | [] => by simp [pyL, PyData.plainAll]
  | d :: ds => by simp [pyL, PyData.plainAll, plain_py d, plain_pyL ds]
end
mutual
theorem depth_py : ∀ d : D, d.py.depth = d.dp
  | .v x => by cases x <;> simp [D.py, D.dp, PyData.depth]
  | .tup ds => by simp [D.py, D.dp, PyData.depth, depth_pyL ds]
theorem depth_pyL : ∀ ds : List D, PyData.depthAll (pyL ds) = dpL ds
  | [] => by simp [pyL, dpL, PyData.depthAll]
  | d :: ds => by simp [pyL, dpL, PyData.depthAll, depth_py d, depth_pyL ds]
end
mutual
theorem RepD.dp {K : PySem.W.Frag} {H : Hp} : ∀ (d : D) {u : V}, d.pure = true → RepD K H d u → Dp K H u d.py
  | .v x, u, hp, h => by
    have e := rep_v h; subst e
    cases u <;> first | exact .non | exact .bl _ | exact .int _ | exact .str _ | (simp [D.pure] at hp)
  | .tup ds, u, hp, h => by
    obtain ⟨a, us, rfl, q, r⟩ := rep_tup h
    unfold D.py
    exact .tup q (RepL.dp ds (by simpa [D.pure] using hp) r)
theorem RepL.dp {K : PySem.W.Frag} {H : Hp} : ∀ (ds : List D) {us : List V}, pureL ds = true → RepL K H ds us → DpAll K H us (pyL ds)
  | [], us, hp, h => by unfold RepL at h; subst h; unfold pyL; exact .nil
  | d :: ds, us, hp, h => by
    unfold RepL at h
    obtain ⟨u, r, rfl, q, t⟩ := h
    simp only [pureL, Bool.and_eq_true] at hp
    unfold pyL
    exact .cons (RepD.dp d hp.1 q) (RepL.dp ds hp.2 t)
end

/-- plain data, or a list of such -/
def pyM (M : Mem) : D → Option PyData
  | .v (.ref a) => match M a with
    | some (.lst ds) => if pureL ds = true then some (.list (pyL ds)) else none
    | some (.rol ds) => if pureL ds = true then some (.list (pyL ds)) else none
    | _ => none
  | .v x => if (D.v x).pure = true then some (D.v x).py else none
  | .tup ds => if pureL ds = true then some (.tuple (pyL ds)) else none
theorem pyM_pure {M : Mem} : ∀ {d : D}, d.pure = true → pyM M d = some d.py
  | .v x, h => by cases x <;> simp_all [pyM, D.pure]
  | .tup ds, h => by simp_all [pyM, D.pure, D.py]
theorem pyM_dp {K : PySem.W.Frag} {H : Hp} {M : Mem} (s : Sim K H M) {d : D} {u : V} {p : PyData} (h : pyM M d = some p) (r : RepD K H d u) : Dp K H u p ∧ p.plain = true := by
  cases d with
  | tup ds =>
    simp only [pyM] at h
    split at h
    · cases h
      rename_i hp
      refine ⟨?_, by simp [PyData.plain, plain_pyL ds]⟩
      have := RepD.dp (.tup ds) (by simpa [D.pure] using hp) r
      simpa [D.py] using this
    · cases h
  | v x =>
    cases x with
    | ref a =>
      simp only [pyM] at h
      have e := rep_v r; subst e
      split at h
      · split at h
        · cases h
          rename_i ds hm hp
          obtain ⟨us, e, r⟩ := s a _ hm
          exact ⟨.lst (SqL.of e) (RepL.dp ds hp r), by simp [PyData.plain, plain_pyL ds]⟩
        · cases h
      · split at h
        · cases h
          rename_i ds hm hp
          obtain ⟨o, us, e, r⟩ := s a _ hm
          exact ⟨.lst (.inl (.inr ⟨o, e⟩)) (RepL.dp ds hp r), by simp [PyData.plain, plain_pyL ds]⟩
        · cases h
      · cases h
    | _ => (first
        | (simp [pyM, D.pure, D.py] at h; subst h; have e := rep_v r; subst e; exact ⟨by constructor, by simp [PyData.plain]⟩)
        | (simp [pyM, D.pure] at h))

/-! two-place operations -/
abbrev DOp2 := D → D → Mem → Res
def upR2 (K : PySem.W.Frag) (r : DOp2) : R2 := fun x y H Q => ∃ dx dy M, RepD K H dx x ∧ RepD K H dy y ∧ Sim K H M ∧ (r dx dy M).run M (upK K H Q)
def XOp (X : Cx) (f : Value → Value → Sem Value) (r : DOp2) : Prop := OpR X f (upR2 X.K r)

def dBin (r : DOp2) (ta tb : DE) : DE := fun env M Q E => ta env M (fun x M1 => tb env M1 (fun y M2 => (r x y M2).run M2 Q) E) E
theorem dBin_mono {r : DOp2} {ta tb : DE} (ha : MonoE ta) (hb : MonoE tb) : MonoE (dBin r ta tb) := fun env M Q Q' E E' hQ hE h =>
  ha env M _ _ _ _ (fun x M1 h1 => hb env M1 _ _ _ _ (fun y M2 h2 => Res.mono hQ h2) hE h1) hE h
section
variable {X : Cx} {W : WX} {a b : Expr} {ta tb : DE} {pos : Pos} {r : DOp2}
theorem bin_up {r2 : R2} (ha : XE X W a ta) (hb : XE X W b tb) (hr : ∀ x y H Q, upR2 X.K r x y H Q → r2 x y H Q) : ∀ σ H Q, liftE X.K W (dBin r ta tb) σ H Q → tOp r2 (liftE X.K W ta) (liftE X.K W tb) σ H Q := by
  rintro σ H Q ⟨env, M, re, s, h⟩
  refine stepE ha.mono re s h (fun d M1 u H1 e1 s1 re1 r1 h1 => ?_) fun _ _ _ z => z
  refine stepE hb.mono re1 s1 h1 (fun d2 M2 u2 H2 e2 s2 re2 r2 h2 => ?_) (upX_mono e1)
  exact hr _ _ _ _ ⟨d, d2, M2, RepD.mono e2 _ r1, r2, s2, Res.mono (upK_mono (e1.trans e2)) h2⟩
theorem xe_bin {op : Operator} (ho : XOp X (binaryOp op) r) (ha : XE X W a ta) (hb : XE X W b tb) : XE X W (.BinOp a op b pos) (dBin r ta tb) :=
  ⟨dBin_mono ha.mono hb.mono, PEw (pe_op ho ha.pe hb.pe) (bin_up ha hb fun _ _ _ _ h => h)⟩
theorem xe_cmp {op : CmpOp} (ho : XOp X (compareOp op) r) (ha : XE X W a ta) (hb : XE X W b tb) (hm : behindInMarks op b = false) : XE X W (.Compare a [op] [b] pos) (dBin r ta tb) :=
  ⟨dBin_mono ha.mono hb.mono, PEw (pe_cmpR ho ha.pe hb.pe hm) (bin_up ha hb fun _ _ _ _ h => h)⟩
end


/-! arithmetic -/
def opAdd : DOp2
  | .v (.int i), .v (.int j), _ => .val True (.int (i + j))
  | .v (.str a), .v (.str b), _ => .val (a.length + b.length ≤ sizeLine) (.str (a ++ b))
  | .tup a, .tup b, _ => .val (a.length + b.length ≤ sizeLine) (.tup (a ++ b))
  | .v (.ref a), .v (.ref b), M => match M a, M b with
    | some (.lst xs), some (.lst ys) => .new (xs.length + ys.length ≤ sizeLine) (.lst (xs ++ ys))
    | _, _ => .bad
  | _, _, _ => .bad
def opSub : DOp2
  | .v (.int i), .v (.int j), _ => .val True (.int (i - j))
  | _, _, _ => .bad
def opMul : DOp2
  | .v (.int i), .v (.int j), _ => .val (IntMulOk i j) (.int (i * j))
  | .tup xs, .v (.int k), _ => .val (xs ≠ [] ∧ 2 ≤ k ∧ k ≤ 1000 ∧ xs.length ≤ 1000) (.tup (List.replicate k.toNat xs).flatten)
  | .v (.str x), .v (.int k), _ => .val (1 ≤ x.length ∧ 2 ≤ k ∧ k ≤ 1000 ∧ x.length ≤ 1000) (.str ⟨(List.replicate k.toNat x.cps.toList).flatten.toArray⟩)
  | _, _, _ => .bad
def opFdiv : DOp2
  | .v (.int i), .v (.int j), _ => .val (0 < j ∧ j < 1073741824) (.int (i / j))
  | _, _, _ => .bad
def opMod : DOp2
  | .v (.int i), .v (.int j), _ => .val (0 < j) (.int (i % j))
  | _, _, _ => .bad
def opPow : DOp2
  | .v (.int i), .v (.int j), _ => .val (0 ≤ j ∧ j ≤ 1000000 ∧ i.natAbs < 2 ^ 64) (.int (i ^ j.toNat))
  | _, _, _ => .bad
theorem fold_rep (a : Array Nat) : ∀ (n : Nat) (acc : Array Nat), (List.replicate n a).foldl (· ++ ·) acc = acc ++ (List.replicate n a.toList).flatten.toArray
  | 0, acc => by simp
  | n + 1, acc => by
    rw [List.replicate_succ, List.foldl_cons, fold_rep a n, List.replicate_succ, List.flatten_cons]
    apply Array.toList_inj.mp
    simp
section
variable {X : Cx}
theorem x_sub : XOp X (binaryOp .Sub) opSub := by
  rintro pins s σ H x y v u Q I rx ry ⟨dx, dy, M, r1, r2, sm, h⟩
  unfold opSub at h
  split at h <;> first | exact h.elim | skip
  rw [rep_v r1] at rx; rw [rep_v r2] at ry
  exact op_sub pins s σ H _ _ v u Q I rx ry ⟨_, _, rfl, rfl, fin_val h.2 sm⟩
theorem x_fdiv : XOp X (binaryOp .FloorDiv) opFdiv := by
  rintro pins s σ H x y v u Q I rx ry ⟨dx, dy, M, r1, r2, sm, h⟩
  unfold opFdiv at h
  split at h <;> first | exact h.elim | skip
  rw [rep_v r1] at rx; rw [rep_v r2] at ry
  exact op_fdiv pins s σ H _ _ v u Q I rx ry ⟨_, _, rfl, rfl, h.1, fin_val h.2 sm⟩
theorem x_mod : XOp X (binaryOp .Mod) opMod := by
  rintro pins s σ H x y v u Q I rx ry ⟨dx, dy, M, r1, r2, sm, h⟩
  unfold opMod at h
  split at h <;> first | exact h.elim | skip
  rw [rep_v r1] at rx; rw [rep_v r2] at ry
  exact op_mod pins s σ H _ _ v u Q I rx ry ⟨_, _, rfl, rfl, h.1, fin_val h.2 sm⟩
theorem x_pow : XOp X (binaryOp .Pow) opPow := by
  rintro pins s σ H x y v u Q I rx ry ⟨dx, dy, M, r1, r2, sm, h⟩
  unfold opPow at h
  split at h <;> first | exact h.elim | skip
  rw [rep_v r1] at rx; rw [rep_v r2] at ry
  exact op_pow pins s σ H _ _ v u Q I rx ry ⟨_, _, rfl, rfl, h.1, fin_val h.2 sm⟩
theorem x_add : XOp X (binaryOp .Add) opAdd := by
  rintro pins s σ H x y v u Q I rx ry ⟨dx, dy, M, r1, r2, sm, h⟩
  unfold opAdd at h
  split at h <;> first | exact h.elim | skip
  · rw [rep_v r1] at rx; rw [rep_v r2] at ry
    exact op_add pins s σ H _ _ v u Q I rx ry ⟨_, _, rfl, rfl, fin_val h.2 sm⟩
  · rw [rep_v r1] at rx; rw [rep_v r2] at ry
    exact op_add_str pins s σ H _ _ v u Q I rx ry ⟨_, _, rfl, rfl, h.1, fin_val h.2 sm⟩
  · obtain ⟨a, us, rfl, q1, l1⟩ := rep_tup r1
    obtain ⟨b, ws, rfl, q2, l2⟩ := rep_tup r2
    refine op_catA pins s σ H _ _ v u Q I rx ry ⟨_, _, _, _, rfl, rfl, q1, q2, by rw [l1.length, l2.length]; exact h.1, fun e => ?_, fun _ e => ?_, fun _ _ p hp => ?_⟩
    · refine fin_rep h.2 sm ?_
      subst e
      have := l1.length
      rw [List.eq_nil_of_length_eq_zero this.symm, List.nil_append]
      exact r2
    · refine fin_rep h.2 sm ?_
      subst e
      have := l2.length
      rw [List.eq_nil_of_length_eq_zero this.symm, List.append_nil]
      exact r1
    · exact fin_tup h.2 sm hp (RepL.append l1 l2)
  · split at h <;> first | exact h.elim | skip
    rename_i hm1 hm2
    rw [rep_v r1] at rx; rw [rep_v r2] at ry
    obtain ⟨us, e1, l1⟩ := sm.lst hm1
    obtain ⟨ws, e2, l2⟩ := sm.lst hm2
    exact op_cat pins s σ H _ _ v u Q I rx ry ⟨_, _, _, _, rfl, rfl, e1, e2, by rw [l1.length, l2.length]; exact h.1, fun p hp => fin_lst h.2 sm hp (RepL.append l1 l2)⟩
theorem RepL.rep {K : PySem.W.Frag} {H : Hp} {ds : List D} {us : List V} (h : RepL K H ds us) : ∀ k : Nat, RepL K H (List.replicate k ds).flatten (List.replicate k us).flatten
  | 0 => by simp only [List.replicate_zero, List.flatten_nil]; exact .nil
  | k + 1 => by
    simp only [List.replicate_succ, List.flatten_cons]
    exact RepL.append h (RepL.rep h k)
theorem x_mul : XOp X (binaryOp .Mult) opMul := by
  rintro pins s σ H x y v u Q I rx ry ⟨dx, dy, M, r1, r2, sm, h⟩
  unfold opMul at h
  split at h <;> first | exact h.elim | skip
  · rw [rep_v r1] at rx; rw [rep_v r2] at ry
    obtain ⟨t, rfl⟩ := rx
    obtain ⟨t', rfl⟩ := ry
    exact mul_int ⟨.int _, H, I.tok _, ⟨_, rfl⟩, fin_val h.2 sm⟩ h.1
  · obtain ⟨a, us, rfl, q1, l1⟩ := rep_tup r1
    rw [rep_v r2] at ry
    obtain ⟨h1, h2, h3, h4⟩ := h.1
    refine op_repT pins s σ H _ _ v u Q I rx ry ⟨_, _, _, rfl, rfl, q1, fun e => h1 ?_, h2, h3, by rw [l1.length]; exact h4, fun p hp => fin_tup h.2 sm hp (RepL.rep l1 _)⟩
    have := l1.length
    rw [e] at this
    exact List.eq_nil_of_length_eq_zero this.symm
  · rename_i z k
    rw [rep_v r1] at rx; rw [rep_v r2] at ry
    obtain ⟨t, rfl⟩ := rx
    obtain ⟨t', rfl⟩ := ry
    obtain ⟨h1, h2, h3, h4⟩ := h.1
    have nk : ¬ k < 1 := by omega
    have k1 : (k == 1) = false := by simp; omega
    have z1 : (z.length == 0) = false := by simp; omega
    have hk : (z.length : Int) * k ≤ 1000000 := by
      have a1 : (z.length : Int) * k ≤ 1000 * k := Int.mul_le_mul_of_nonneg_right (by omega) (by omega)
      omega
    have hn : z.length * k.toNat ≤ 1000000 := by
      have : ((z.length * k.toNat : Nat) : Int) = (z.length : Int) * k := by
        rw [Int.natCast_mul, Int.toNat_of_nonneg (by omega)]
      omega
    refine PySem.P.mul_str ?_ (fun _ _ => ?_) (fun _ _ => ?_) ?_
    · rw [decide_eq_false (by omega), decide_eq_false (by omega)]; rfl
    · have : ((2 : Int) ^ 63 - 1) / k ≥ (2 ^ 63 - 1) / 1000 := by
        have h5 : (2 ^ 63 - 1 : Int) / 1000 * k ≤ (2 ^ 63 - 1) := by
          have : (2 ^ 63 - 1 : Int) / 1000 * k ≤ (2 ^ 63 - 1 : Int) / 1000 * 1000 := Int.mul_le_mul_of_nonneg_left h3 (by decide)
          omega
        exact (Int.le_ediv_iff_mul_le (by omega)).mpr h5
      omega
    · simp only [Builtin.Str.tooLong, decide_eq_false_iff_not]
      rw [sizeLine_eq]
      omega
    · rw [if_neg nk, k1, z1]
      rw [fold_rep, Array.empty_append]
      refine ⟨?_, .str _, H, I.tok _, ⟨_, rfl⟩, fin_val h.2 sm⟩
      show (List.toArray _).size ≤ _
      rw [List.size_toArray, List.length_flatten, List.map_replicate, List.sum_replicate_nat, Nat.mul_comm, sizeLine_eq]
      show z.cps.size * k.toNat ≤ _
      have e : z.length = z.cps.size := rfl
      rw [e] at hn
      omega
end
end PL

namespace PL
open PySem PySem.Spec PyProof.Rows L2

/-! comparisons -/
def mostDeep : Nat := 150
def opEq : DOp2 := fun x y M => match pyM M x, pyM M y with
  | some p, some q => .val (min p.depth q.depth ≤ mostDeep) (.bl (PyData.eqv p q))
  | _, _ => .bad
def opNe : DOp2 := fun x y M => match pyM M x, pyM M y with
  | some p, some q => .val (min p.depth q.depth ≤ mostDeep) (.bl (!PyData.eqv p q))
  | _, _ => .bad
def opLt : DOp2
  | .v (.int i), .v (.int j), _ => .val True (.bl (decide (i < j)))
  | .v (.str a), .v (.str b), _ => .val True (.bl (decide (a.cps.toList < b.cps.toList)))
  | _, _, _ => .bad
def opLe : DOp2
  | .v (.int i), .v (.int j), _ => .val True (.bl (decide (i ≤ j)))
  | .v (.str a), .v (.str b), _ => .val True (.bl (!decide (b.cps.toList < a.cps.toList)))
  | _, _, _ => .bad
def opGt : DOp2
  | .v (.int i), .v (.int j), _ => .val True (.bl (decide (j < i)))
  | .v (.str a), .v (.str b), _ => .val True (.bl (decide (b.cps.toList < a.cps.toList)))
  | _, _, _ => .bad
def opGe : DOp2
  | .v (.int i), .v (.int j), _ => .val True (.bl (decide (j ≤ i)))
  | .v (.str a), .v (.str b), _ => .val True (.bl (!decide (a.cps.toList < b.cps.toList)))
  | _, _, _ => .bad
def D.isNon : D → Bool
  | .v .non => true
  | _ => false
def opIs : DOp2
  | d, .v .non, _ => .val True (.bl d.isNon)
  | .v (.bl a), .v (.bl b), _ => .val True (.bl (decide (a = b)))
  | _, _, _ => .bad
def opIsNot : DOp2
  | d, .v .non, _ => .val True (.bl (!d.isNon))
  | .v (.bl a), .v (.bl b), _ => .val True (.bl (!decide (a = b)))
  | _, _, _ => .bad
def D.key : D → Option Key
  | .v (.int i) => some (.inl i)
  | .v (.str x) => some (.inr x)
  | _ => none
def look {κ β : Type} [DecidableEq κ] : List (κ × β) → κ → Option β
  | [], _ => none
  | (a, d) :: r, k => if a = k then some d else look r k
/-- x in y, as a bool where it is defined -/
def isIn (x y : D) (M : Mem) : Option (Nat × Bool) := match y with
  | .v (.str b) => match x with
    | .v (.str a) => if a.cps.size = 1 then some (0, decide (a.cps.getD 0 0 ∈ b.cps.toList)) else none
    | _ => none
  | .tup ds => if pureL ds && x.pure then some (min (dpL ds) x.dp, ds.any fun d => D.eqv d x) else none
  | .v (.ref a) => match M a with
    | some (.lst ds) => if pureL ds && x.pure then some (min (dpL ds) x.dp, ds.any fun d => D.eqv d x) else none
    | some (.rol ds) => if pureL ds && x.pure then some (min (dpL ds) x.dp, ds.any fun d => D.eqv d x) else none
    | some (.dk kvs) => match x.key with
      | some k => some (0, (look kvs k).isSome)
      | none => none
    | some (.rdk kvs) => match x.key with
      | some k => some (0, (look kvs k).isSome)
      | none => none
    | _ => none
  | _ => none
def opIn : DOp2 := fun x y M => match isIn x y M with
  | some (n, b) => .val (n ≤ mostDeep) (.bl b)
  | none => .bad
def opNotIn : DOp2 := fun x y M => match isIn x y M with
  | some (n, b) => .val (n ≤ mostDeep) (.bl (!b))
  | none => .bad

theorem key_rep {K : PySem.W.Frag} {H : Hp} {d : D} {u : V} {k : Key} (h : d.key = some k) (r : RepD K H d u) : u = kV k := by
  unfold D.key at h
  split at h <;> cases h <;> exact rep_v r
theorem RepKV.look {κ : Type} [DecidableEq κ] {K : PySem.W.Frag} {H : Hp} (k : κ) : ∀ {kvs : List (κ × D)} {us : List (κ × V)}, RepKV K H kvs us →
    match PL.look kvs k, valV us k with | some d, some u => RepD K H d u | none, none => True | _, _ => False
  | [], _, h => by unfold RepKV at h; subst h; simp [PL.look, valV]
  | (k', d) :: r, _, h => by
    obtain ⟨u, t, rfl, q, z⟩ := h
    have ih := RepKV.look k z
    by_cases e : k' = k
    · simpa [PL.look, valV, e] using q
    · simpa [PL.look, valV, e] using ih
theorem RepKV.isSome {κ : Type} [DecidableEq κ] {K : PySem.W.Frag} {H : Hp} (k : κ) {kvs : List (κ × D)} {us : List (κ × V)} (h : RepKV K H kvs us) : (valV us k).isSome = (PL.look kvs k).isSome := by
  have q := h.look k
  cases e : PL.look kvs k <;> cases f : valV us k <;> simp_all
theorem any_eqv (x : D) : ∀ ds : List D, ((pyL ds).any fun y => PyData.eqv y x.py) = ds.any fun d => D.eqv d x
  | [] => by simp [pyL]
  | d :: ds => by simp [pyL, any_eqv x ds, D.eqv]

section
variable {X : Cx}
theorem rd_of {pins : List (Addr × Obj)} {σ : L2.St} {H : Hp} {s : Shared} {d : PyData} {x : V} {v : Value} (I : Inv X pins σ H s) (h : Dp X.K H x d) (r : RelV x v) : ∃ as, Reads s.heap v d as := Dp.reads I d x v h r
theorem x_eq (hu : X.A.units + 200 < cLine) : XOp X (compareOp .Eq) opEq := by
  rintro pins s σ H x y v u Q I rx ry ⟨dx, dy, M, r1, r2, sm, h⟩
  unfold opEq at h
  split at h <;> first | exact h.elim | skip
  rename_i p q hp hq
  obtain ⟨p1, n1⟩ := pyM_dp sm hp r1
  obtain ⟨p2, n2⟩ := pyM_dp sm hq r2
  obtain ⟨as, a1⟩ := rd_of I p1 rx
  obtain ⟨bs, b1⟩ := rd_of I p2 ry
  have hd := h.1
  unfold mostDeep at hd
  exact SeqAt.eq_plain a1 b1 n1 n2 (by omega) ⟨.bl _, H, I, rfl, fin_val h.2 sm⟩
theorem x_ne (hu : X.A.units + 200 < cLine) : XOp X (compareOp .NotEq) opNe := by
  rintro pins s σ H x y v u Q I rx ry ⟨dx, dy, M, r1, r2, sm, h⟩
  unfold opNe at h
  split at h <;> first | exact h.elim | skip
  rename_i p q hp hq
  obtain ⟨p1, n1⟩ := pyM_dp sm hp r1
  obtain ⟨p2, n2⟩ := pyM_dp sm hq r2
  obtain ⟨as, a1⟩ := rd_of I p1 rx
  obtain ⟨bs, b1⟩ := rd_of I p2 ry
  have hd := h.1
  unfold mostDeep at hd
  exact SeqAt.ne_plain a1 b1 n1 n2 (by omega) ⟨.bl _, H, I, rfl, fin_val h.2 sm⟩
theorem x_lt : XOp X (compareOp .Lt) opLt := by
  rintro pins s σ H x y v u Q I rx ry ⟨dx, dy, M, r1, r2, sm, h⟩
  unfold opLt at h
  split at h <;> first | exact h.elim | skip
  all_goals rw [rep_v r1] at rx; rw [rep_v r2] at ry
  · exact op_lt pins s σ H _ _ v u Q I rx ry ⟨_, _, rfl, rfl, fin_val h.2 sm⟩
  · exact op_lt_str pins s σ H _ _ v u Q I rx ry ⟨_, _, rfl, rfl, fin_val h.2 sm⟩
theorem x_le : XOp X (compareOp .LtE) opLe := by
  rintro pins s σ H x y v u Q I rx ry ⟨dx, dy, M, r1, r2, sm, h⟩
  unfold opLe at h
  split at h <;> first | exact h.elim | skip
  all_goals rw [rep_v r1] at rx; rw [rep_v r2] at ry
  · exact op_le pins s σ H _ _ v u Q I rx ry ⟨_, _, rfl, rfl, fin_val h.2 sm⟩
  · exact op_le_str pins s σ H _ _ v u Q I rx ry ⟨_, _, rfl, rfl, fin_val h.2 sm⟩
theorem x_gt : XOp X (compareOp .Gt) opGt := by
  rintro pins s σ H x y v u Q I rx ry ⟨dx, dy, M, r1, r2, sm, h⟩
  unfold opGt at h
  split at h <;> first | exact h.elim | skip
  all_goals rw [rep_v r1] at rx; rw [rep_v r2] at ry
  · exact op_gt pins s σ H _ _ v u Q I rx ry ⟨_, _, rfl, rfl, fin_val h.2 sm⟩
  · exact op_gt_str pins s σ H _ _ v u Q I rx ry ⟨_, _, rfl, rfl, fin_val h.2 sm⟩
theorem x_ge : XOp X (compareOp .GtE) opGe := by
  rintro pins s σ H x y v u Q I rx ry ⟨dx, dy, M, r1, r2, sm, h⟩
  unfold opGe at h
  split at h <;> first | exact h.elim | skip
  all_goals rw [rep_v r1] at rx; rw [rep_v r2] at ry
  · exact op_ge pins s σ H _ _ v u Q I rx ry ⟨_, _, rfl, rfl, fin_val h.2 sm⟩
  · exact op_ge_str pins s σ H _ _ v u Q I rx ry ⟨_, _, rfl, rfl, fin_val h.2 sm⟩
theorem non_rep {K : PySem.W.Frag} {H : Hp} {d : D} {u : V} (r : RepD K H d u) : decide (u = .non) = d.isNon := by
  cases d with
  | tup ds =>
    obtain ⟨a, us, rfl, _⟩ := rep_tup r
    rfl
  | v x =>
    rw [rep_v r]
    cases x <;> rfl
theorem x_is : XOp X (compareOp .Is) opIs := by
  rintro pins s σ H x y v u Q I rx ry ⟨dx, dy, M, r1, r2, sm, h⟩
  unfold opIs at h
  split at h <;> first | exact h.elim | skip
  · rw [rep_v r2] at ry
    refine op_isN pins s σ H _ _ v u Q I rx ry ⟨rfl, ?_⟩
    rw [non_rep r1]
    exact fin_val h.2 sm
  · rw [rep_v r1] at rx; rw [rep_v r2] at ry
    exact op_isBl pins s σ H _ _ v u Q I rx ry ⟨_, _, rfl, rfl, fin_val h.2 sm⟩
theorem x_isnot : XOp X (compareOp .IsNot) opIsNot := by
  rintro pins s σ H x y v u Q I rx ry ⟨dx, dy, M, r1, r2, sm, h⟩
  unfold opIsNot at h
  split at h <;> first | exact h.elim | skip
  · rw [rep_v r2] at ry
    refine op_notN pins s σ H _ _ v u Q I rx ry ⟨rfl, ?_⟩
    rw [non_rep r1]
    exact fin_val h.2 sm
  · rw [rep_v r1] at rx; rw [rep_v r2] at ry
    exact op_notBl pins s σ H _ _ v u Q I rx ry ⟨_, _, rfl, rfl, fin_val h.2 sm⟩

theorem one_sign {a : Str} (h : a.cps.size = 1) : a = ⟨#[a.cps.getD 0 0]⟩ := by
  obtain ⟨⟨l⟩⟩ := a
  match l, h with
  | [c], _ => rfl
theorem x_in (hu : X.A.units + 200 < cLine) : XOp X (compareOp .In) opIn := by
  rintro pins s σ H x y v u Q I rx ry ⟨dx, dy, M, r1, r2, sm, h⟩
  unfold opIn at h
  split at h <;> first | exact h.elim | skip
  rename_i n b hb
  have hn := h.1
  unfold mostDeep at hn
  unfold isIn at hb
  split at hb
  · -- texts
    split at hb <;> try (cases hb; done)
    split at hb <;> cases hb
    rename_i h1
    rw [rep_v r1] at rx; rw [rep_v r2] at ry
    refine op_in_sign pins s σ H _ _ v u Q I rx ry ⟨_, _, congrArg V.str (one_sign h1), rfl, fin_val h.2 sm⟩
  · -- tuples
    split at hb <;> cases hb
    rename_i ds hp
    simp only [Bool.and_eq_true] at hp
    obtain ⟨a, us, rfl, q1, l1⟩ := rep_tup r2
    obtain ⟨as, a1⟩ := rd_of I (Dp.tup q1 (RepL.dp ds hp.1 l1)) ry
    obtain ⟨bs, b1⟩ := rd_of I (RepD.dp dx hp.2 r1) rx
    refine SeqAt.in_tuple_data a1 b1 (plain_pyL ds) (plain_py dx) (by rw [depth_pyL, depth_py]; omega) ?_
    rw [any_eqv]
    exact ⟨.bl _, H, I, rfl, fin_val h.2 sm⟩
  · -- lists, dicts
    have e := rep_v r2
    subst e
    split at hb
    · split at hb <;> cases hb
      rename_i ds hm hp
      simp only [Bool.and_eq_true] at hp
      obtain ⟨us, e1, l1⟩ := sm.lst hm
      obtain ⟨as, a1⟩ := rd_of I (Dp.lst (SqL.of e1) (RepL.dp ds hp.1 l1)) ry
      obtain ⟨bs, b1⟩ := rd_of I (RepD.dp dx hp.2 r1) rx
      refine SeqAt.in_list_data a1 b1 (plain_pyL ds) (plain_py dx) (by rw [depth_pyL, depth_py]; omega) ?_
      rw [any_eqv]
      exact ⟨.bl _, H, I, rfl, fin_val h.2 sm⟩
    · split at hb <;> cases hb
      rename_i ds hm hp
      simp only [Bool.and_eq_true] at hp
      obtain ⟨us, e1, l1⟩ := sm.seq (.inr hm)
      obtain ⟨as, a1⟩ := rd_of I (Dp.lst e1 (RepL.dp ds hp.1 l1)) ry
      obtain ⟨bs, b1⟩ := rd_of I (RepD.dp dx hp.2 r1) rx
      refine SeqAt.in_list_data a1 b1 (plain_pyL ds) (plain_py dx) (by rw [depth_pyL, depth_py]; omega) ?_
      rw [any_eqv]
      exact ⟨.bl _, H, I, rfl, fin_val h.2 sm⟩
    · split at hb <;> cases hb
      rename_i kvs hm _ k hk
      obtain ⟨us, e1, l1⟩ := sm _ _ hm
      have ex := key_rep hk r1
      subst ex
      obtain rfl : u = Value.ref _ := ry
      refine d_in (o := valV us k) (by omega) I (DGet.k e1) rx fun s' I' => ⟨.bl _, H, I', rfl, ?_⟩
      rw [l1.isSome k]
      exact fin_val h.2 sm
    · split at hb <;> cases hb
      rename_i kvs hm _ k hk
      obtain ⟨ob, us, e1, l1⟩ := sm _ _ hm
      have ex := key_rep hk r1
      subst ex
      obtain rfl : u = Value.ref _ := ry
      refine d_in (o := valV us k) (by omega) I (.inl ⟨us, k, .inr ⟨ob, e1⟩, rfl, rfl⟩) rx fun s' I' => ⟨.bl _, H, I', rfl, ?_⟩
      rw [l1.isSome k]
      exact fin_val h.2 sm
    · cases hb
  · cases hb
theorem x_notin (hu : X.A.units + 200 < cLine) : XOp X (compareOp .NotIn) opNotIn := by
  rintro pins s σ H x y v u Q I rx ry ⟨dx, dy, M, r1, r2, sm, h⟩
  unfold opNotIn at h
  split at h <;> first | exact h.elim | skip
  rename_i n b hb
  have hn := h.1
  unfold mostDeep at hn
  unfold isIn at hb
  split at hb
  · split at hb <;> try (cases hb; done)
    split at hb <;> cases hb
    rename_i h1
    rw [rep_v r1] at rx; rw [rep_v r2] at ry
    refine op_notIn_sign pins s σ H _ _ v u Q I rx ry ⟨_, _, congrArg V.str (one_sign h1), rfl, fin_val h.2 sm⟩
  · split at hb <;> cases hb
    rename_i ds hp
    simp only [Bool.and_eq_true] at hp
    obtain ⟨a, us, rfl, q1, l1⟩ := rep_tup r2
    obtain ⟨as, a1⟩ := rd_of I (Dp.tup q1 (RepL.dp ds hp.1 l1)) ry
    obtain ⟨bs, b1⟩ := rd_of I (RepD.dp dx hp.2 r1) rx
    refine SeqAt.notIn_tuple_data a1 b1 (plain_pyL ds) (plain_py dx) (by rw [depth_pyL, depth_py]; omega) ?_
    rw [any_eqv]
    exact ⟨.bl _, H, I, rfl, fin_val h.2 sm⟩
  · have e := rep_v r2
    subst e
    split at hb
    · split at hb <;> cases hb
      rename_i ds hm hp
      simp only [Bool.and_eq_true] at hp
      obtain ⟨us, e1, l1⟩ := sm.lst hm
      obtain ⟨as, a1⟩ := rd_of I (Dp.lst (SqL.of e1) (RepL.dp ds hp.1 l1)) ry
      obtain ⟨bs, b1⟩ := rd_of I (RepD.dp dx hp.2 r1) rx
      refine SeqAt.notIn_list_data a1 b1 (plain_pyL ds) (plain_py dx) (by rw [depth_pyL, depth_py]; omega) ?_
      rw [any_eqv]
      exact ⟨.bl _, H, I, rfl, fin_val h.2 sm⟩
    · split at hb <;> cases hb
      rename_i ds hm hp
      simp only [Bool.and_eq_true] at hp
      obtain ⟨us, e1, l1⟩ := sm.seq (.inr hm)
      obtain ⟨as, a1⟩ := rd_of I (Dp.lst e1 (RepL.dp ds hp.1 l1)) ry
      obtain ⟨bs, b1⟩ := rd_of I (RepD.dp dx hp.2 r1) rx
      refine SeqAt.notIn_list_data a1 b1 (plain_pyL ds) (plain_py dx) (by rw [depth_pyL, depth_py]; omega) ?_
      rw [any_eqv]
      exact ⟨.bl _, H, I, rfl, fin_val h.2 sm⟩
    · split at hb <;> cases hb
      rename_i kvs hm _ k hk
      obtain ⟨us, e1, l1⟩ := sm _ _ hm
      have ex := key_rep hk r1
      subst ex
      obtain rfl : u = Value.ref _ := ry
      refine d_notIn (o := valV us k) (by omega) I (DGet.k e1) rx fun s' I' => ⟨.bl _, H, I', rfl, ?_⟩
      rw [l1.isSome k]
      exact fin_val h.2 sm
    · split at hb <;> cases hb
      rename_i kvs hm _ k hk
      obtain ⟨ob, us, e1, l1⟩ := sm _ _ hm
      have ex := key_rep hk r1
      subst ex
      obtain rfl : u = Value.ref _ := ry
      refine d_notIn (o := valV us k) (by omega) I (.inl ⟨us, k, .inr ⟨ob, e1⟩, rfl, rfl⟩) rx fun s' I' => ⟨.bl _, H, I', rfl, ?_⟩
      rw [l1.isSome k]
      exact fin_val h.2 sm
    · cases hb
  · cases hb
end
end PL

namespace PL
open PySem PySem.Spec PyProof.Rows L2

/-! names, constants -/
def dVar (i : Nat) : DE := fun env M Q _ => match env[i]? with
  | some (some d) => Q d M
  | _ => False
def dC (d : D) : DE := fun _ M Q _ => Q d M
theorem dC_mono {d : D} : MonoE (dC d) := fun _ _ _ _ _ _ hQ _ h => hQ _ _ h
section
variable {X : Cx} {W : WX} {pos : Pos}
theorem xe_var (i : Nat) {x : Str} (hN : X.N[i]? = some x := by rfl) (hv : Vis X.env.scope x := by first | exact Or.inl rfl | exact Or.inr (Or.inl rfl) | exact Or.inr (Or.inr rfl)) (hd : (x == ("__debug__" : Str)) = false := by decide)
    (hcd : (x == ("__classdict__" : Str)) = false := by decide) : XE X W (.Name x pos) (dVar i) := by
  refine ⟨fun env M Q Q' E E' hQ hE h => ?_, PEw (pe_var hN hv hd hcd) ?_⟩
  · unfold dVar at h ⊢
    split at h
    · exact hQ _ _ h
    · exact h
  · rintro σ H Q ⟨env, M, re, s, h⟩
    unfold dVar at h
    split at h
    · rename_i d e
      obtain ⟨u, h1, h2⟩ := re.2 i d e
      exact ⟨u, h1, fin_rep h s h2⟩
    · exact h.elim
theorem xe_const {e : Expr} {x : V} (h : PE X e (tC x)) : XE X W e (dC (.v x)) := by
  refine ⟨dC_mono, PEw h ?_⟩
  rintro σ H Q ⟨env, M, re, s, h⟩
  exact fin_val h s
theorem xe_int {i j} : XE X W (.Constant (.int i) j pos) (dC (.int i)) := xe_const pe_int
theorem xe_str {x j} : XE X W (.Constant (.str x) j pos) (dC (.str x)) := xe_const pe_str
theorem xe_bl {b j} : XE X W (.Constant (.bool b) j pos) (dC (.bl b)) := xe_const pe_bl
theorem xe_non {j} : XE X W (.Constant .none j pos) (dC .non) := xe_const pe_non
theorem xe_glob {x : Str} {v : V} {u : Value} (hg : Gl X x) (hm : X.mg x = some u) (r : RelV v u) (hd : (x == ("__debug__" : Str)) = false := by decide) : XE X W (.Name x pos) (dC (.v v)) := xe_const (pe_glob hg hm r hd)
theorem xe_bltn {x : Str} {v : V} {u : Value} (hg : Gl X x) (hm : X.mg x = none) (hv : bootBuiltins x = some u) (r : RelV v u) (hn : x ≠ "__name__" := by decide) (hd : (x == ("__debug__" : Str)) = false := by decide) : XE X W (.Name x pos) (dC (.v v)) :=
  xe_const (pe_bltn hg hm hv r hn hd)
/-- a constant tuple of the module -/
theorem xe_globT {x : Str} {a : Addr} {ds : List D} (hg : Gl X x) (hm : X.mg x = some (.ref a)) (r : ∀ H, RepD X.K H (.tup ds) (.ref a)) (hd : (x == ("__debug__" : Str)) = false := by decide) : XE X W (.Name x pos) (dC (.tup ds)) := by
  refine ⟨dC_mono, PEw (pe_glob (v := .ref a) hg hm rfl hd) ?_⟩
  rintro σ H Q ⟨env, M, re, s, h⟩
  exact fin_rep h s (r H)
end

/-! one-place operations, truth -/
def truth (M : Mem) : D → Option Bool
  | .v .non => some false
  | .v (.bl b) => some b
  | .v (.int i) => some (i != 0)
  | .v (.str x) => if x.length ≤ sizeLine then some ((x.length : Int) != 0) else none
  | .tup ds => some (!ds.isEmpty)
  | .v (.ref a) => match M a with
    | some (.lst ds) => some (!ds.isEmpty)
    | some (.rol ds) => some (!ds.isEmpty)
    | some (.dk kvs) => some (!kvs.isEmpty)
    | _ => none
  | _ => none
theorem RepL.isEmpty {K : PySem.W.Frag} {H : Hp} {ds : List D} {us : List V} (h : RepL K H ds us) : us.isEmpty = ds.isEmpty := by
  have := h.length
  cases ds <;> cases us <;> simp_all
theorem RepKV.length {κ : Type} {K : PySem.W.Frag} {H : Hp} : ∀ {kvs : List (κ × D)} {us : List (κ × V)}, RepKV K H kvs us → us.length = kvs.length
  | [], _, h => by unfold RepKV at h; rw [h]; rfl
  | (k, d) :: r, _, h => by
    obtain ⟨u, t, rfl, q, z⟩ := h
    simp [RepKV.length z]
theorem RepKV.isEmpty {κ : Type} {K : PySem.W.Frag} {H : Hp} {kvs : List (κ × D)} {us : List (κ × V)} (h : RepKV K H kvs us) : us.isEmpty = kvs.isEmpty := by
  have := h.length
  cases kvs <;> cases us <;> simp_all
theorem truth_v {K : PySem.W.Frag} {H : Hp} {M : Mem} (s : Sim K H M) {d : D} {u : V} {b : Bool} (r : RepD K H d u) (h : truth M d = some b) : TruV K u H b := by
  unfold truth at h
  split at h
  · cases h; rw [rep_v r]; rfl
  · cases h; rw [rep_v r]; rfl
  · cases h; rw [rep_v r]; rfl
  · split at h <;> cases h
    rw [rep_v r]
    exact ⟨by assumption, rfl⟩
  · cases h
    obtain ⟨a, us, rfl, q, l⟩ := rep_tup r
    exact .inr (.inl ⟨us, q, by rw [l.isEmpty]⟩)
  · rw [rep_v r]
    split at h
    · cases h
      rename_i hm
      obtain ⟨us, e, l⟩ := s _ _ hm
      exact .inl ⟨us, SqL.of e, by rw [l.isEmpty]⟩
    · cases h
      rename_i hm
      obtain ⟨o, us, e, l⟩ := s _ _ hm
      exact .inl ⟨us, .inl (.inr ⟨o, e⟩), by rw [l.isEmpty]⟩
    · cases h
      rename_i hm
      obtain ⟨us, e, l⟩ := s _ _ hm
      exact .inr (.inr ⟨us, e, by rw [l.isEmpty]⟩)
    · cases h
  · cases h

def dTruth (t : DE) : DT := fun env M Q E => t env M (fun d M1 => match truth M1 d with
  | some b => Q b M1
  | none => False) E
theorem dTruth_mono {t : DE} (h : MonoE t) : MonoT (dTruth t) := fun env M Q Q' E E' hQ hE => h env M _ _ _ _ (fun d M1 => by
  show (match truth M1 d with | some b => Q b M1 | none => False) → (match truth M1 d with | some b => Q' b M1 | none => False)
  cases truth M1 d with
  | none => exact id
  | some b => exact hQ b M1) hE
def dAnd (t u : DT) : DT := fun env M Q E => t env M (fun b M1 => if b = true then u env M1 Q E else Q false M1) E
def dOr (t u : DT) : DT := fun env M Q E => t env M (fun b M1 => if b = true then Q true M1 else u env M1 Q E) E
def dNot (t : DT) : DT := fun env M Q E => t env M (fun b M1 => Q (!b) M1) E
def dIf (t : DT) (ta tb : DE) : DE := fun env M Q E => t env M (fun b M1 => if b = true then ta env M1 Q E else tb env M1 Q E) E
def dAndV (ta tb : DE) : DE := fun env M Q E => ta env M (fun d M1 => match truth M1 d with
  | some true => tb env M1 Q E
  | some false => Q d M1
  | none => False) E
def dOrV (ta tb : DE) : DE := fun env M Q E => ta env M (fun d M1 => match truth M1 d with
  | some true => Q d M1
  | some false => tb env M1 Q E
  | none => False) E
def dNotV (ta : DE) : DE := fun env M Q E => ta env M (fun d M1 => match truth M1 d with
  | some b => Q (.bl (!b)) M1
  | none => False) E
theorem dAnd_mono {t u : DT} (h : MonoT t) (g : MonoT u) : MonoT (dAnd t u) := fun env M Q Q' E E' hQ hE => h env M _ _ _ _ (fun b M1 => by
  cases b with
  | true => rw [if_pos rfl, if_pos rfl]; exact g env M1 _ _ _ _ hQ hE
  | false => rw [if_neg Bool.false_ne_true, if_neg Bool.false_ne_true]; exact hQ false M1) hE
theorem dOr_mono {t u : DT} (h : MonoT t) (g : MonoT u) : MonoT (dOr t u) := fun env M Q Q' E E' hQ hE => h env M _ _ _ _ (fun b M1 => by
  cases b with
  | true => rw [if_pos rfl, if_pos rfl]; exact hQ true M1
  | false => rw [if_neg Bool.false_ne_true, if_neg Bool.false_ne_true]; exact g env M1 _ _ _ _ hQ hE) hE
theorem dNot_mono {t : DT} (h : MonoT t) : MonoT (dNot t) := fun env M Q Q' E E' hQ hE => h env M _ _ _ _ (fun b M1 => hQ (!b) M1) hE
theorem dIf_mono {t : DT} {ta tb : DE} (h : MonoT t) (ha : MonoE ta) (hb : MonoE tb) : MonoE (dIf t ta tb) := fun env M Q Q' E E' hQ hE => h env M _ _ _ _ (fun b M1 => by
  cases b with
  | true => rw [if_pos rfl, if_pos rfl]; exact ha env M1 _ _ _ _ hQ hE
  | false => rw [if_neg Bool.false_ne_true, if_neg Bool.false_ne_true]; exact hb env M1 _ _ _ _ hQ hE) hE
theorem dAndV_mono {ta tb : DE} (ha : MonoE ta) (hb : MonoE tb) : MonoE (dAndV ta tb) := fun env M Q Q' E E' hQ hE => ha env M _ _ _ _ (fun d M1 => by
  show (match truth M1 d with | some true => tb env M1 Q E | some false => Q d M1 | none => False) → (match truth M1 d with | some true => tb env M1 Q' E' | some false => Q' d M1 | none => False)
  cases truth M1 d with
  | none => exact id
  | some b => cases b with
    | true => exact hb env M1 _ _ _ _ hQ hE
    | false => exact hQ d M1) hE
theorem dOrV_mono {ta tb : DE} (ha : MonoE ta) (hb : MonoE tb) : MonoE (dOrV ta tb) := fun env M Q Q' E E' hQ hE => ha env M _ _ _ _ (fun d M1 => by
  show (match truth M1 d with | some true => Q d M1 | some false => tb env M1 Q E | none => False) → (match truth M1 d with | some true => Q' d M1 | some false => tb env M1 Q' E' | none => False)
  cases truth M1 d with
  | none => exact id
  | some b => cases b with
    | true => exact hQ d M1
    | false => exact hb env M1 _ _ _ _ hQ hE) hE
theorem dNotV_mono {ta : DE} (ha : MonoE ta) : MonoE (dNotV ta) := fun env M Q Q' E E' hQ hE => ha env M _ _ _ _ (fun d M1 => by
  show (match truth M1 d with | some b => Q (.bl (!b)) M1 | none => False) → (match truth M1 d with | some b => Q' (.bl (!b)) M1 | none => False)
  cases truth M1 d with
  | none => exact id
  | some b => exact hQ _ M1) hE

section
variable {X : Cx} {W : WX} {a b c : Expr} {rest : List Expr} {ta tb : DE} {t u : DT} {pos : Pos}
/-- a test by its value's truth -/
theorem xt_val (h : XE X W a ta) (he : ∀ whole, isTrue a X.env whole = (do let v ← whole; standAt a.pos; holding [v] (truthy v)) := by intro _; rfl) : XT X W a (dTruth ta) := by
  refine ⟨dTruth_mono h.mono, PTw (pt_truth h.pe he) ?_⟩
  rintro σ H Q ⟨env, M, re, s, q⟩
  refine stepE h.mono re s q (fun d M1 u H1 e1 s1 re1 r1 h1 => ?_) fun _ _ _ z => z
  show ∃ k, _
  split at h1
  · rename_i b hb
    exact ⟨b, truth_v s1 r1 hb, h1 H1 e1 s1⟩
  · exact h1.elim
theorem xt_cmp {op : CmpOp} {r : DOp2} (ho : XOp X (compareOp op) r) (ha : XE X W a ta) (hb : XE X W b tb) (hm : behindInMarks op b = false)
    (hB : ∀ x y M Q, (r x y M).run M Q → (r x y M).run M fun d M' => (∃ k, d = .bl k) ∧ Q d M') : XT X W (.Compare a [op] [b] pos) (dTruth (dBin r ta tb)) := by
  refine ⟨dTruth_mono (dBin_mono ha.mono hb.mono), PTw (pt_cmpR ho ha.pe hb.pe hm) ?_⟩
  rintro σ H Q ⟨env, M, re, s, q⟩
  have q' : dBin r ta tb env M (fun d M1 => (∃ k, d = D.bl k) ∧ match truth M1 d with
      | some b => ∀ H', Ext X.K H H' → Sim X.K H' M1 → Q b H'
      | none => False) (upX X.K W H σ) := ha.mono env M _ _ _ _ (fun x M1 h1 => hb.mono env M1 _ _ _ _ (fun y M2 h2 => hB _ _ _ _ h2) (fun _ _ _ z => z) h1) (fun _ _ _ z => z) q
  show tOp _ _ _ _ _ _
  refine bin_up ha hb (fun _ _ _ _ h => h) σ H _ ⟨env, M, re, s, dBin_mono ha.mono hb.mono env M _ _ _ _ (fun d M1 h1 u H1 e1 s1 r1 => ?_) (fun _ _ _ z => z) q'⟩
  obtain ⟨⟨k, rfl⟩, h1⟩ := h1
  rw [rep_v r1]
  exact ⟨k, rfl, h1 H1 e1 s1⟩
theorem bl_eq : ∀ x y M Q, (opEq x y M).run M Q → (opEq x y M).run M fun d M' => (∃ k, d = .bl k) ∧ Q d M' := fun x y M Q h => by
  unfold opEq at h ⊢
  split at h
  · exact ⟨h.1, ⟨_, rfl⟩, h.2⟩
  · exact h.elim
theorem bl_ne : ∀ x y M Q, (opNe x y M).run M Q → (opNe x y M).run M fun d M' => (∃ k, d = .bl k) ∧ Q d M' := fun x y M Q h => by
  unfold opNe at h ⊢
  split at h
  · exact ⟨h.1, ⟨_, rfl⟩, h.2⟩
  · exact h.elim
theorem bl_lt : ∀ x y M Q, (opLt x y M).run M Q → (opLt x y M).run M fun d M' => (∃ k, d = .bl k) ∧ Q d M' := fun x y M Q h => by
  unfold opLt at h ⊢
  split at h <;> first | exact h.elim | exact ⟨h.1, ⟨_, rfl⟩, h.2⟩
theorem bl_le : ∀ x y M Q, (opLe x y M).run M Q → (opLe x y M).run M fun d M' => (∃ k, d = .bl k) ∧ Q d M' := fun x y M Q h => by
  unfold opLe at h ⊢
  split at h <;> first | exact h.elim | exact ⟨h.1, ⟨_, rfl⟩, h.2⟩
theorem bl_gt : ∀ x y M Q, (opGt x y M).run M Q → (opGt x y M).run M fun d M' => (∃ k, d = .bl k) ∧ Q d M' := fun x y M Q h => by
  unfold opGt at h ⊢
  split at h <;> first | exact h.elim | exact ⟨h.1, ⟨_, rfl⟩, h.2⟩
theorem bl_ge : ∀ x y M Q, (opGe x y M).run M Q → (opGe x y M).run M fun d M' => (∃ k, d = .bl k) ∧ Q d M' := fun x y M Q h => by
  unfold opGe at h ⊢
  split at h <;> first | exact h.elim | exact ⟨h.1, ⟨_, rfl⟩, h.2⟩
theorem bl_is : ∀ x y M Q, (opIs x y M).run M Q → (opIs x y M).run M fun d M' => (∃ k, d = .bl k) ∧ Q d M' := fun x y M Q h => by
  unfold opIs at h ⊢
  split at h <;> first | exact h.elim | exact ⟨h.1, ⟨_, rfl⟩, h.2⟩
theorem bl_isnot : ∀ x y M Q, (opIsNot x y M).run M Q → (opIsNot x y M).run M fun d M' => (∃ k, d = .bl k) ∧ Q d M' := fun x y M Q h => by
  unfold opIsNot at h ⊢
  split at h <;> first | exact h.elim | exact ⟨h.1, ⟨_, rfl⟩, h.2⟩
theorem bl_in : ∀ x y M Q, (opIn x y M).run M Q → (opIn x y M).run M fun d M' => (∃ k, d = .bl k) ∧ Q d M' := fun x y M Q h => by
  unfold opIn at h ⊢
  split at h
  · exact ⟨h.1, ⟨_, rfl⟩, h.2⟩
  · exact h.elim
theorem bl_notin : ∀ x y M Q, (opNotIn x y M).run M Q → (opNotIn x y M).run M fun d M' => (∃ k, d = .bl k) ∧ Q d M' := fun x y M Q h => by
  unfold opNotIn at h ⊢
  split at h
  · exact ⟨h.1, ⟨_, rfl⟩, h.2⟩
  · exact h.elim
theorem stepB {K : PySem.W.Frag} {t : DT} {σ : L2.St} {H : Hp} {env : DEnv} {M : Mem} {Q : Bool → Hp → Prop} (re : RepE K H env σ) (s : Sim K H M) (h : t env M (fun b M' => ∀ H', Ext K H H' → Sim K H' M' → Q b H') (upX K W H σ)) : liftT K W t σ H Q := ⟨env, M, re, s, h⟩
theorem xt_wh (h : XW X W a t) : XT X W a t := ⟨h.mono, h.pw.pt⟩
theorem xw_and1 (h : XT X W a t) : XW X W (.BoolOp .And [a] pos) t := ⟨h.mono, pw_and1 h.pt⟩
theorem xw_or1 (h : XT X W a t) : XW X W (.BoolOp .Or [a] pos) t := ⟨h.mono, pw_or1 h.pt⟩
theorem upT_mono {K : PySem.W.Frag} {H H1 : Hp} {Q : Bool → Hp → Prop} (e : Ext K H H1) : ∀ b M1, (∀ H', Ext K H H' → Sim K H' M1 → Q b H') → ∀ H', Ext K H1 H' → Sim K H' M1 → Q b H' := fun b M1 q H' e' s => q H' (e.trans e') s
theorem xw_and (ha : XT X W a t) (hb : XW X W (.BoolOp .And (b :: rest) pos) u) : XW X W (.BoolOp .And (a :: b :: rest) pos) (dAnd t u) := by
  refine ⟨dAnd_mono ha.mono hb.mono, PWw (pw_and ha.pt hb.pw) ?_⟩
  rintro σ H Q ⟨env, M, re, s, h⟩
  refine stepT ha.mono re s h (fun c M1 H1 e1 s1 re1 h1 => ?_) fun _ _ _ z => z
  cases c with
  | true =>
    rw [if_pos rfl] at h1 ⊢
    exact stepB re1 s1 (hb.mono _ _ _ _ _ _ (upT_mono e1) (upX_mono e1) h1)
  | false =>
    rw [if_neg Bool.false_ne_true] at h1 ⊢
    exact h1 H1 e1 s1
theorem xw_or (ha : XT X W a t) (hb : XW X W (.BoolOp .Or (b :: rest) pos) u) : XW X W (.BoolOp .Or (a :: b :: rest) pos) (dOr t u) := by
  refine ⟨dOr_mono ha.mono hb.mono, PWw (pw_or ha.pt hb.pw) ?_⟩
  rintro σ H Q ⟨env, M, re, s, h⟩
  refine stepT ha.mono re s h (fun c M1 H1 e1 s1 re1 h1 => ?_) fun _ _ _ z => z
  cases c with
  | true =>
    rw [if_pos rfl] at h1 ⊢
    exact h1 H1 e1 s1
  | false =>
    rw [if_neg Bool.false_ne_true] at h1 ⊢
    exact stepB re1 s1 (hb.mono _ _ _ _ _ _ (upT_mono e1) (upX_mono e1) h1)
theorem xt_not (ha : XT X W a t) : XT X W (.UnaryOp .Not a pos) (dNot t) := by
  refine ⟨dNot_mono ha.mono, PTw (pt_not ha.pt) ?_⟩
  rintro σ H Q ⟨env, M, re, s, h⟩
  exact stepT ha.mono re s h (fun c M1 H1 e1 s1 re1 h1 => h1 H1 e1 s1) fun _ _ _ z => z
theorem xe_if (hc : XT X W c t) (ha : XE X W a ta) (hb : XE X W b tb) : XE X W (.IfExp c a b pos) (dIf t ta tb) := by
  refine ⟨dIf_mono hc.mono ha.mono hb.mono, PEw (pe_ifExp hc.pt ha.pe hb.pe) ?_⟩
  rintro σ H Q ⟨env, M, re, s, h⟩
  refine stepT hc.mono re s h (fun c M1 H1 e1 s1 re1 h1 => ?_) fun _ _ _ z => z
  cases c with
  | true =>
    rw [if_pos rfl] at h1 ⊢
    exact ⟨env, M1, re1, s1, ha.mono _ _ _ _ _ _ (upK_mono e1) (upX_mono e1) h1⟩
  | false =>
    rw [if_neg Bool.false_ne_true] at h1 ⊢
    exact ⟨env, M1, re1, s1, hb.mono _ _ _ _ _ _ (upK_mono e1) (upX_mono e1) h1⟩
theorem xe_one {op} (h : XE X W a ta) : XE X W (.BoolOp op [a] pos) ta := ⟨h.mono, pe_one h.pe⟩
theorem xe_and (ha : XE X W a ta) (hb : XE X W (.BoolOp .And (b :: rest) pos) tb) : XE X W (.BoolOp .And (a :: b :: rest) pos) (dAndV ta tb) := by
  refine ⟨dAndV_mono ha.mono hb.mono, PEw (pe_andT ha.pe hb.pe) ?_⟩
  rintro σ H Q ⟨env, M, re, s, h⟩
  refine stepE ha.mono re s h (fun d M1 u H1 e1 s1 re1 r1 h1 => ?_) fun _ _ _ z => z
  split at h1
  · rename_i hb'
    refine ⟨true, truth_v s1 r1 hb', ?_⟩
    rw [if_pos rfl]
    exact ⟨env, M1, re1, s1, hb.mono _ _ _ _ _ _ (upK_mono e1) (upX_mono e1) h1⟩
  · rename_i hb'
    refine ⟨false, truth_v s1 r1 hb', ?_⟩
    rw [if_neg Bool.false_ne_true]
    exact h1 u H1 e1 s1 r1
  · exact h1.elim
theorem xe_or (ha : XE X W a ta) (hb : XE X W (.BoolOp .Or (b :: rest) pos) tb) : XE X W (.BoolOp .Or (a :: b :: rest) pos) (dOrV ta tb) := by
  refine ⟨dOrV_mono ha.mono hb.mono, PEw (pe_orT ha.pe hb.pe) ?_⟩
  rintro σ H Q ⟨env, M, re, s, h⟩
  refine stepE ha.mono re s h (fun d M1 u H1 e1 s1 re1 r1 h1 => ?_) fun _ _ _ z => z
  split at h1
  · rename_i hb'
    refine ⟨true, truth_v s1 r1 hb', ?_⟩
    rw [if_pos rfl]
    exact h1 u H1 e1 s1 r1
  · rename_i hb'
    refine ⟨false, truth_v s1 r1 hb', ?_⟩
    rw [if_neg Bool.false_ne_true]
    exact ⟨env, M1, re1, s1, hb.mono _ _ _ _ _ _ (upK_mono e1) (upX_mono e1) h1⟩
  · exact h1.elim
theorem xe_not (ha : XE X W a ta) : XE X W (.UnaryOp .Not a pos) (dNotV ta) := by
  refine ⟨dNotV_mono ha.mono, PEw (pe_notT ha.pe) ?_⟩
  rintro σ H Q ⟨env, M, re, s, h⟩
  refine stepE ha.mono re s h (fun d M1 u H1 e1 s1 re1 r1 h1 => ?_) fun _ _ _ z => z
  split at h1
  · rename_i b hb'
    exact ⟨b, truth_v s1 r1 hb', fin_val (fun u H' e s' r => h1 u H' (e1.trans e) s' r) s1⟩
  · exact h1.elim
end

/-! -x -/
def dNeg (ta : DE) : DE := fun env M Q E => ta env M (fun d M1 => match d with
  | .v (.int i) => Q (.int (-i)) M1
  | _ => False) E
theorem xe_neg {X : Cx} {W : WX} {a : Expr} {ta : DE} {pos : Pos} (ha : XE X W a ta) : XE X W (.UnaryOp .USub a pos) (dNeg ta) := by
  refine ⟨fun env M Q Q' E E' hQ hE => ha.mono env M _ _ _ _ (fun d M1 => ?_) hE, PEw (pe_un un_neg ha.pe) ?_⟩
  · cases d with
    | tup _ => exact id
    | v x => cases x <;> first | exact id | exact hQ _ _
  · rintro σ H Q ⟨env, M, re, s, h⟩
    refine stepE ha.mono re s h (fun d M1 u H1 e1 s1 re1 r1 h1 => ?_) fun _ _ _ z => z
    split at h1
    · rw [rep_v r1]
      exact ⟨_, rfl, fin_val (fun u H' e s' r => h1 u H' (e1.trans e) s' r) s1⟩
    · exact h1.elim

/-! argument lists, displays -/
def dNil : DA := fun _ M Q _ => Q [] M
def dCons (ta : DE) (tr : DA) : DA := fun env M Q E => ta env M (fun d M1 => tr env M1 (fun ds M2 => Q (d :: ds) M2) E) E
theorem dCons_mono {ta : DE} {tr : DA} (h : MonoE ta) (g : MonoA tr) : MonoA (dCons ta tr) := fun env M Q Q' E E' hQ hE =>
  h env M _ _ _ _ (fun d M1 => g env M1 _ _ _ _ (fun ds M2 => hQ (d :: ds) M2) hE) hE
theorem upA_mono {K : PySem.W.Frag} {H H1 : Hp} {Q : List V → Hp → Prop} (e : Ext K H H1) : ∀ ds M1, (∀ us H', Ext K H H' → Sim K H' M1 → RepL K H' ds us → Q us H') → ∀ us H', Ext K H1 H' → Sim K H' M1 → RepL K H' ds us → Q us H' :=
  fun ds M1 q us H' e' s r => q us H' (e.trans e') s r
section
variable {X : Cx} {W : WX} {e : Expr} {es : List Expr} {te : DE} {t : DA} {pos : Pos}
theorem xa_nil : XA X W [] dNil := by
  refine ⟨fun _ _ _ _ _ _ hQ _ h => hQ _ _ h, PAw pa_nil ?_⟩
  rintro σ H Q ⟨env, M, re, s, h⟩
  exact h [] H Ext.refl s .nil
theorem xa_cons (ha : XE X W e te) (hr : XA X W es t) (hs : starEach (e :: es) X.env = (false, eval e X.env) :: starEach es X.env := by rfl) : XA X W (e :: es) (dCons te t) := by
  refine ⟨dCons_mono ha.mono hr.mono, PAw (pa_cons ha.pe hr.pa hs) ?_⟩
  rintro σ H Q ⟨env, M, re, s, h⟩
  refine stepE ha.mono re s h (fun d M1 u H1 e1 s1 re1 r1 h1 => ?_) fun _ _ _ z => z
  refine stepA hr.mono re1 s1 h1 (fun ds M2 us H2 e2 s2 re2 r2 h2 => ?_) (upX_mono e1)
  exact h2 (u :: us) H2 (e1.trans e2) s2 (.cons (RepD.mono e2 _ r1) r2)
def dTup (n : Nat) (t : DA) : DE := fun env M Q E => t env M (fun ds M1 => ds.length = n ∧ Q (.tup ds) M1) E
def dLst (n : Nat) (t : DA) : DE := fun env M Q E => t env M (fun ds M1 => ds.length = n ∧ ∀ p, M1 p = none → Q (.ob p) (mupd M1 p (.lst ds))) E
theorem xe_tup {x1} {n : Nat} (h : XA X W es t) (hn : n ≤ sizeLine := by decide) : XE X W (.Tuple es x1 pos) (dTup n t) := by
  refine ⟨fun env M Q Q' E E' hQ hE => h.mono env M _ _ _ _ (fun ds M1 q => ⟨q.1, hQ _ _ q.2⟩) hE, PEw (pe_tup h.pa) ?_⟩
  rintro σ H Q ⟨env, M, re, s, q⟩
  refine stepA h.mono re s q (fun ds M1 us H1 e1 s1 re1 r1 h1 => ?_) fun _ _ _ z => z
  exact ⟨by rw [r1.length, h1.1]; exact hn, fun p hp => fin_tup (upK_mono e1 _ _ h1.2) s1 hp r1⟩
theorem xe_lst {n : Nat} (h : XA X W es t) (hn : n ≤ sizeLine := by decide) : XE X W (.List es pos) (dLst n t) := by
  refine ⟨fun env M Q Q' E E' hQ hE => h.mono env M _ _ _ _ (fun ds M1 q => ⟨q.1, fun p hp => hQ _ _ (q.2 p hp)⟩) hE, PEw (pe_lst h.pa) ?_⟩
  rintro σ H Q ⟨env, M, re, s, q⟩
  refine stepA h.mono re s q (fun ds M1 us H1 e1 s1 re1 r1 h1 => ?_) fun _ _ _ z => z
  exact ⟨by rw [r1.length, h1.1]; exact hn, fun p hp => fin_lst (fun p hp => upK_mono e1 _ _ (h1.2 p hp)) s1 hp r1⟩
end

/-! subscripts -/
def opIx : DOp2
  | .tup ds, .v (.int i), _ => match atI ds i with
    | some d => .val True d
    | none => .bad
  | .v (.str z), .v (.int i), _ => match atI z.cps.toList i with
    | some c => .val (z.length ≤ sizeLine) (.str ⟨#[c]⟩)
    | none => .bad
  | .v (.ref a), y, M => match M a with
    | some (.lst ds) => match y with
      | .v (.int i) => match atI ds i with
        | some d => .val True d
        | none => .bad
      | _ => .bad
    | some (.rol ds) => match y with
      | .v (.int i) => match atI ds i with
        | some d => .val True d
        | none => .bad
      | _ => .bad
    | some (.dk kvs) => match y.key with
      | some k => match look kvs k with
        | some d => .val True d
        | none => .bad
      | none => .bad
    | some (.rdk kvs) => match y.key with
      | some k => match look kvs k with
        | some d => .val True d
        | none => .bad
      | none => .bad
    | _ => .bad
  | _, _, _ => .bad
theorem RepL.atI {K : PySem.W.Frag} {H : Hp} {ds : List D} {us : List V} {i : Int} {d : D} (r : RepL K H ds us) (h : L2.atI ds i = some d) : ∃ u, L2.atI us i = some u ∧ RepD K H d u := by
  unfold L2.atI at h ⊢
  rw [r.length]
  cases q : ixN ds.length i with
  | none => rw [q] at h; cases h
  | some j =>
    rw [q] at h
    exact r.get h
section
variable {X : Cx}
theorem ix_dict (hu : X.A.units + 200 < cLine) : IxR X (fun x y H Q => ∃ a kvs k v, x = .ref a ∧ Rd H a (.dK kvs) ∧ y = kV k ∧ valV kvs k = some v ∧ Q v H) := by
  intro value slice pins s σ H x y v u Q I rx ry h hs
  obtain ⟨a, kvs, k, w', rfl, e, rfl, ev, q⟩ := h
  obtain rfl : v = Value.ref a := rx
  have g : DGet H a (kV k) (some w') := .inl ⟨kvs, k, e, rfl, ev.symm⟩
  exact tail_any (dict_typeIs I g) PySem.F.slot_dict_getitem.lookup (d_getItem (by omega) I g ry fun w2 s3 I3 rw' => ⟨w', H, I3, rw', q⟩) hs
theorem x_ix (hu : X.A.units + 200 < cLine) : IxR X (upR2 X.K opIx) := by
  rintro value slice pins s σ H x y v u Q I rx ry ⟨dx, dy, M, r1, r2, sm, h⟩ hs
  unfold opIx at h
  split at h <;> first | exact h.elim | skip
  · split at h <;> first | exact h.elim | skip
    rename_i d hd
    obtain ⟨a, us, rfl, q1, l1⟩ := rep_tup r1
    obtain ⟨w', e1, e2⟩ := l1.atI hd
    rw [rep_v r2] at ry
    exact ix_tup value slice pins s σ H _ _ v u Q I rx ry ⟨_, _, _, _, rfl, rfl, q1, e1, fin_rep h.2 sm e2⟩ hs
  · split at h <;> first | exact h.elim | skip
    rename_i c hc
    rw [rep_v r1] at rx; rw [rep_v r2] at ry
    exact ix_str value slice pins s σ H _ _ v u Q I rx ry ⟨_, _, _, rfl, rfl, h.1, hc, fin_val h.2 sm⟩ hs
  · rw [rep_v r1] at rx
    split at h <;> first | exact h.elim | skip
    · rename_i ds hm
      split at h <;> first | exact h.elim | skip
      split at h <;> first | exact h.elim | skip
      rename_i d hd
      obtain ⟨us, q1, l1⟩ := sm.seq (.inl hm)
      obtain ⟨w', e1, e2⟩ := l1.atI hd
      rw [rep_v r2] at ry
      exact ix_list value slice pins s σ H _ _ v u Q I rx ry ⟨_, _, _, _, rfl, rfl, q1, e1, fin_rep h.2 sm e2⟩ hs
    · rename_i ds hm
      split at h <;> first | exact h.elim | skip
      split at h <;> first | exact h.elim | skip
      rename_i d hd
      obtain ⟨us, q1, l1⟩ := sm.seq (.inr hm)
      obtain ⟨w', e1, e2⟩ := l1.atI hd
      rw [rep_v r2] at ry
      exact ix_list value slice pins s σ H _ _ v u Q I rx ry ⟨_, _, _, _, rfl, rfl, q1, e1, fin_rep h.2 sm e2⟩ hs
    · rename_i kvs hm
      split at h <;> first | exact h.elim | skip
      rename_i k hk
      split at h <;> first | exact h.elim | skip
      rename_i d hd
      obtain ⟨us, q1, l1⟩ := sm _ _ hm
      have hl := l1.look k
      rw [hd] at hl
      have ey := key_rep hk r2
      subst ey
      cases hv : valV us k with
      | none => rw [hv] at hl; exact hl.elim
      | some w' =>
        rw [hv] at hl
        exact ix_dict hu value slice pins s σ H _ _ v u Q I rx ry ⟨_, _, _, _, rfl, .inl q1, rfl, hv, fin_rep h.2 sm hl⟩ hs
    · rename_i kvs hm
      split at h <;> first | exact h.elim | skip
      rename_i k hk
      split at h <;> first | exact h.elim | skip
      rename_i d hd
      obtain ⟨ob, us, q1, l1⟩ := sm _ _ hm
      have hl := l1.look k
      rw [hd] at hl
      have ey := key_rep hk r2
      subst ey
      cases hv : valV us k with
      | none => rw [hv] at hl; exact hl.elim
      | some w' =>
        rw [hv] at hl
        exact ix_dict hu value slice pins s σ H _ _ v u Q I rx ry ⟨_, _, _, _, rfl, .inr ⟨ob, q1⟩, rfl, hv, fin_rep h.2 sm hl⟩ hs
theorem xe_ix {W : WX} {a b : Expr} {ta tb : DE} {pos : Pos} (hu : X.A.units + 200 < cLine) (ha : XE X W a ta) (hb : XE X W b tb) (hs : PlainIx b := by intro _ _; rfl) : XE X W (.Subscript a b pos) (dBin opIx ta tb) :=
  ⟨dBin_mono ha.mono hb.mono, PEw (pe_ix (x_ix hu) ha.pe hb.pe hs) (bin_up ha hb fun _ _ _ _ h => h)⟩
end

/-! slices -/
abbrev DO := DEnv → Mem → (Option Int → Mem → Prop) → DX → Prop
def dNoPart : DO := fun _ M Q _ => Q none M
def dPart (t : DE) : DO := fun env M Q E => t env M (fun d M1 => match d with
  | .v (.int i) => Q (some i) M1
  | _ => False) E
def MonoO (t : DO) : Prop := ∀ env M (Q Q' : Option Int → Mem → Prop) (E E' : DX), (∀ d M, Q d M → Q' d M) → (∀ c f M, E c f M → E' c f M) → t env M Q E → t env M Q' E'
def liftO (K : PySem.W.Frag) (W : WX) (t : DO) : TO := fun σ H Q => ∃ env M, RepE K H env σ ∧ Sim K H M ∧ t env M (fun b M' => ∀ H', Ext K H H' → Sim K H' M' → Q b H') (upX K W H σ)
structure XO (X : Cx) (W : WX) (e : Option Expr) (t : DO) : Prop where
  mono : MonoO t
  po : PO X e (liftO X.K W t)
theorem POw {X : Cx} {e : Option Expr} {t t' : TO} (h : PO X e t) (w : ∀ σ H Q, t' σ H Q → t σ H Q) : PO X e t' := ⟨fun pins s σ H Q I q => h.run pins s σ H Q I (w σ H Q q)⟩
def cutD {α : Type} (xs : List α) (lo hi : Option Int) : List α := (xs.drop (HT.sIx xs.length 0 lo)).take (HT.sIx xs.length xs.length hi - HT.sIx xs.length 0 lo)
theorem RepL.cut {K : PySem.W.Frag} {H : Hp} {ds : List D} {us : List V} (r : RepL K H ds us) (lo hi : Option Int) : RepL K H (cutD ds lo hi) (cutV us lo hi) := by
  unfold cutD cutV
  rw [r.length]
  exact (r.drop _).take _
def opSl : D → Option Int → Option Int → Mem → Res
  | .tup ds, lo, hi, _ => .val True (.tup (cutD ds lo hi))
  | .v (.str z), lo, hi, _ => .val (z.length ≤ sizeLine) (.str (cutS z lo hi))
  | .v (.ref a), lo, hi, M => match M a with
    | some (.lst ds) => .new True (.lst (cutD ds lo hi))
    | some (.rol ds) => .new True (.lst (cutD ds lo hi))
    | _ => .bad
  | _, _, _, _ => .bad
def dSl (ta : DE) (tl th : DO) : DE := fun env M Q E => ta env M (fun x M1 => tl env M1 (fun l M2 => th env M2 (fun u M3 => (opSl x l u M3).run M3 Q) E) E) E
section
variable {X : Cx} {W : WX} {e : Expr} {lo hi : Option Expr} {te : DE} {tl th : DO} {pos p2 : Pos}
theorem xo_none : XO X W none dNoPart := by
  refine ⟨fun _ _ _ _ _ _ hQ _ h => hQ _ _ h, POw po_none ?_⟩
  rintro σ H Q ⟨env, M, re, s, h⟩
  exact h H Ext.refl s
theorem xo_some (h : XE X W e te) : XO X W (some e) (dPart te) := by
  refine ⟨fun env M Q Q' E E' hQ hE => h.mono env M _ _ _ _ (fun d M1 => ?_) hE, POw (po_some h.pe) ?_⟩
  · cases d with
    | tup _ => exact id
    | v x => cases x <;> first | exact id | exact hQ _ _
  · rintro σ H Q ⟨env, M, re, s, q⟩
    refine stepE h.mono re s q (fun d M1 u H1 e1 s1 re1 r1 h1 => ?_) fun _ _ _ z => z
    split at h1
    · rw [rep_v r1]
      exact ⟨_, rfl, h1 H1 e1 s1⟩
    · exact h1.elim
theorem stepO {K : PySem.W.Frag} {t : DO} (m : MonoO t) {σ : L2.St} {H : Hp} {env : DEnv} {M : Mem} {P : Option Int → Hp → Prop} {Q : Option Int → Mem → Prop} {E : DX} (re : RepE K H env σ) (s : Sim K H M) (h : t env M Q E)
    (hq : ∀ d M1 H1, Ext K H H1 → Sim K H1 M1 → RepE K H1 env σ → Q d M1 → P d H1) (he : ∀ c f M1, E c f M1 → upX K W H σ c f M1) : liftO K W t σ H P :=
  ⟨env, M, re, s, m env M _ _ _ _ (fun d M1 q H1 e1 s1 => hq d M1 H1 e1 s1 (re.mono e1) q) he h⟩
theorem x_sl : SlR X (fun x lo hi H Q => ∃ dx M, RepD X.K H dx x ∧ Sim X.K H M ∧ (opSl dx lo hi M).run M (upK X.K H Q)) := by
  rintro pins s σ H x v vl vu lo hi sl Q I rx hs pl pu ⟨dx, M, r1, sm, h⟩
  unfold opSl at h
  split at h <;> first | exact h.elim | skip
  · rename_i ds
    obtain ⟨a, us, rfl, q1, l1⟩ := rep_tup r1
    refine sl_tupA pins s σ H _ v vl vu _ _ sl Q I rx hs pl pu ⟨a, us, rfl, q1, fun hw => ?_, fun _ p hp => fin_tup h.2 sm hp (l1.cut _ _)⟩
    refine fin_rep h.2 sm ?_
    have e : cutD ds lo hi = ds := by
      unfold cutD
      rw [← l1.length, hw.1, hw.2, l1.length]
      simp
    rw [e]
    exact r1
  · rw [rep_v r1] at rx
    exact sl_str pins s σ H _ v vl vu _ _ sl Q I rx hs pl pu ⟨_, rfl, h.1, fin_val h.2 sm⟩
  · rw [rep_v r1] at rx
    split at h <;> first | exact h.elim | skip
    · rename_i hm
      obtain ⟨us, q1, l1⟩ := sm.seq (.inl hm)
      exact sl_list pins s σ H _ v vl vu _ _ sl Q I rx hs pl pu ⟨_, us, rfl, q1, fun p hp => fin_lst h.2 sm hp (l1.cut _ _)⟩
    · rename_i hm
      obtain ⟨us, q1, l1⟩ := sm.seq (.inr hm)
      exact sl_list pins s σ H _ v vl vu _ _ sl Q I rx hs pl pu ⟨_, us, rfl, q1, fun p hp => fin_lst h.2 sm hp (l1.cut _ _)⟩
theorem xe_sl (he : XE X W e te) (hl : XO X W lo tl) (hh : XO X W hi th) : XE X W (.Subscript e (.Slice lo hi none p2) pos) (dSl te tl th) := by
  refine ⟨fun env M Q Q' E E' hQ hE => he.mono env M _ _ _ _ (fun d M1 => hl.mono env M1 _ _ _ _ (fun l M2 => hh.mono env M2 _ _ _ _ (fun u M3 => Res.mono hQ) hE) hE) hE, PEw (pe_slice x_sl he.pe hl.po hh.po) ?_⟩
  rintro σ H Q ⟨env, M, re, s, h⟩
  refine stepE he.mono re s h (fun d M1 u H1 e1 s1 re1 r1 h1 => ?_) fun _ _ _ z => z
  refine stepO hl.mono re1 s1 h1 (fun l M2 H2 e2 s2 re2 h2 => ?_) (upX_mono e1)
  refine stepO hh.mono re2 s2 h2 (fun h M3 H3 e3 s3 re3 h3 => ?_) (upX_mono (e1.trans e2))
  exact ⟨d, M3, RepD.mono (e2.trans e3) _ r1, s3, Res.mono (upK_mono ((e1.trans e2).trans e3)) h3⟩
/-- xs[::-1] of a list -/
def dRev (te : DE) : DE := fun env M Q E => te env M (fun d M1 => match d with
  | .v (.ref a) => match M1 a with
    | some (.lst ds) => ∀ p, M1 p = none → Q (.ob p) (mupd M1 p (.lst ds.reverse))
    | _ => False
  | _ => False) E
theorem RepL.reverse {K : PySem.W.Frag} {H : Hp} : ∀ {ds : List D} {us : List V}, RepL K H ds us → RepL K H ds.reverse us.reverse
  | [], _, h => by unfold RepL at h; subst h; exact .nil
  | d :: ds, _, h => by
    unfold RepL at h
    obtain ⟨u, r, rfl, q, t⟩ := h
    rw [List.reverse_cons, List.reverse_cons]
    exact RepL.append (RepL.reverse t) (.cons q .nil)
theorem xe_rev {k : Nat} {p1 p2 p3 : Pos} (he : XE X W e te) : XE X W (.Subscript e (.Slice none none (some (.UnaryOp .USub (.Constant (.int 1) k p1) p2)) p3) pos) (dRev te) := by
  refine ⟨fun env M Q Q' E E' hQ hE => he.mono env M _ _ _ _ (fun d M1 => ?_) hE, PEw (pe_revL he.pe) ?_⟩
  · cases d with
    | tup _ => exact id
    | v x => cases x with
      | ref a =>
        dsimp only
        cases M1 a with
        | none => exact id
        | some o => cases o <;> first | exact id | exact fun h p hp => hQ _ _ (h p hp)
      | _ => exact id
  · rintro σ H Q ⟨env, M, re, s, h⟩
    refine stepE he.mono re s h (fun d M1 u H1 e1 s1 re1 r1 h1 => ?_) fun _ _ _ z => z
    split at h1 <;> first | exact h1.elim | skip
    split at h1 <;> first | exact h1.elim | skip
    rename_i ds hm
    obtain ⟨us, q1, l1⟩ := s1.lst hm
    rw [rep_v r1]
    exact ⟨_, us, rfl, SqL.of q1, fun p hp => fin_lst (fun p hp => upK_mono e1 _ _ (h1 p hp)) s1 hp l1.reverse⟩
end
end PL

namespace PL
open PySem PySem.Spec PyProof.Rows L2

/-! built-ins by values -/
abbrev DCall := List D → Mem → Res
def upCall (K : PySem.W.Frag) (r : DCall) : List V → Hp → VK → Prop := fun xs H Q => ∃ ds M, RepL K H ds xs ∧ Sim K H M ∧ (r ds M).run M (upK K H Q)
def dCB (r : DCall) (t : DA) : DE := fun env M Q E => t env M (fun ds M1 => (r ds M1).run M1 Q) E
theorem dCB_mono {r : DCall} {t : DA} (h : MonoA t) : MonoE (dCB r t) := fun env M Q Q' E E' hQ hE => h env M _ _ _ _ (fun ds M1 => Res.mono hQ) hE
section
variable {X : Cx} {W : WX} {x : Str} {p pos : Pos} {e : Expr} {es : List Expr} {t : DA} {id T : String} {r : DCall}
theorem cb_up (ha : XA X W es t) : ∀ σ H Q, liftE X.K W (dCB r t) σ H Q → tCB (upCall X.K r) (liftA X.K W t) σ H Q := by
  rintro σ H Q ⟨env, M, re, s, h⟩
  refine stepA ha.mono re s h (fun ds M1 us H1 e1 s1 re1 r1 h1 => ?_) fun _ _ _ z => z
  exact ⟨ds, M1, r1, s1, Res.mono (upK_mono e1) h1⟩
theorem xe_callB (hc : CallR X (.builtin id) (upCall X.K r)) (hg : Gl X x) (hm : X.mg x = none) (hv : bootBuiltins x = some (.builtin id)) (ha : XA X W (e :: es) t) (hn : x ≠ "__name__" := by decide) (hdb : (x == ("__debug__" : Str)) = false := by decide)
    (he : starEach (e :: es) X.env = (false, eval e X.env) :: starEach es X.env := by rfl) (hpl : (backTo pos (starEach es X.env)).any (·.1) = false := by rfl) : XE X W (.Call (.Name x p) (e :: es) [] pos) (dCB r t) :=
  ⟨dCB_mono ha.mono, PEw (pe_callB hc hg hm hv ha.pa hn hdb he hpl) (cb_up ha)⟩
theorem xe_callTy (hc : CallR X (.type T) (upCall X.K r)) (hg : Gl X x) (hm : X.mg x = none) (hv : bootBuiltins x = some (.type T)) (ha : XA X W (e :: es) t) (hn : x ≠ "__name__" := by decide) (hdb : (x == ("__debug__" : Str)) = false := by decide)
    (he : starEach (e :: es) X.env = (false, eval e X.env) :: starEach es X.env := by rfl) (hpl : (backTo pos (starEach es X.env)).any (·.1) = false := by rfl) : XE X W (.Call (.Name x p) (e :: es) [] pos) (dCB r t) :=
  ⟨dCB_mono ha.mono, PEw (pe_callTy hc hg hm hv ha.pa hn hdb he hpl) (cb_up ha)⟩
end
theorem rl1 {K : PySem.W.Frag} {H : Hp} {d : D} {us : List V} (h : RepL K H [d] us) : ∃ u, us = [u] ∧ RepD K H d u := by
  unfold RepL at h
  obtain ⟨u, r, rfl, q, t⟩ := h
  unfold RepL at t
  exact ⟨u, by rw [t], q⟩
theorem rl2 {K : PySem.W.Frag} {H : Hp} {d e : D} {us : List V} (h : RepL K H [d, e] us) : ∃ u v, us = [u, v] ∧ RepD K H d u ∧ RepD K H e v := by
  unfold RepL at h
  obtain ⟨u, r, rfl, q, t⟩ := h
  obtain ⟨v, rfl, q2⟩ := rl1 t
  exact ⟨u, v, rfl, q, q2⟩
def bLen : DCall
  | [.v (.str z)], _ => .val (z.length ≤ sizeLine) (.int z.length)
  | [.tup ds], _ => .val True (.int ds.length)
  | [.v (.ref a)], M => match M a with
    | some (.lst ds) => .val True (.int ds.length)
    | some (.rol ds) => .val True (.int ds.length)
    | some (.dk kvs) => .val True (.int kvs.length)
    | _ => .bad
  | _, _ => .bad
def bAbs : DCall
  | [.v (.int i)], _ => .val True (.int (if i < 0 then -i else i))
  | _, _ => .bad
def bInt : DCall
  | [.v (.int i)], _ => .val True (.int i)
  | [.v (.bl b)], _ => .val True (.int (if b then 1 else 0))
  | [.v (.str z)], _ => match intText? z with
    | some n => .val (z.length ≤ 640) (.int n)
    | none => .bad
  | _, _ => .bad
def bStr : DCall
  | [.v (.int i)], _ => .val (i.natAbs.log2 < 1920) (.str (Str.ofString (toString i)))
  | _, _ => .bad
def bOrd : DCall
  | [.v (.str z)], _ => .val (z.length = 1) (.int (z.cps.getD 0 0 : Nat))
  | _, _ => .bad
def bTuple : DCall
  | [.tup ds], _ => .val True (.tup ds)
  | [.v (.ref a)], M => match M a with
    | some (.lst ds) => .val True (.tup ds)
    | some (.rol ds) => .val True (.tup ds)
    | _ => .bad
  | _, _ => .bad
def bList : DCall
  | [.tup ds], _ => .new True (.lst ds)
  | [.v (.ref a)], M => match M a with
    | some (.lst ds) => .new True (.lst ds)
    | some (.rol ds) => .new True (.lst ds)
    | _ => .bad
  | _, _ => .bad
def bDivmod : DCall
  | [.v (.int i), .v (.int j)], _ => .val (CDivP i j) (.tup [.int (i / j), .int (i % j)])
  | _, _ => .bad
def bMax2 : DCall
  | [.v (.int i), .v (.int j)], _ => .val True (.int (if j > i then j else i))
  | _, _ => .bad
def bMin2 : DCall
  | [.v (.int i), .v (.int j)], _ => .val True (.int (if j < i then j else i))
  | _, _ => .bad
def bools : List D → Option (List Bool)
  | [] => some []
  | .v (.bl b) :: r => (bools r).map (b :: ·)
  | _ :: _ => none
theorem bools_eq : ∀ {ds : List D} {bs : List Bool}, bools ds = some bs → ds = bs.map D.bl
  | [], bs, h => by simp [bools] at h; subst h; rfl
  | .v (.bl b) :: r, bs, h => by
    simp only [bools, Option.map_eq_some_iff] at h
    obtain ⟨cs, h1, rfl⟩ := h
    rw [bools_eq h1]; rfl
  | .tup _ :: _, _, h => by simp [bools] at h
  | .v .non :: _, _, h => by simp [bools] at h
  | .v (.int _) :: _, _, h => by simp [bools] at h
  | .v (.str _) :: _, _, h => by simp [bools] at h
  | .v (.byt _) :: _, _, h => by simp [bools] at h
  | .v (.flt _) :: _, _, h => by simp [bools] at h
  | .v (.ref _) :: _, _, h => by simp [bools] at h
  | .v (.ty _) :: _, _, h => by simp [bools] at h
theorem bools_map : ∀ bs : List Bool, bools (bs.map D.bl) = some bs
  | [] => rfl
  | b :: bs => by show (bools (bs.map D.bl)).map _ = _; rw [bools_map bs]; rfl
theorem RepL.bls {K : PySem.W.Frag} {H : Hp} : ∀ {bs : List Bool} {us : List V}, RepL K H (bs.map D.bl) us → us = bs.map V.bl
  | [], _, h => by unfold RepL at h; simpa using h
  | n :: ns, _, h => by
    simp only [List.map_cons] at h; unfold RepL at h
    obtain ⟨u, r, rfl, q, t⟩ := h
    rw [RepL.bls t, rep_v q]; rfl
def bAll : DCall
  | [.v (.ref a)], M => match M a with
    | some (.lst ds) => match bools ds with
      | some bs => .val True (.bl (bs.all id))
      | none => .bad
    | _ => .bad
  | _, _ => .bad
def bAny : DCall
  | [.v (.ref a)], M => match M a with
    | some (.lst ds) => match bools ds with
      | some bs => .val True (.bl (bs.any id))
      | none => .bad
    | _ => .bad
  | _, _ => .bad
/-- the type's name of plain data, lists, dicts -/
def tyN (M : Mem) : D → Option String
  | .v .non => some "NoneType"
  | .v (.bl _) => some "bool"
  | .v (.int _) => some "int"
  | .v (.str _) => some "str"
  | .tup _ => some "tuple"
  | .v (.ref a) => match M a with
    | some (.lst _) => some "list"
    | some (.rol _) => some "list"
    | some (.dk _) => some "dict"
    | _ => none
  | _ => none
def isi (a b : String) : Bool := (a == b) || (a == "bool" && b == "int")
def bIsi : DCall
  | [d, .v (.ty n)], M => match tyN M d with
    | some a => .val (n = "tuple" ∨ n = "str" ∨ n = "int" ∨ n = "bool" ∨ n = "list") (.bl (isi a n))
    | none => .bad
  | _, _ => .bad

section
variable {X : Cx}
theorem c_len : CallR X (.builtin "len") (upCall X.K bLen) := by
  rintro pins s σ H xs us Q I r ⟨ds, M, rl, sm, h⟩
  unfold bLen at h
  split at h <;> first | exact h.elim | skip
  · obtain ⟨u, rfl, q⟩ := rl1 rl
    rw [rep_v q] at r
    exact call_len pins s σ H _ us Q I r ⟨_, _, rfl, ⟨h.1, rfl⟩, fin_val h.2 sm⟩
  · obtain ⟨u, rfl, q⟩ := rl1 rl
    obtain ⟨a, ws, rfl, q1, l1⟩ := rep_tup q
    refine call_len_seq pins s σ H _ us Q I r ⟨_, _, rfl, .inr q1, ?_⟩
    rw [l1.length]
    exact fin_val h.2 sm
  · obtain ⟨u, rfl, q⟩ := rl1 rl
    rw [rep_v q] at r
    split at h <;> first | exact h.elim | skip
    · rename_i hm
      obtain ⟨ws, q1, l1⟩ := sm.seq (.inl hm)
      refine call_len_seq pins s σ H _ us Q I r ⟨_, _, rfl, .inl q1, ?_⟩
      rw [l1.length]
      exact fin_val h.2 sm
    · rename_i hm
      obtain ⟨ws, q1, l1⟩ := sm.seq (.inr hm)
      refine call_len_seq pins s σ H _ us Q I r ⟨_, _, rfl, .inl q1, ?_⟩
      rw [l1.length]
      exact fin_val h.2 sm
    · rename_i hm
      obtain ⟨ws, q1, l1⟩ := sm _ _ hm
      obtain ⟨u', rfl, ru⟩ := vals1 r
      obtain rfl : u' = Value.ref _ := ru
      refine d_len I (.inl q1) fun t s' I' => ⟨.int _, H, I', ⟨t, rfl⟩, ?_⟩
      rw [l1.length]
      exact fin_val h.2 sm
theorem c_abs : CallR X (.builtin "abs") (upCall X.K bAbs) := by
  rintro pins s σ H xs us Q I r ⟨ds, M, rl, sm, h⟩
  unfold bAbs at h
  split at h <;> first | exact h.elim | skip
  obtain ⟨u, rfl, q⟩ := rl1 rl
  rw [rep_v q] at r
  exact call_abs pins s σ H _ us Q I r ⟨_, rfl, fin_val h.2 sm⟩
theorem c_int : CallR X (.type "int") (upCall X.K bInt) := by
  rintro pins s σ H xs us Q I r ⟨ds, M, rl, sm, h⟩
  unfold bInt at h
  split at h <;> first | exact h.elim | skip
  · obtain ⟨u, rfl, q⟩ := rl1 rl
    rw [rep_v q] at r
    exact call_int1 pins s σ H _ us Q I r (.inl ⟨_, rfl, fin_val h.2 sm⟩)
  · obtain ⟨u, rfl, q⟩ := rl1 rl
    rw [rep_v q] at r
    exact call_int1 pins s σ H _ us Q I r (.inr ⟨_, rfl, fin_val h.2 sm⟩)
  · obtain ⟨u, rfl, q⟩ := rl1 rl
    rw [rep_v q] at r
    split at h <;> first | exact h.elim | skip
    rename_i hn
    exact call_int_str pins s σ H _ us Q I r ⟨_, _, rfl, hn, h.1, fin_val h.2 sm⟩
theorem c_str : CallR X (.type "str") (upCall X.K bStr) := by
  rintro pins s σ H xs us Q I r ⟨ds, M, rl, sm, h⟩
  unfold bStr at h
  split at h <;> first | exact h.elim | skip
  obtain ⟨u, rfl, q⟩ := rl1 rl
  rw [rep_v q] at r
  exact call_str_int pins s σ H _ us Q I r ⟨_, rfl, h.1, fin_val h.2 sm⟩
theorem c_ord : CallR X (.builtin "ord") (upCall X.K bOrd) := by
  rintro pins s σ H xs us Q I r ⟨ds, M, rl, sm, h⟩
  unfold bOrd at h
  split at h <;> first | exact h.elim | skip
  obtain ⟨u, rfl, q⟩ := rl1 rl
  rw [rep_v q] at r
  exact call_ord pins s σ H _ us Q I r ⟨_, rfl, h.1, fin_val h.2 sm⟩
theorem c_tuple : CallR X (.type "tuple") (upCall X.K bTuple) := by
  rintro pins s σ H xs us Q I r ⟨ds, M, rl, sm, h⟩
  unfold bTuple at h
  split at h <;> first | exact h.elim | skip
  · obtain ⟨u, rfl, q⟩ := rl1 rl
    obtain ⟨a, ws, rfl, q1, l1⟩ := rep_tup q
    exact call_tuple_of pins s σ H _ us Q I r ⟨_, _, rfl, .inr ⟨q1, fin_rep h.2 sm q⟩⟩
  · obtain ⟨u, rfl, q⟩ := rl1 rl
    rw [rep_v q] at r
    split at h <;> first | exact h.elim | skip
    · rename_i hm
      obtain ⟨ws, q1, l1⟩ := sm.seq (.inl hm)
      exact call_tuple_of pins s σ H _ us Q I r ⟨_, _, rfl, .inl ⟨q1, fun l hl => fin_tup h.2 sm hl l1⟩⟩
    · rename_i hm
      obtain ⟨ws, q1, l1⟩ := sm.seq (.inr hm)
      exact call_tuple_of pins s σ H _ us Q I r ⟨_, _, rfl, .inl ⟨q1, fun l hl => fin_tup h.2 sm hl l1⟩⟩
theorem c_list : CallR X (.type "list") (upCall X.K bList) := by
  rintro pins s σ H xs us Q I r ⟨ds, M, rl, sm, h⟩
  unfold bList at h
  split at h <;> first | exact h.elim | skip
  · obtain ⟨u, rfl, q⟩ := rl1 rl
    obtain ⟨a, ws, rfl, q1, l1⟩ := rep_tup q
    exact call_list_of pins s σ H _ us Q I r ⟨_, _, rfl, .inr q1, fun l hl => fin_lst h.2 sm hl l1⟩
  · obtain ⟨u, rfl, q⟩ := rl1 rl
    rw [rep_v q] at r
    split at h <;> first | exact h.elim | skip
    · rename_i hm
      obtain ⟨ws, q1, l1⟩ := sm.seq (.inl hm)
      exact call_list_of pins s σ H _ us Q I r ⟨_, _, rfl, .inl q1, fun l hl => fin_lst h.2 sm hl l1⟩
    · rename_i hm
      obtain ⟨ws, q1, l1⟩ := sm.seq (.inr hm)
      exact call_list_of pins s σ H _ us Q I r ⟨_, _, rfl, .inl q1, fun l hl => fin_lst h.2 sm hl l1⟩
theorem c_divmod : CallR X (.builtin "divmod") (upCall X.K bDivmod) := by
  rintro pins s σ H xs us Q I r ⟨ds, M, rl, sm, h⟩
  unfold bDivmod at h
  split at h <;> first | exact h.elim | skip
  obtain ⟨u, v, rfl, q1, q2⟩ := rl2 rl
  rw [rep_v q1, rep_v q2] at r
  exact call_divmodW pins s σ H _ us Q I r ⟨_, _, rfl, h.1, fun p hp => fin_tup h.2 sm hp (.cons rep_of (.cons rep_of .nil))⟩
theorem c_max2 (hc : X.calm = true) : CallR X (.builtin "max") (upCall X.K bMax2) := by
  rintro pins s σ H xs us Q I r ⟨ds, M, rl, sm, h⟩
  unfold bMax2 at h
  split at h <;> first | exact h.elim | skip
  obtain ⟨u, v, rfl, q1, q2⟩ := rl2 rl
  rw [rep_v q1, rep_v q2] at r
  exact call_max2 hc pins s σ H _ us Q I r ⟨_, _, rfl, fin_val h.2 sm⟩
theorem c_min2 (hc : X.calm = true) : CallR X (.builtin "min") (upCall X.K bMin2) := by
  rintro pins s σ H xs us Q I r ⟨ds, M, rl, sm, h⟩
  unfold bMin2 at h
  split at h <;> first | exact h.elim | skip
  obtain ⟨u, v, rfl, q1, q2⟩ := rl2 rl
  rw [rep_v q1, rep_v q2] at r
  exact call_min2 hc pins s σ H _ us Q I r ⟨_, _, rfl, fin_val h.2 sm⟩
theorem c_all (hc : X.calm = true) : CallR X (.builtin "all") (upCall X.K bAll) := by
  rintro pins s σ H xs us Q I r ⟨ds, M, rl, sm, h⟩
  unfold bAll at h
  split at h <;> first | exact h.elim | skip
  split at h <;> first | exact h.elim | skip
  split at h <;> first | exact h.elim | skip
  rename_i hm _ bs hb
  obtain ⟨u, rfl, q⟩ := rl1 rl
  rw [rep_v q] at r
  obtain ⟨ws, q1, l1⟩ := sm.seq (.inl hm)
  rw [bools_eq hb] at l1
  rw [l1.bls] at q1
  exact cr_all hc pins s σ H _ us Q I r ⟨_, _, rfl, q1, fin_val h.2 sm⟩
theorem c_any (hc : X.calm = true) : CallR X (.builtin "any") (upCall X.K bAny) := by
  rintro pins s σ H xs us Q I r ⟨ds, M, rl, sm, h⟩
  unfold bAny at h
  split at h <;> first | exact h.elim | skip
  split at h <;> first | exact h.elim | skip
  split at h <;> first | exact h.elim | skip
  rename_i hm _ bs hb
  obtain ⟨u, rfl, q⟩ := rl1 rl
  rw [rep_v q] at r
  obtain ⟨ws, q1, l1⟩ := sm.seq (.inl hm)
  rw [bools_eq hb] at l1
  rw [l1.bls] at q1
  exact cr_any hc pins s σ H _ us Q I r ⟨_, _, rfl, q1, fin_val h.2 sm⟩
theorem tyN_x {K : PySem.W.Frag} {H : Hp} {M : Mem} (s : Sim K H M) {d : D} {u : V} {a : String} (r : RepD K H d u) (h : tyN M d = some a) : TyX K H u (.type a) := by
  unfold tyN at h
  split at h
  · cases h; rw [rep_v r]; exact .base .non
  · cases h; rw [rep_v r]; exact .base (.bl _)
  · cases h; rw [rep_v r]; exact .base (.int _)
  · cases h; rw [rep_v r]; exact .base (.str _)
  · cases h
    obtain ⟨b, us, rfl, q, l⟩ := rep_tup r
    rcases q with (q | ⟨o, q⟩) | ⟨o, its, n, q, c, _⟩
    · exact .base (.tup q)
    · exact .fTuple q
    · exact .kTuple q c
  · rw [rep_v r]
    split at h
    · cases h
      rename_i hm
      obtain ⟨us, e, l⟩ := s _ _ hm
      exact .base (.lst e)
    · cases h
      rename_i hm
      obtain ⟨o, us, e, l⟩ := s _ _ hm
      exact .base (.frz e)
    · cases h
      rename_i hm
      obtain ⟨us, e, l⟩ := s _ _ hm
      exact .base (.dK e)
    · cases h
  · cases h
theorem kit_isi {a n : String} (ha : a = "NoneType" ∨ a = "bool" ∨ a = "int" ∨ a = "str" ∨ a = "tuple" ∨ a = "list" ∨ a = "dict") (hn : n = "tuple" ∨ n = "str" ∨ n = "int" ∨ n = "bool" ∨ n = "list") : kitB a n = some (isi a n) := by
  rcases ha with rfl | rfl | rfl | rfl | rfl | rfl | rfl <;> rcases hn with rfl | rfl | rfl | rfl | rfl <;> decide +kernel
theorem tyN_of {M : Mem} {d : D} {a : String} (h : tyN M d = some a) : a = "NoneType" ∨ a = "bool" ∨ a = "int" ∨ a = "str" ∨ a = "tuple" ∨ a = "list" ∨ a = "dict" := by
  unfold tyN at h
  split at h <;> first | (split at h <;> (cases h <;> simp)) | (cases h <;> simp)
theorem c_isi : CallR X (.builtin "isinstance") (upCall X.K bIsi) := by
  rintro pins s σ H xs us Q I r ⟨ds, M, rl, sm, h⟩
  unfold bIsi at h
  split at h <;> first | exact h.elim | skip
  split at h <;> first | exact h.elim | skip
  rename_i d n a hb
  obtain ⟨u, v, rfl, q1, q2⟩ := rl2 rl
  rw [rep_v q2] at r
  exact call_isi pins s σ H _ us Q I r ⟨_, _, _, _, _, rfl, .ty _, tyN_x sm q1 hb, kit_ty (kit_isi (tyN_of hb) h.1), fin_val h.2 sm⟩
end

/-! methods of built-in types -/
abbrev DMeth := D → List D → Mem → Res
def upMeth (K : PySem.W.Frag) (r : DMeth) : V → List V → Hp → VK → Prop := fun x xs H Q => ∃ d ds M, RepD K H d x ∧ RepL K H ds xs ∧ Sim K H M ∧ (r d ds M).run M (upK K H Q)
def isTy (T : String) (d : D) (M : Mem) : Prop := match d with
  | .v (.str _) => T = "str"
  | .v (.ref a) => match M a with
    | some (.lst _) => T = "list"
    | some (.dk _) => T = "dict"
    | _ => False
  | _ => False
def dBM (T : String) (r : DMeth) (to : DE) (t : DA) : DE := fun env M Q E => to env M (fun x M1 => isTy T x M1 ∧ t env M1 (fun ds M2 => (r x ds M2).run M2 Q) E) E
theorem isTy_v {K : PySem.W.Frag} {H : Hp} {M : Mem} {T : String} {d : D} {u : V} (s : Sim K H M) (r : RepD K H d u) (h : isTy T d M) : tyV K T u H := by
  unfold isTy at h
  split at h
  · rw [rep_v r]; exact h
  · rw [rep_v r]
    split at h
    · rename_i hm
      obtain ⟨us, e, l⟩ := s _ _ hm
      exact .inl ⟨h, us, SqL.of e⟩
    · rename_i hm
      obtain ⟨us, e, l⟩ := s _ _ hm
      exact .inr (.inr (.inl ⟨h, .inl ⟨us, e⟩⟩))
    · exact h.elim
  · exact h.elim
section
variable {X : Cx} {W : WX} {o e : Expr} {es : List Expr} {name : Str} {apos cpos : Pos} {to : DE} {t : DA} {T id : String} {r : DMeth}
theorem xe_bm (pa : PlainAttrs T) (slot : Slot T name id) (hty : typeOf (.builtin id) = pure (.type "method_descriptor")) (hm : MtR X id (upMeth X.K r)) (ho : XE X W o to) (ha : XA X W (e :: es) t)
    (hbase : attributeBase o name X.env (eval o X.env) = eval o X.env := by rfl)
    (hfew : ((backTo cpos (starEach (e :: es) X.env)).all (fun x => !x.1) && (backToKw cpos (keywordEach [] X.env)).all (fun x => x.1.isSome)
      && decide ((e :: es).length + ([] : List Keyword).length + (if ([] : List Keyword).isEmpty then 0 else 1) < 30)) = true := by rfl)
    (hline : (apos.endLine == cpos.line) = true := by rfl) (hs : starEach (e :: es) X.env = (false, eval e X.env) :: starEach es X.env := by rfl) (hplain : (backTo cpos (starEach es X.env)).any (·.1) = false := by rfl) :
    XE X W (.Call (.Attribute o name apos) (e :: es) [] cpos) (dBM T r to t) := by
  refine ⟨fun env M Q Q' E E' hQ hE => ho.mono env M _ _ _ _ (fun d M1 h => ⟨h.1, ha.mono env M1 _ _ _ _ (fun ds M2 => Res.mono hQ) hE h.2⟩) hE, PEw (pe_bm pa slot hty hm ho.pe ha.pa hbase hfew hline hs hplain) ?_⟩
  rintro σ H Q ⟨env, M, re, s, h⟩
  refine stepE ho.mono re s h (fun d M1 u H1 e1 s1 re1 r1 h1 => ⟨isTy_v s1 r1 h1.1, ?_⟩) fun _ _ _ z => z
  refine stepA ha.mono re1 s1 h1.2 (fun ds M2 us H2 e2 s2 re2 r2 h2 => ?_) (upX_mono e1)
  exact ⟨d, ds, M2, RepD.mono e2 _ r1, r2, s2, Res.mono (upK_mono (e1.trans e2)) h2⟩
theorem xe_bm0 (pa : PlainAttrs T) (slot : Slot T name id) (hty : typeOf (.builtin id) = pure (.type "method_descriptor")) (hm : MtR X id (upMeth X.K r)) (ho : XE X W o to)
    (hbase : attributeBase o name X.env (eval o X.env) = eval o X.env := by rfl) (hline : (apos.endLine == cpos.line) = true := by rfl) :
    XE X W (.Call (.Attribute o name apos) [] [] cpos) (dBM T r to dNil) := by
  refine ⟨fun env M Q Q' E E' hQ hE => ho.mono env M _ _ _ _ (fun d M1 h => ⟨h.1, Res.mono hQ h.2⟩) hE, PEw (pe_bm0 pa slot hty hm ho.pe hbase hline) ?_⟩
  rintro σ H Q ⟨env, M, re, s, h⟩
  refine stepE ho.mono re s h (fun d M1 u H1 e1 s1 re1 r1 h1 => ⟨isTy_v s1 r1 h1.1, ?_⟩) fun _ _ _ z => z
  exact ⟨d, [], M1, r1, .nil, s1, Res.mono (upK_mono e1) h1.2⟩
end
def mAppend : DMeth
  | .v (.ref a), [d], M => match M a with
    | some (.lst ds) => .put (ds.length < sizeLine) a (.lst (ds ++ [d])) .non
    | _ => .bad
  | _, _, _ => .bad
def mExtend : DMeth
  | .v (.ref a), [.v (.ref b)], M => match M a, M b with
    | some (.lst ds), some (.lst es) => .put (ds.length + es.length ≤ sizeLine) a (.lst (ds ++ es)) .non
    | _, _ => .bad
  | _, _, _ => .bad
def mPop : DMeth
  | .v (.ref a), [], M => match M a with
    | some (.lst ds) => match ds[ds.length - 1]? with
      | some d => .put True a (.lst ds.dropLast) d
      | none => .bad
    | _ => .bad
  | _, _, _ => .bad
def strsOf : List D → Option (List Str)
  | [] => some []
  | .v (.str b) :: r => (strsOf r).map (b :: ·)
  | _ :: _ => none
theorem strsOf_eq : ∀ {ds : List D} {bs : List Str}, strsOf ds = some bs → ds = bs.map D.str
  | [], bs, h => by simp [strsOf] at h; subst h; rfl
  | .v (.str b) :: r, bs, h => by
    simp only [strsOf, Option.map_eq_some_iff] at h
    obtain ⟨cs, h1, rfl⟩ := h
    rw [strsOf_eq h1]; rfl
  | .tup _ :: _, _, h => by simp [strsOf] at h
  | .v .non :: _, _, h => by simp [strsOf] at h
  | .v (.int _) :: _, _, h => by simp [strsOf] at h
  | .v (.bl _) :: _, _, h => by simp [strsOf] at h
  | .v (.byt _) :: _, _, h => by simp [strsOf] at h
  | .v (.flt _) :: _, _, h => by simp [strsOf] at h
  | .v (.ref _) :: _, _, h => by simp [strsOf] at h
  | .v (.ty _) :: _, _, h => by simp [strsOf] at h
theorem strsOf_map : ∀ bs : List Str, strsOf (bs.map D.str) = some bs
  | [] => rfl
  | b :: bs => by show (strsOf (bs.map D.str)).map _ = _; rw [strsOf_map bs]; rfl
theorem RepL.strs {K : PySem.W.Frag} {H : Hp} : ∀ {bs : List Str} {us : List V}, RepL K H (bs.map D.str) us → us = bs.map V.str
  | [], _, h => by unfold RepL at h; simpa using h
  | n :: ns, _, h => by
    simp only [List.map_cons] at h; unfold RepL at h
    obtain ⟨u, r, rfl, q, t⟩ := h
    rw [RepL.strs t, rep_v q]; rfl
theorem RepL.of_strs {K : PySem.W.Frag} {H : Hp} : ∀ {ns : List Str}, RepL K H (ns.map D.str) (ns.map V.str)
  | [] => .nil
  | n :: ns => .cons rep_of RepL.of_strs
theorem RepL.dropLast {K : PySem.W.Frag} {H : Hp} {ds : List D} {us : List V} (h : RepL K H ds us) : RepL K H ds.dropLast us.dropLast := by
  rw [List.dropLast_eq_take, List.dropLast_eq_take, h.length]
  exact h.take _
section
variable {X : Cx}
theorem m_append : MtR X "list.append" (upMeth X.K mAppend) := by
  rintro pins s σ H x xs v us Q I rx rxs ⟨d, ds, M, r1, rl, sm, h⟩
  unfold mAppend at h
  split at h <;> first | exact h.elim | skip
  split at h <;> first | exact h.elim | skip
  rename_i hm
  obtain ⟨u, rfl, q⟩ := rl1 rl
  rw [rep_v r1] at rx
  obtain ⟨ws, e1, l1⟩ := sm.lst hm
  exact mt_append pins s σ H _ _ v us Q I rx rxs ⟨_, ws, u, rfl, rfl, e1, by rw [l1.length]; exact h.1,
    fin_put h.2 sm e1 True.intro (repO_lst (Ext.mut e1 True.intro) (RepL.append l1 (.cons q .nil))) rep_of⟩
theorem m_extend : MtR X "list.extend" (upMeth X.K mExtend) := by
  rintro pins s σ H x xs v us Q I rx rxs ⟨d, ds, M, r1, rl, sm, h⟩
  unfold mExtend at h
  split at h <;> first | exact h.elim | skip
  split at h <;> first | exact h.elim | skip
  rename_i hm1 hm2
  obtain ⟨u, rfl, q⟩ := rl1 rl
  rw [rep_v r1] at rx
  rw [rep_v q] at rxs
  obtain ⟨ws, e1, l1⟩ := sm.lst hm1
  obtain ⟨zs, e2, l2⟩ := sm.lst hm2
  exact mt_extend pins s σ H _ _ v us Q I rx rxs ⟨_, _, ws, zs, rfl, rfl, e1, e2, by rw [l1.length, l2.length]; exact h.1,
    fin_put h.2 sm e1 True.intro (repO_lst (Ext.mut e1 True.intro) (RepL.append l1 l2)) rep_of⟩
theorem m_pop : MtR X "list.pop" (upMeth X.K mPop) := by
  rintro pins s σ H x xs v us Q I rx rxs ⟨d, ds, M, r1, rl, sm, h⟩
  unfold mPop at h
  split at h <;> first | exact h.elim | skip
  split at h <;> first | exact h.elim | skip
  split at h <;> first | exact h.elim | skip
  rename_i hm _ d' hd
  unfold RepL at rl
  subst rl
  rw [rep_v r1] at rx
  obtain ⟨ws, e1, l1⟩ := sm.lst hm
  obtain ⟨w', h1, h2⟩ := l1.get hd
  exact mt_pop pins s σ H _ _ v us Q I rx rxs ⟨_, ws, w', rfl, rfl, e1, by rw [l1.length]; exact h1,
    fin_put h.2 sm e1 True.intro (repO_lst (Ext.mut e1 True.intro) l1.dropLast) h2⟩
end
end PL

namespace PL
open PySem PySem.Spec PyProof.Rows L2

/-! promises -/
abbrev DSp := List D → Mem → DK → DX → Prop
def MonoSp (sp : DSp) : Prop := ∀ ds M (Q Q' : DK) (E E' : DX), (∀ d M, Q d M → Q' d M) → (∀ c f M, E c f M → E' c f M) → sp ds M Q E → sp ds M Q' E'
def upXK (K : PySem.W.Frag) (H : Hp) (E : XK) : DX := fun c fs M' => ∀ d H', Ext K H H' → Sim K H' M' → RepX K H' d fs → E c d H'
def liftSp (K : PySem.W.Frag) (sp : DSp) : Sp := fun vs H Q E => ∃ ds M, RepL K H ds vs ∧ Sim K H M ∧ sp ds M (upK K H Q) (upXK K H E)
structure Fn (P : Program) (w : World) (K : PySem.W.Frag) (mg : Str → Option Value) (base : Heap) (k : Nat) (x : Str) (sp : DSp) (dvs : List D) : Prop where
  mono : MonoSp sp
  ex : ∃ (f : Addr) (fd : FuncData) (ps : List Str) (ds : List Value) (vds : List V), FnOk P w K mg base (L2.CX P w) k f fd ps (liftSp K sp) ∧ mg x = some (.ref f) ∧ PySem.W.keepIn K (.ref f) = true ∧ Binds K fd ps ds ∧ Vals vds ds ∧ ∀ H, RepL K H dvs vds
theorem Fn.up {P : Program} {w : World} {K : PySem.W.Frag} {mg : Str → Option Value} {base : Heap} {j k : Nat} {x : Str} {sp : DSp} {dvs : List D} (F : Fn P w K mg base j x sp dvs) (h : j ≤ k) : Fn P w K mg base k x sp dvs := by
  obtain ⟨m, f, fd, ps, ds, vds, F, r⟩ := F
  exact ⟨m, f, fd, ps, ds, vds, F.mono h, r⟩
def dCall (sp : DSp) (dvs : List D) (t : DA) : DE := fun env M Q E => t env M (fun ds M1 => sp (ds ++ dvs) M1 Q E) E
theorem dCall_mono {sp : DSp} {dvs : List D} {t : DA} (hs : MonoSp sp) (h : MonoA t) : MonoE (dCall sp dvs t) := fun env M Q Q' E E' hQ hE => h env M _ _ _ _ (fun ds M1 => hs _ _ _ _ _ _ hQ hE) hE
theorem upXK_mono {K : PySem.W.Frag} {H H1 : Hp} {E : XK} (e : Ext K H H1) : ∀ c f M1, upXK K H E c f M1 → upXK K H1 E c f M1 := fun c f M1 q d H' e' s r => q d H' (e.trans e') s r
section
variable {X : Cx} {W : WX} {k : Nat} {x : Str} {sp : DSp} {dvs : List D} {e : Expr} {es : List Expr} {t : DA} {p pos : Pos}
theorem xe_call (F : Fn X.prog X.w X.K X.mg X.base k x sp dvs) (hr : Room k X.A) (tk : Takes X W) (hg : Gl X x) (ha : XA X W (e :: es) t) (hdb : (x == ("__debug__" : Str)) = false := by decide)
    (he : starEach (e :: es) X.env = (false, eval e X.env) :: starEach es X.env := by rfl) (hpl : (backTo pos (starEach es X.env)).any (·.1) = false := by rfl) : XE X W (.Call (.Name x p) (e :: es) [] pos) (dCall sp dvs t) := by
  obtain ⟨m, f, fd, ps, ds, vds, F, hm, hk, hb, hd, rd⟩ := F
  refine ⟨dCall_mono m ha.mono, PEw (pe_callSD (E := WE W) F hr hg hm hk hb hd (passAt tk) ha.pa hdb he hpl) ?_⟩
  rintro σ H Q ⟨env, M, re, s, h⟩
  refine stepA ha.mono re s h (fun as M1 us H1 e1 s1 re1 r1 h1 => ?_) fun _ _ _ z => z
  exact ⟨as ++ dvs, M1, RepL.append r1 (rd H1), s1, m _ _ _ _ _ _ (upK_mono e1) (upX_mono e1) h1⟩
theorem xe_call0 (F : Fn X.prog X.w X.K X.mg X.base k x sp dvs) (hr : Room k X.A) (tk : Takes X W) (hg : Gl X x) (hdb : (x == ("__debug__" : Str)) = false := by decide) : XE X W (.Call (.Name x p) [] [] pos) (dCall sp dvs dNil) := by
  obtain ⟨m, f, fd, ps, ds, vds, F, hm, hk, hb, hd, rd⟩ := F
  refine ⟨dCall_mono m (fun _ _ _ _ _ _ hQ _ h => hQ _ _ h), ⟨fun pins s σ H Q I h => ?_⟩⟩
  obtain ⟨env, M, re, sm, h⟩ := h
  refine wpAny_Call_Name_kw (ld_glob I hg hm ?_ hdb)
  exact PySem.W.callWith_K0 I.kIn hk (run_fnSD (E := WE W) (us := []) F hr hb hd (passAt tk σ) I .nil ⟨dvs, M, rd H, sm, h⟩)
/-- a local name that holds a def -/
def dCallL (i : Nat) (S : Addr → Option DSp) (t : DA) : DE := fun env M Q E => match env[i]? with
  | some (some (.v (.ref f))) => match S f with
    | some sp => t env M (fun ds M1 => sp ds M1 Q E) E
    | none => False
  | _ => False
theorem xe_callL {i : Nat} {S : Addr → Option DSp} (A : ∀ f sp, S f = some sp → MonoSp sp ∧ ∃ (fd : FuncData) (ps : List Str), FnOk X.prog X.w X.K X.mg X.base (L2.CX X.prog X.w) k f fd ps (liftSp X.K sp) ∧ PySem.W.keepIn X.K (.ref f) = true ∧ Binds X.K fd ps [])
    (hr : Room k X.A) (tk : Takes X W) (hN : X.N[i]? = some x) (hv : Vis X.env.scope x) (ha : XA X W (e :: es) t) (hdb : (x == ("__debug__" : Str)) = false := by decide) (hcd : (x == ("__classdict__" : Str)) = false := by decide)
    (he : starEach (e :: es) X.env = (false, eval e X.env) :: starEach es X.env := by rfl) (hpl : (backTo pos (starEach es X.env)).any (·.1) = false := by rfl) : XE X W (.Call (.Name x p) (e :: es) [] pos) (dCallL i S t) := by
  refine ⟨fun env M Q Q' E E' hQ hE h => ?_, ⟨fun pins s σ H Q I h => ?_⟩⟩
  · unfold dCallL at h ⊢
    split at h <;> first | exact h.elim | skip
    split at h <;> first | exact h.elim | skip
    rename_i f _ _ sp hS
    exact ha.mono env M _ _ _ _ (fun ds M1 => (A f sp hS).1 _ _ _ _ _ _ hQ hE) hE h
  · obtain ⟨env, M, re, sm, h⟩ := h
    unfold dCallL at h
    split at h <;> first | exact h.elim | skip
    rename_i f hi
    split at h <;> first | exact h.elim | skip
    rename_i sp hS
    obtain ⟨m, fd, ps, F, hk, hb⟩ := A f sp hS
    obtain ⟨u, h1, h2⟩ := re.2 i _ hi
    have eu := rep_v h2
    subst eu
    refine wpAny_Call_Name_kw (thn ((pe_var (pos := p) hN hv hdb hcd).run pins s σ H (fun v H1 => v = .ref f ∧ H1 = H) I ⟨.ref f, h1, rfl, rfl⟩) fun u s1 ⟨v, H1, I1, r1, q1⟩ => ?_)
    obtain ⟨rfl, rfl⟩ := q1
    cases r1
    have q : liftA X.K W t σ H1 fun vs H2 => liftSp X.K sp (vs ++ []) H2 Q (WE W σ) := stepA ha.mono re sm h (fun as M1 us H2 e1 s2 re1 r2 h3 => by
      rw [List.append_nil]
      exact ⟨as, M1, r2, s2, m _ _ _ _ _ _ (upK_mono e1) (upX_mono e1) h3⟩) fun _ _ _ z => z
    refine PySem.W.callWith_K (h₀ := X.base) I.ok.mod.kin hk (thn (ha.pa.run pos pins s1 σ _ _ I1 q) fun us s2 ⟨vs, H2, I2, r, q2⟩ => ⟨I2.kIn, ?_⟩) he hpl
    exact run_fnSD (E := WE W) F hr hb .nil (passAt tk σ) I2 r q2
end

/-! patterns of targets -/
inductive Pat where
  | nm (i : Nat)
  | tp (ps : List Pat)
def seqOf (M : Mem) : D → Option (List D)
  | .tup ds => some ds
  | .v (.ref a) => match M a with
    | some (.lst ds) => some ds
    | _ => none
  | _ => none
mutual
def Pat.bind (M : Mem) : Pat → D → DEnv → Option DEnv
  | .nm i, d, env => some (env.set i (some d))
  | .tp ps, d, env => match seqOf M d with
    | some ds => bindL M ps ds env
    | none => none
def bindL (M : Mem) : List Pat → List D → DEnv → Option DEnv
  | [], [], env => some env
  | p :: ps, d :: ds, env => match p.bind M d env with
    | some env1 => bindL M ps ds env1
    | none => none
  | _, _, _ => none
end
mutual
def Pat.tg (K : PySem.W.Frag) : Pat → TG
  | .nm i => gName i
  | .tp ps => fun v σ H Q => gTup K ps.length (tgs K ps) v σ H Q ∨ gLst K ps.length (tgs K ps) v σ H Q
def tgs (K : PySem.W.Frag) : List Pat → TGs
  | [] => gNil
  | p :: ps => gCons (p.tg K) (tgs K ps)
end
mutual
def Pat.slots : Pat → List Nat
  | .nm i => [i]
  | .tp ps => slotsL ps
def slotsL : List Pat → List Nat
  | [] => []
  | p :: ps => p.slots ++ slotsL ps
end
theorem wipe_set {i : Nat} {x : V} : ∀ {vs : List Nat} {σ : L2.St}, i ∈ vs → wipe (σ.set i (some x)) vs = wipe σ vs
  | v :: vs, σ, h => by
    show (wipe (σ.set i (some x)) vs).set v none = (wipe σ vs).set v none
    by_cases hm : i ∈ vs
    · rw [wipe_set hm]
    · have e : i = v := by
        rcases List.mem_cons.mp h with e | e
        · exact e
        · exact absurd e hm
      subst e
      have comm : ∀ (vs : List Nat) (σ : L2.St), i ∉ vs → wipe (σ.set i (some x)) vs = (wipe σ vs).set i (some x) := by
        intro vs
        induction vs with
        | nil => intro σ _; rfl
        | cons w ws ih =>
          intro σ hn
          show (wipe (σ.set i (some x)) ws).set w none = ((wipe σ ws).set w none).set i (some x)
          rw [ih σ (fun z => hn (List.mem_cons_of_mem _ z)), List.set_comm _ _ (fun z => hn (by rw [z]; exact List.mem_cons_self))]
      rw [comm vs σ hm, List.set_set]
mutual
theorem Pat.rep {K : PySem.W.Frag} {H : Hp} {M : Mem} (s : Sim K H M) (vs : List Nat) : ∀ (p : Pat) {d : D} {v : V} {env env' : DEnv} {σ : L2.St}, RepD K H d v → RepE K H env σ → p.bind M d env = some env' → (∀ i ∈ p.slots, i ∈ vs) →
    ∃ σ', RepE K H env' σ' ∧ wipe σ' vs = wipe σ vs ∧ ∀ Q : L2.St → Hp → Prop, Q σ' H → p.tg K v σ H Q
  | .nm i, d, v, env, env', σ, r, re, h, hs => by
    simp only [Pat.bind, Option.some.injEq] at h
    subst h
    exact ⟨σ.set i (some v), re.set r i, wipe_set (hs i (by simp [Pat.slots])), fun Q q => q⟩
  | .tp ps, d, v, env, env', σ, r, re, h, hs => by
    unfold Pat.bind at h
    split at h
    · rename_i ds hd
      unfold seqOf at hd
      split at hd
      · cases hd
        obtain ⟨a, us, rfl, q, l⟩ := rep_tup r
        obtain ⟨σ', h1, h2, h3⟩ := Pat.repL s vs ps l re h (by simpa [Pat.slots] using hs)
        refine ⟨σ', h1, h2, fun Q q' => .inl ⟨a, us, rfl, q, ?_, h3.2 Q q'⟩⟩
        exact h3.1
      · split at hd <;> cases hd
        rename_i hm
        obtain ⟨us, e, l⟩ := s.lst hm
        rw [rep_v r]
        obtain ⟨σ', h1, h2, h3⟩ := Pat.repL s vs ps l re h (by simpa [Pat.slots] using hs)
        exact ⟨σ', h1, h2, fun Q q' => .inr ⟨_, us, rfl, SqL.of e, h3.1, h3.2 Q q'⟩⟩
      · cases hd
    · cases h
theorem Pat.repL {K : PySem.W.Frag} {H : Hp} {M : Mem} (s : Sim K H M) (vs : List Nat) : ∀ (ps : List Pat) {ds : List D} {us : List V} {env env' : DEnv} {σ : L2.St}, RepL K H ds us → RepE K H env σ → bindL M ps ds env = some env' → (∀ i ∈ slotsL ps, i ∈ vs) →
    ∃ σ', RepE K H env' σ' ∧ wipe σ' vs = wipe σ vs ∧ us.length = ps.length ∧ ∀ Q : L2.St → Hp → Prop, Q σ' H → tgs K ps us σ H Q
  | [], [], us, env, env', σ, r, re, h, hs => by
    simp only [bindL, Option.some.injEq] at h
    subst h
    unfold RepL at r
    subst r
    exact ⟨σ, re, rfl, rfl, fun Q q => ⟨rfl, q⟩⟩
  | p :: ps, d :: ds, us, env, env', σ, r, re, h, hs => by
    unfold bindL at h
    split at h
    · rename_i env1 hb
      unfold RepL at r
      obtain ⟨u, t, rfl, q, l⟩ := r
      obtain ⟨σ1, h1, h2, h3⟩ := Pat.rep s vs p q re hb (fun i hi => hs i (by simp [slotsL, hi]))
      obtain ⟨σ2, g1, g2, g3, g4⟩ := Pat.repL s vs ps l h1 h (fun i hi => hs i (by simp [slotsL, hi]))
      exact ⟨σ2, g1, g2.trans h2, by simp [g3], fun Q q' => ⟨u, t, rfl, h3 _ (g4 Q q')⟩⟩
    · cases h
  | [], _ :: _, _, _, _, _, _, _, h, _ => by simp [bindL] at h
  | _ :: _, [], _, _, _, _, _, _, h, _ => by simp [bindL] at h
end
section
variable {X : Cx} {pos : Pos}
theorem xg_name (i : Nat) {x : Str} (hN : X.N.Nodup) (hi : X.N[i]? = some x := by rfl) (hx : Loc X.env.scope x := by first | exact .inl rfl | exact .inr rfl) (hf : X.fn x = true ∨ X.env.scope.names.lookup x = some .local := by first | exact .inl rfl | exact .inr rfl) : PG X (.Name x pos) ((Pat.nm i).tg X.K) := by
  unfold Pat.tg
  exact pg_name hN hi hx hf
theorem xgs_nil : PGs X [] (tgs X.K []) := by unfold tgs; exact pgs_nil
theorem xgs_cons {e : Expr} {es : List Expr} {p : Pat} {ps : List Pat} (h1 : PG X e (p.tg X.K)) (h2 : PGs X es (tgs X.K ps)) (hs : (assignEach (e :: es) X.env).map (·.2) = assign e X.env :: (assignEach es X.env).map (·.2) := by rfl) : PGs X (e :: es) (tgs X.K (p :: ps)) := by
  unfold tgs
  exact pgs_cons h1 h2 hs
theorem xg_tup {es : List Expr} {k : Nat} {ps : List Pat} (hc : X.calm = true) (h : PGs X es (tgs X.K ps)) (hn : (assignEach es X.env).length = ps.length := by rfl) (hst : (assignEach es X.env).findIdx? (·.1) = none := by rfl) : PG X (.Tuple es k pos) ((Pat.tp ps).tg X.K) := by
  unfold Pat.tg
  refine ⟨fun pins s σ H v u Q I r hw => ?_⟩
  rcases hw with hw | hw
  · exact (pg_tup hc h hn hst).run pins s σ H v u Q I r hw
  · exact (pg_lst hc h hn hst).run pins s σ H v u Q I r hw
end

/-! statements -/
def dNext : DS := fun D env M => D.nx env M
def dSeq (t u : DS) : DS := fun D env M => t { D with nx := u D } env M
def dDrop (te : DE) : DS := fun D env M => te env M (fun _ M1 => D.nx env M1) (fun c f M1 => D.ex c f env M1)
def dRet (te : DE) : DS := fun D env M => te env M D.rt (fun c f M1 => D.ex c f env M1)
def dRetN : DS := fun D env M => D.rt .non M
def dIfS (tc : DT) (t u : DS) : DS := fun D env M => tc env M (fun b M1 => if b = true then t D env M1 else u D env M1) (fun c f M1 => D.ex c f env M1)
def dAsg (te : DE) (p : Pat) : DS := fun D env M => te env M (fun d M1 => match p.bind M1 d env with
  | some env1 => D.nx env1 M1
  | none => False) (fun c f M1 => D.ex c f env M1)
def dBrk : DS := fun D env M => D.bk env M
def dCont : DS := fun D env M => D.ct env M
theorem ends_ex {K : PySem.W.Frag} {W : WX} {H : Hp} {D : Ends} {env : DEnv} {σ : L2.St} (re : RepE K H env σ) : ∀ c f M1, (upEnds K W H D).ex c f env M1 → upX K W H σ c f M1 := fun c f M1 q d H' e s r => q d σ H' e s (re.mono e) r
theorem upN_mono {K : PySem.W.Frag} {H H1 : Hp} {Q : L2.St → Hp → Prop} (e : Ext K H H1) : ∀ env M1, upN K H Q env M1 → upN K H1 Q env M1 := fun c M1 q σ' H' e' s r => q σ' H' (e.trans e') s r
theorem upEnds_le {K : PySem.W.Frag} {W : WX} {H H1 : Hp} {D : Ends} (e : Ext K H H1) : (upEnds K W H D).Le (upEnds K W H1 D) :=
  ⟨upN_mono e, upK_mono e, upN_mono e, upN_mono e, fun c f env M1 q d σ' H' e' s r x => q d σ' H' (e.trans e') s r x⟩
theorem DEnds.Le.refl {D : DEnds} : D.Le D := ⟨fun _ _ h => h, fun _ _ h => h, fun _ _ h => h, fun _ _ h => h, fun _ _ _ _ h => h⟩
section
variable {X : Cx} {W : WX} {st : Stmt} {rest : List Stmt} {t u : DS} {e c : Expr} {te : DE} {tc : DT} {pos : Pos}
theorem xss_nil : XSs X W [] dNext := by
  refine ⟨fun D D' env M l h => l.nx _ _ h, PSsw pss_nil ?_⟩
  rintro D σ H ⟨env, M, re, s, h⟩
  exact h σ H Ext.refl s re
theorem dSeq_mono {t u : DS} (ht : MonoS t) (hu : MonoS u) : MonoS (dSeq t u) := fun D D' env M l => ht _ _ _ _ ⟨fun e M => hu _ _ _ _ l, l.rt, l.bk, l.ct, l.ex⟩
theorem xss_cons (h1 : XS X W st t) (h2 : XSs X W rest u) : XSs X W (st :: rest) (dSeq t u) := by
  refine ⟨dSeq_mono h1.mono h2.mono, PSsw (pss_cons h1.ps h2.ps) ?_⟩
  rintro D σ H ⟨env, M, re, s, h⟩
  refine ⟨env, M, re, s, h1.mono { upEnds X.K W H D with nx := u (upEnds X.K W H D) } _ _ _ ⟨fun env1 M1 q σ1 H1 e1 s1 re1 => ?_, fun _ _ q => q, fun _ _ q => q, fun _ _ q => q, fun _ _ _ _ q => q⟩ h⟩
  exact ⟨env1, M1, re1, s1, h2.mono _ _ _ _ (upEnds_le e1) q⟩
theorem xss_one (h1 : XS X W st t) : XSs X W [st] t := ⟨h1.mono, pss_one h1.ps⟩
theorem xs_pass : XS X W (.Pass pos) dNext := by
  refine ⟨fun D D' env M l h => l.nx _ _ h, PSw ps_pass ?_⟩
  rintro D σ H ⟨env, M, re, s, h⟩
  exact h σ H Ext.refl s re
theorem xs_break : XS X W (.Break pos) dBrk := by
  refine ⟨fun D D' env M l h => l.bk _ _ h, PSw ps_break ?_⟩
  rintro D σ H ⟨env, M, re, s, h⟩
  exact h σ H Ext.refl s re
theorem xs_continue : XS X W (.Continue pos) dCont := by
  refine ⟨fun D D' env M l h => l.ct _ _ h, PSw ps_continue ?_⟩
  rintro D σ H ⟨env, M, re, s, h⟩
  exact h σ H Ext.refl s re
theorem xs_expr (he : XE X W e te) (hs : swapsWith e none pos.line X.env = pure false := by rfl) : XS X W (.Expr e pos) (dDrop te) := by
  refine ⟨fun D D' env M l h => he.mono _ _ _ _ _ _ (fun _ M1 => l.nx _ M1) (fun c f M1 => l.ex c f _ M1) h, PSw (ps_expr he.pe hs) ?_⟩
  rintro D σ H ⟨env, M, re, s, h⟩
  exact stepE he.mono re s h (fun d M1 u H1 e1 s1 re1 r1 q => q σ H1 e1 s1 re1) (ends_ex re)
theorem xs_ret (he : XE X W e te) : XS X W (.Return (some e) pos) (dRet te) := by
  refine ⟨fun D D' env M l h => he.mono _ _ _ _ _ _ (fun d M1 => l.rt d M1) (fun c f M1 => l.ex c f _ M1) h, PSw (ps_ret he.pe) ?_⟩
  rintro D σ H ⟨env, M, re, s, h⟩
  exact stepE he.mono re s h (fun d M1 u H1 e1 s1 re1 r1 q => q u H1 e1 s1 r1) (ends_ex re)
theorem xs_retN : XS X W (.Return none pos) dRetN := by
  refine ⟨fun D D' env M l h => l.rt _ _ h, PSw ps_retN ?_⟩
  rintro D σ H ⟨env, M, re, s, h⟩
  exact h .non H Ext.refl s rep_of
theorem xs_if {a b : List Stmt} (hc : XT X W c tc) (ha : XSs X W a t) (hb : XSs X W b u) : XS X W (.If c a b pos) (dIfS tc t u) := by
  refine ⟨fun D D' env M l h => hc.mono _ _ _ _ _ _ (fun b M1 => ?_) (fun c f M1 => l.ex c f _ M1) h, PSw (ps_if hc.pt ha.ps hb.ps) ?_⟩
  · cases b with
    | true => rw [if_pos rfl, if_pos rfl]; exact ha.mono _ _ _ _ l
    | false => rw [if_neg Bool.false_ne_true, if_neg Bool.false_ne_true]; exact hb.mono _ _ _ _ l
  · rintro D σ H ⟨env, M, re, s, h⟩
    refine stepT hc.mono re s h (fun b M1 H1 e1 s1 re1 q => ?_) (ends_ex re)
    cases b with
    | true =>
      rw [if_pos rfl] at q ⊢
      exact ⟨env, M1, re1, s1, ha.mono _ _ _ _ (upEnds_le e1) q⟩
    | false =>
      rw [if_neg Bool.false_ne_true] at q ⊢
      exact ⟨env, M1, re1, s1, hb.mono _ _ _ _ (upEnds_le e1) q⟩
theorem bind_mono {p : Pat} {M1 : Mem} {d : D} {env : DEnv} {N N' : DEnv → Mem → Prop} (h : ∀ e M, N e M → N' e M) : (match p.bind M1 d env with | some env1 => N env1 M1 | none => False) → (match p.bind M1 d env with | some env1 => N' env1 M1 | none => False) := by
  cases p.bind M1 d env with
  | none => exact id
  | some e => exact h e M1
theorem asg_up (he : XE X W e te) (p : Pat) : ∀ D σ H, liftS X.K W (dAsg te p) D σ H → tAsg (liftE X.K W te) (p.tg X.K) D σ H := by
  rintro D σ H ⟨env, M, re, s, h⟩
  refine stepE he.mono re s h (fun d M1 u H1 e1 s1 re1 r1 q => ?_) (ends_ex re)
  split at q
  · rename_i env1 hb
    obtain ⟨σ', h1, _, h3⟩ := Pat.rep s1 p.slots p r1 re1 hb (fun _ h => h)
    exact h3 _ (q σ' H1 e1 s1 h1)
  · exact q.elim
theorem dAsg_mono (he : MonoE te) {p : Pat} : MonoS (dAsg te p) := fun D D' env M l h => he _ _ _ _ _ _ (fun d M1 => bind_mono l.nx) (fun c f M1 => l.ex c f _ M1) h
theorem xs_asg {tg : Expr} {p : Pat} (he : XE X W e te) (hg : PG X tg (p.tg X.K)) (hs : swapsWithSole [tg] e pos.line X.env = pure false := by rfl) (hw : swappedStores [tg] e X.env = pure none := by rfl)
    (h1 : (assignEach [tg] X.env).map (·.2) = [assign tg X.env] := by rfl) : XS X W (.Assign [tg] e pos) (dAsg te p) := ⟨dAsg_mono he.mono, PSw (ps_asg he.pe hg hs hw h1) (asg_up he p)⟩
theorem xs_set (i : Nat) {x : Str} {pos' : Pos} (hN : X.N.Nodup) (he : XE X W e te) (hi : X.N[i]? = some x := by rfl) (hx : Loc X.env.scope x := by first | exact .inl rfl | exact .inr rfl)
    (hs : swapsWith e (some (.Name x pos')) pos.line X.env = pure false := by rfl) (hf : X.fn x = true ∨ X.env.scope.names.lookup x = some .local := by first | exact .inl rfl | exact .inr rfl) : XS X W (.Assign [.Name x pos'] e pos) (dAsg te (.nm i)) := by
  refine ⟨dAsg_mono he.mono, PSw (ps_set hN hi hx he.pe hs hf) fun D σ H h => ?_⟩
  have := asg_up he (.nm i) D σ H h
  unfold Pat.tg at this
  exact this
/-- x op= e -/
def dAug (i : Nat) (r : DOp2) (te : DE) : DS := fun D env M => match env[i]? with
  | some (some x) => te env M (fun y M1 => (r x y M1).run M1 (fun z M2 => D.nx (env.set i (some z)) M2)) (fun c f M1 => D.ex c f env M1)
  | _ => False
theorem xs_aug (i : Nat) {x : Str} {op : Operator} {r : DOp2} {pos' : Pos} (hN : X.N.Nodup) (ho : XOp X (inplaceOp op) r) (he : XE X W e te) (hi : X.N[i]? = some x := by rfl) (hx : Loc X.env.scope x := by first | exact .inl rfl | exact .inr rfl)
    (hf : X.fn x = true ∨ X.env.scope.names.lookup x = some .local := by first | exact .inl rfl | exact .inr rfl) : XS X W (.AugAssign (.Name x pos') op e pos) (dAug i r te) := by
  refine ⟨fun D D' env M l h => ?_, PSw (ps_aug (ti := upR2 X.K r) hN hi hx he.pe ?_ hf) ?_⟩
  · unfold dAug at h ⊢
    split at h <;> first | exact h.elim | skip
    exact he.mono _ _ _ _ _ _ (fun y M1 => Res.mono fun z M2 => l.nx _ M2) (fun c f M1 => l.ex c f _ M1) h
  · intro pins s σ H x y v u Q I rx ry q
    exact ho pins s σ H x y v u Q I rx ry q
  · rintro D σ H ⟨env, M, re, s, h⟩
    unfold dAug at h
    split at h <;> first | exact h.elim | skip
    rename_i d hd
    obtain ⟨v, h1, h2⟩ := re.2 i d hd
    refine ⟨v, h1, stepE he.mono re s h (fun y M1 u H1 e1 s1 re1 r1 q => ?_) (ends_ex re)⟩
    exact ⟨d, y, M1, RepD.mono e1 _ h2, r1, s1, Res.mono (fun z M2 q2 u2 H2 e2 s2 r2 => q2 _ H2 (e1.trans e2) s2 (re1.mono e2 |>.set r2 i)) q⟩
theorem x_iadd : XOp X (inplaceOp .Add) (fun x y M => match x, y with | .v (.int i), .v (.int j) => .val True (.int (i + j)) | .v (.str a), .v (.str b) => .val (a.length + b.length ≤ sizeLine) (.str (a ++ b)) | _, _ => .bad) := by
  rintro pins s σ H x y v u Q I rx ry ⟨dx, dy, M, r1, r2, sm, h⟩
  dsimp only at h
  split at h <;> first | exact h.elim | skip
  all_goals rw [rep_v r1] at rx; rw [rep_v r2] at ry
  · exact iop_add pins s σ H _ _ v u Q I rx ry ⟨_, _, rfl, rfl, fin_val h.2 sm⟩
  · exact iop_add_str pins s σ H _ _ v u Q I rx ry ⟨_, _, rfl, rfl, h.1, fin_val h.2 sm⟩
theorem x_isub : XOp X (inplaceOp .Sub) opSub := by
  rintro pins s σ H x y v u Q I rx ry ⟨dx, dy, M, r1, r2, sm, h⟩
  unfold opSub at h
  split at h <;> first | exact h.elim | skip
  rw [rep_v r1] at rx; rw [rep_v r2] at ry
  exact iop_sub pins s σ H _ _ v u Q I rx ry ⟨_, _, rfl, rfl, fin_val h.2 sm⟩
end
def opIadd : DOp2 := fun x y M => match x, y with | .v (.int i), .v (.int j) => .val True (.int (i + j)) | .v (.str a), .v (.str b) => .val (a.length + b.length ≤ sizeLine) (.str (a ++ b)) | _, _ => .bad

/-! o[i] = v -/
def putD {κ : Type} [DecidableEq κ] (kvs : List (κ × D)) (k : κ) (d : D) : List (κ × D) := if (kvs.any fun kv => decide (kv.1 = k)) = true then kvs.map (fun kv => if kv.1 = k then (kv.1, d) else kv) else kvs ++ [(k, d)]
theorem RepKV.put {κ : Type} [DecidableEq κ] {K : PySem.W.Frag} {H : Hp} {k : κ} {d : D} {u : V} (q : RepD K H d u) {kvs : List (κ × D)} {us : List (κ × V)} (h : RepKV K H kvs us) : RepKV K H (putD kvs k d) (putK us k u) := by
  have a : ∀ {kvs : List (κ × D)} {us : List (κ × V)}, RepKV K H kvs us → (us.any fun kv => decide (kv.1 = k)) = (kvs.any fun kv => decide (kv.1 = k)) := by
    intro kvs
    induction kvs with
    | nil => intro us h; unfold RepKV at h; rw [h]; rfl
    | cons p r ih =>
      intro us h
      obtain ⟨u', t, rfl, _, z⟩ := h
      simp [List.any_cons, ih z]
  have b : ∀ {kvs : List (κ × D)} {us : List (κ × V)}, RepKV K H kvs us → RepKV K H (kvs.map fun kv => if kv.1 = k then (kv.1, d) else kv) (us.map fun kv => if kv.1 = k then (kv.1, u) else kv) := by
    intro kvs
    induction kvs with
    | nil => intro us h; unfold RepKV at h; rw [h]; rfl
    | cons p r ih =>
      intro us h
      obtain ⟨k', d'⟩ := p
      obtain ⟨u', t, rfl, q', z⟩ := h
      by_cases e : k' = k
      · simp only [List.map_cons, e, if_true]
        exact ⟨u, _, rfl, q, ih z⟩
      · simp only [List.map_cons, e, if_false]
        exact ⟨u', _, rfl, q', ih z⟩
  have c : ∀ {kvs : List (κ × D)} {us : List (κ × V)}, RepKV K H kvs us → RepKV K H (kvs ++ [(k, d)]) (us ++ [(k, u)]) := by
    intro kvs
    induction kvs with
    | nil => intro us h; unfold RepKV at h; rw [h]; exact ⟨u, [], rfl, q, rfl⟩
    | cons p r ih =>
      intro us h
      obtain ⟨k', d'⟩ := p
      obtain ⟨u', t, rfl, q', z⟩ := h
      exact ⟨u', _, rfl, q', ih z⟩
  unfold putD putK
  rw [a h]
  split
  · exact b h
  · exact c h
/-- o i v -/
def opPut : D → D → D → Mem → Res
  | .v (.ref a), y, z, M => match M a with
    | some (.lst ds) => match y with
      | .v (.int i) => match ixN ds.length i with
        | some j => .put True a (.lst (ds.set j z)) .non
        | none => .bad
      | _ => .bad
    | some (.dk kvs) => match y.key with
      | some k => .put (kvs.length < sizeLine) a (.dk (putD kvs k z)) .non
      | none => .bad
    | _ => .bad
  | _, _, _, _ => .bad
def dPut (te to ti : DE) : DS := fun D env M => te env M (fun z M1 => to env M1 (fun o M2 => ti env M2 (fun i M3 => (opPut o i z M3).run M3 (fun _ M4 => D.nx env M4)) (fun c f M' => D.ex c f env M')) (fun c f M' => D.ex c f env M')) (fun c f M' => D.ex c f env M')
section
variable {X : Cx} {W : WX} {o i e : Expr} {to ti te : DE} {pos pos' : Pos}
theorem x_put (hu : X.A.units + 200 < cLine) : PSet X (fun o i v H Q => ∃ d1 di dv M, RepD X.K H d1 o ∧ RepD X.K H di i ∧ RepD X.K H dv v ∧ Sim X.K H M ∧ (opPut d1 di dv M).run M (fun _ M' => ∀ H', Ext X.K H H' → Sim X.K H' M' → Q H')) := by
  rintro pins s σ H o i v ov iv u Q I ro ri rv ⟨d1, d2, d3, M, r1, r2, r3, sm, h⟩
  unfold opPut at h
  split at h <;> first | exact h.elim | skip
  have e1 := rep_v r1
  subst e1
  have ro2 := ro
  obtain rfl : ov = Value.ref _ := ro
  split at h <;> first | exact h.elim | skip
  · split at h <;> first | exact h.elim | skip
    split at h <;> first | exact h.elim | skip
    rename_i hm _ k _ j hj
    rw [rep_v r2] at ri
    obtain ⟨ws, e1, l1⟩ := sm.lst hm
    refine set_list pins s σ H _ _ v _ iv u Q I ro2 ri rv ⟨_, ws, _, j, rfl, rfl, e1, by rw [l1.length]; exact hj, ?_⟩
    exact h.2 _ (Ext.mut e1 True.intro) (sm.put e1 True.intro (repO_lst (Ext.mut e1 True.intro) (RepL.set r3 j l1)))
  · split at h <;> first | exact h.elim | skip
    rename_i kvs hm _ k hk
    obtain ⟨ws, e1, l1⟩ := sm _ _ hm
    have ei := key_rep hk r2
    subst ei
    refine d_setItem (by omega) I (DPut.k e1 (by rw [l1.length]; exact h.1)) ri rv fun s' I' => ⟨_, I', ?_⟩
    have ex := Ext.mut (K := X.K) (o' := .dK (putK ws k v)) e1 True.intro
    exact h.2 _ ex (sm.put e1 True.intro ⟨_, upd_same, RepKV.mono ex (RepKV.put r3 l1)⟩)
theorem xs_put (hu : X.A.units + 200 < cLine) (he : XE X W e te) (ho : XE X W o to) (hi : XE X W i ti) (hs : swapsWithSole [.Subscript o i pos'] e pos.line X.env = pure false := by rfl) (hw : swappedStores [.Subscript o i pos'] e X.env = pure none := by rfl)
    (h1 : (assignEach [.Subscript o i pos'] X.env).map (·.2) = [assign (.Subscript o i pos') X.env] := by rfl)
    (ha : ∀ v, assign (.Subscript o i pos') X.env v = (do let ov ← holding [v] (eval o X.env); let iv ← holding [v, ov] (eval i X.env); standAt pos'; holding [v, ov, iv] (setItem ov iv v); release [v, ov, iv] []) := by intro _; rfl) :
    XS X W (.Assign [.Subscript o i pos'] e pos) (dPut te to ti) := by
  refine ⟨fun D D' env M l h => he.mono _ _ _ _ _ _ (fun z M1 => ho.mono _ _ _ _ _ _ (fun o M2 => hi.mono _ _ _ _ _ _ (fun i M3 => Res.mono fun _ M4 => l.nx _ M4) (fun c f M' => l.ex c f _ M')) (fun c f M' => l.ex c f _ M')) (fun c f M' => l.ex c f _ M') h,
    PSw (ps_asg he.pe (pg_sub ho.pe hi.pe (x_put hu) ha) hs hw h1) ?_⟩
  rintro D σ H ⟨env, M, re, s, h⟩
  refine stepE he.mono re s h (fun z M1 u H1 e1 s1 re1 r1 h1 => ?_) (ends_ex re)
  refine stepE ho.mono re1 s1 h1 (fun o M2 u2 H2 e2 s2 re2 r2 h2 => ?_) fun c f M' q => upX_mono e1 c f M' (ends_ex re c f M' q)
  refine stepE hi.mono re2 s2 h2 (fun i M3 u3 H3 e3 s3 re3 r3 h3 => ?_) fun c f M' q => upX_mono (e1.trans e2) c f M' (ends_ex re c f M' q)
  exact ⟨o, i, z, M3, RepD.mono e3 _ r2, r3, RepD.mono (e2.trans e3) _ r1, s3, Res.mono (fun _ M4 q H' e4 s4 => q σ H' (((e1.trans e2).trans e3).trans e4) s4 (re3.mono e4)) h3⟩
end
end PL

namespace PL
open PySem PySem.Spec PyProof.Rows L2

/-! what is walked: items; what must stand while it is walked -/
structure DIt where
  items : List D
  keep : Mem → Prop
abbrev DI := DEnv → Mem → (DIt → Mem → Prop) → DX → Prop
def MonoI (t : DI) : Prop := ∀ env M (Q Q' : DIt → Mem → Prop) (E E' : DX), (∀ d M, Q d M → Q' d M) → (∀ c f M, E c f M → E' c f M) → t env M Q E → t env M Q' E'
structure ItRep (K : PySem.W.Frag) (H0 : Hp) (J' : It) (J : DIt) : Prop where
  go : ∀ i H M, Ext K H0 H → Sim K H M → J.keep M → i < J.items.length → J'.go i H
  yld : ∀ i H M x H', Ext K H0 H → Sim K H M → J.keep M → i < J.items.length → J'.yld i H x H' → ∃ d, J.items[i]? = some d ∧ RepD K H' d x ∧ Ext K H H' ∧ Sim K H' M
  stop : ∀ H M, Ext K H0 H → Sim K H M → J.keep M → J'.stop J.items.length H
def liftI (K : PySem.W.Frag) (W : WX) (t : DI) : TI := fun σ H R => ∃ env M, RepE K H env σ ∧ Sim K H M ∧ t env M (fun J M' => ∀ J' H', Ext K H H' → Sim K H' M' → ItRep K H' J' J → R J' H') (upX K W H σ)
structure XI (X : Cx) (W : WX) (tg e : Expr) (t : DI) : Prop where
  mono : MonoI t
  pi : PI X tg e (liftI X.K W t)
theorem PIw {X : Cx} {tg e : Expr} {t t' : TI} (h : PI X tg e t) (w : ∀ σ H Q, t' σ H Q → t σ H Q) : PI X tg e t' := ⟨fun pins s σ H Q I q => h.run pins s σ H Q I (w σ H Q q)⟩

theorem rep_list {K : PySem.W.Frag} {H0 : Hp} {a : Addr} {ds : List D} : ItRep K H0 (Itl K a) ⟨ds, fun M => M a = some (.lst ds) ∨ M a = some (.rol ds)⟩ where
  go := fun i H M _ s k hi => by
    obtain ⟨us, q, l⟩ := s.seq k
    have hl : i < us.length := by rw [l.length]; exact hi
    exact ⟨us, us[i], q, by simp [hl]⟩
  yld := fun i H M x H' _ s k _ y => by
    obtain ⟨us, q, l⟩ := s.seq k
    obtain ⟨rfl, y⟩ := y
    obtain ⟨d, h1, h2⟩ := l.get' (y us q)
    exact ⟨d, h1, h2, Ext.refl, s⟩
  stop := fun H M _ s k => by
    obtain ⟨us, q, l⟩ := s.seq k
    exact ⟨us, q, by rw [l.length]; exact Nat.le_refl _⟩
theorem rep_tupI {K : PySem.W.Frag} {H0 : Hp} {a : Addr} {ds : List D} {us : List V} (q : SqT K H0 a us) (l : RepL K H0 ds us) : ItRep K H0 (Itt K a) ⟨ds, fun _ => True⟩ where
  go := fun i H M e s k hi => by
    have hl : i < us.length := by rw [l.length]; exact hi
    exact ⟨us, us[i], e _ _ q, by simp [hl]⟩
  yld := fun i H M x H' e s k _ y => by
    obtain ⟨rfl, y⟩ := y
    obtain ⟨d, h1, h2⟩ := (RepL.mono e ds l).get' (y us (e _ _ q))
    exact ⟨d, h1, h2, Ext.refl, s⟩
  stop := fun H M e s k => ⟨us, e _ _ q, by rw [l.length]; exact Nat.le_refl _⟩

def rg (lo : Int) (n : Nat) : List D := (List.range n).map fun i => D.int (lo + (i : Nat))
theorem rg_length (lo : Int) (n : Nat) : (rg lo n).length = n := by simp [rg]
theorem rep_range {K : PySem.W.Frag} {H0 : Hp} {lo : Int} {n : Nat} : ItRep K H0 (Itr lo n) ⟨rg lo n, fun _ => True⟩ where
  go := fun i H M e s k hi => by rw [rg_length] at hi; exact hi
  yld := fun i H M x H' e s k hi y => by
    obtain ⟨rfl, rfl⟩ := y
    rw [rg_length] at hi
    exact ⟨.int (lo + (i : Nat)), by simp [rg, hi], rep_of, Ext.refl, s⟩
  stop := fun H M e s k => by rw [rg_length]; exact Nat.le_refl n
def signs (x : Str) : List D := x.cps.toList.map fun c => D.str ⟨#[c]⟩
theorem rep_str {K : PySem.W.Frag} {H0 : Hp} {x : Str} : ItRep K H0 (Its x) ⟨signs x, fun _ => True⟩ where
  go := fun i H M e s k hi => by
    have : (signs x).length = x.cps.size := by simp [signs]
    show i < x.cps.size
    rw [← this]
    exact hi
  yld := fun i H M v H' e s k hi y => by
    obtain ⟨rfl, c, hc, rfl⟩ := y
    refine ⟨.str ⟨#[c]⟩, ?_, rep_of, Ext.refl, s⟩
    simp [signs, List.getElem?_map, hc]
  stop := fun H M e s k => by
    have : (signs x).length = x.cps.size := by simp [signs]
    rw [this]
    exact Nat.le_refl _

/-! for over a list, a tuple, a text -/
def dWalk (te : DE) : DI := fun env M R E => te env M (fun d M1 => match d with
  | .tup ds => R ⟨ds, fun _ => True⟩ M1
  | .v (.str x) => R ⟨signs x, fun _ => True⟩ M1
  | .v (.ref a) => match M1 a with
    | some (.lst ds) => R ⟨ds, fun M => M a = some (.lst ds) ∨ M a = some (.rol ds)⟩ M1
    | some (.rol ds) => R ⟨ds, fun M => M a = some (.lst ds) ∨ M a = some (.rol ds)⟩ M1
    | _ => False
  | _ => False) E
section
variable {X : Cx} {W : WX} {tg e : Expr} {te : DE} {pos p : Pos}
theorem iter_list {pins : List (Addr × Obj)} {σ : L2.St} {H : Hp} {s : Shared} {a : Addr} {us : List V} {R : It → Hp → Prop} (I : Inv X pins σ H s) (h : SqL X.K H a us) (q : R (Itl X.K a) H) : wpAny (model X.prog X.w) X.A (pyIter (.ref a)) (PIE X pins σ tg R) X.xe s := by
  obtain ⟨its, rv, p, hz⟩ := I.list h
  exact wpAny_pyIter_list p.isList (pi_one (tk := s.toks) I _ (turn_list a _) ⟨_, Heap.get?_push_size _ rfl, rfl, rfl⟩ q)
theorem iter_tup {pins : List (Addr × Obj)} {σ : L2.St} {H : Hp} {s : Shared} {a : Addr} {us : List V} {R : It → Hp → Prop} (I : Inv X pins σ H s) (h : SqT X.K H a us) (q : R (Itt X.K a) H) : wpAny (model X.prog X.w) X.A (pyIter (.ref a)) (PIE X pins σ tg R) X.xe s := by
  obtain ⟨its, rv, p, hz⟩ := I.tuple h
  exact wpAny_pyIter_tuple (show s.heap.IsTuple a its.toArray from p) (pi_one (tk := s.toks) I _ (turn_tuple a _) ⟨_, Heap.get?_push_size _ rfl, rfl, rfl⟩ q)
theorem iter_str {pins : List (Addr × Obj)} {σ : L2.St} {H : Hp} {s : Shared} {x : Str} {t : Tok} {R : It → Hp → Prop} (I : Inv X pins σ H s) (q : R (Its x) H) : wpAny (model X.prog X.w) X.A (pyIter (.str x t)) (PIE X pins σ tg R) X.xe s := by
  cases hx : x.cps.all (· < 128) with
  | false => exact wpAny_pyIter_wide hx (pi_one (tk := s.toks) I _ (turn_str _ x t "str_iterator" (.inr rfl)) ⟨_, Heap.get?_push_size _ rfl, rfl, rfl⟩ q)
  | true => exact wpAny_pyIter_ascii hx (pi_one (tk := s.toks) I _ (turn_str _ x t "str_ascii_iterator" (.inl rfl)) ⟨_, Heap.get?_push_size _ rfl, rfl, rfl⟩ q)
theorem xi_walk (he : XE X W e te) : XI X W tg e (dWalk te) := by
  refine ⟨fun env M Q Q' E E' hQ hE => he.mono env M _ _ _ _ (fun d M1 => ?_) hE, ⟨fun pins s σ H R I h => ?_⟩⟩
  · cases d with
    | tup ds => exact hQ _ _
    | v x => cases x with
      | str z => exact hQ _ _
      | ref a =>
        dsimp only
        cases M1 a with
        | none => exact id
        | some o => cases o <;> first | exact id | exact hQ _ _
      | _ => exact id
  · obtain ⟨env, M, re, sm, h⟩ := h
    have q : liftE X.K W te σ H fun u H1 => (∃ a us, u = .ref a ∧ SqL X.K H1 a us ∧ R (Itl X.K a) H1) ∨ (∃ a us, u = .ref a ∧ SqT X.K H1 a us ∧ R (Itt X.K a) H1) ∨ ∃ x, u = .str x ∧ R (Its x) H1 := by
      refine stepE he.mono re sm h (fun d M1 u H1 e1 s1 re1 r1 q => ?_) fun _ _ _ z => z
      split at q
      · obtain ⟨a, us, rfl, q1, l1⟩ := rep_tup r1
        exact .inr (.inl ⟨a, us, rfl, q1, q _ H1 e1 s1 (rep_tupI q1 l1)⟩)
      · exact .inr (.inr ⟨_, rep_v r1, q _ H1 e1 s1 rep_str⟩)
      · split at q <;> first | exact q.elim | skip
        · rename_i hm
          obtain ⟨us, q1, l1⟩ := s1.seq (.inl hm)
          exact .inl ⟨_, us, rep_v r1, q1, q _ H1 e1 s1 rep_list⟩
        · rename_i hm
          obtain ⟨us, q1, l1⟩ := s1.seq (.inr hm)
          exact .inl ⟨_, us, rep_v r1, q1, q _ H1 e1 s1 rep_list⟩
      · exact q.elim
    refine thn (he.pe.run pins s σ H _ I q) fun v s1 ⟨u, H1, I1, r1, q1⟩ => ?_
    rcases q1 with ⟨a, us, rfl, q2, q3⟩ | ⟨a, us, rfl, q2, q3⟩ | ⟨x, rfl, q3⟩
    · obtain rfl : v = Value.ref a := r1
      exact iter_list I1 q2 q3
    · obtain rfl : v = Value.ref a := r1
      exact iter_tup I1 q2 q3
    · obtain ⟨t, rfl⟩ := r1
      exact iter_str I1 q3
def dRange1 (ta : DA) : DI := fun env M R E => ta env M (fun ds M1 => match ds with
  | [.v (.int j)] => (-(2 ^ 62) ≤ j ∧ j < 2 ^ 62) ∧ R ⟨rg 0 j.toNat, fun _ => True⟩ M1
  | _ => False) E
def dRange2 (ta : DA) : DI := fun env M R E => ta env M (fun ds M1 => match ds with
  | [.v (.int i), .v (.int j)] => (-(2 ^ 62) ≤ i ∧ i < 2 ^ 62 ∧ -(2 ^ 62) ≤ j ∧ j < 2 ^ 62) ∧ R ⟨rg i (j - i).toNat, fun _ => True⟩ M1
  | _ => False) E
variable {a b : Expr} {ta : DA}
theorem ran1_mono : ∀ (ds : List D) (M1 : Mem) {Q Q' : DIt → Mem → Prop} (_ : ∀ d M, Q d M → Q' d M), (match ds with
  | [.v (.int j)] => (-(2 ^ 62) ≤ j ∧ j < 2 ^ 62) ∧ Q ⟨rg 0 j.toNat, fun _ => True⟩ M1
  | _ => False) → (match ds with
  | [.v (.int j)] => (-(2 ^ 62) ≤ j ∧ j < 2 ^ 62) ∧ Q' ⟨rg 0 j.toNat, fun _ => True⟩ M1
  | _ => False)
  | [], _, _, _, _ => id
  | [.tup _], _, _, _, _ => id
  | [.v x], _, _, _, hQ => by cases x <;> first | exact id | exact fun h => ⟨h.1, hQ _ _ h.2⟩
  | .v x :: _ :: _, _, _, _, hQ => by cases x <;> exact id
  | .tup _ :: _ :: _, _, _, _, _ => id
theorem xi_range1 (hg : Gl X "range") (hm : X.mg "range" = none) (ha : XA X W [a] ta) (hs : starEach [a] X.env = [(false, eval a X.env)] := by rfl) : XI X W tg (.Call (.Name "range" p) [a] [] pos) (dRange1 ta) := by
  refine ⟨fun env M Q Q' E E' hQ hE => ha.mono env M _ _ _ _ (fun ds M1 => ran1_mono ds M1 hQ) hE, PIw (pi_range1 hg hm ha.pa hs) ?_⟩
  rintro σ H R ⟨env, M, re, s, h⟩
  refine stepA ha.mono re s h (fun ds M1 us H1 e1 s1 re1 r1 q => ?_) fun _ _ _ z => z
  split at q <;> first | exact q.elim | skip
  obtain ⟨u, rfl, q1⟩ := rl1 r1
  rw [rep_v q1]
  exact ⟨_, rfl, q.1.1, q.1.2, q.2 _ H1 e1 s1 rep_range⟩
theorem xi_range2 (hg : Gl X "range") (hm : X.mg "range" = none) (ha : XA X W [a, b] ta) (hs : starEach [a, b] X.env = [(false, eval a X.env), (false, eval b X.env)] := by rfl) (hs2 : starEach [b] X.env = [(false, eval b X.env)] := by rfl) :
    XI X W tg (.Call (.Name "range" p) [a, b] [] pos) (dRange2 ta) := by
  refine ⟨fun env M Q Q' E E' hQ hE h => ?_, PIw (pi_range2 hg hm ha.pa hs hs2) ?_⟩
  · refine ha.mono env M _ _ _ _ (fun ds M1 q => ?_) hE h
    split at q <;> first | exact q.elim | exact ⟨q.1, hQ _ _ q.2⟩
  rintro σ H R ⟨env, M, re, s, h⟩
  refine stepA ha.mono re s h (fun ds M1 us H1 e1 s1 re1 r1 q => ?_) fun _ _ _ z => z
  split at q <;> first | exact q.elim | skip
  obtain ⟨u, v, rfl, q1, q2⟩ := rl2 r1
  rw [rep_v q1, rep_v q2]
  exact ⟨_, _, rfl, q.1, q.2 _ H1 e1 s1 rep_range⟩
end

/-! the for statement: a recursion over the items -/
def dLoop (keep : Mem → Prop) (p : Pat) (tb : DS) (Z : DEnds) : List D → DEnv → Mem → Prop
  | [], env, M => keep M ∧ Z.nx env M
  | x :: r, env, M => keep M ∧ match p.bind M x env with
    | some env1 => tb { Z with nx := dLoop keep p tb Z r, ct := dLoop keep p tb Z r, bk := Z.nx } env1 M
    | none => False
def dFor (ti : DI) (p : Pat) (tb : DS) : DS := fun D env M => ti env M (fun J M1 => dLoop J.keep p tb D J.items env M1) (fun c f M1 => D.ex c f env M1)
theorem dLoop_mono {keep : Mem → Prop} {p : Pat} {tb : DS} (hb : MonoS tb) {Z Z' : DEnds} (l : Z.Le Z') : ∀ (xs : List D) (env : DEnv) (M : Mem), dLoop keep p tb Z xs env M → dLoop keep p tb Z' xs env M
  | [], env, M, h => ⟨h.1, l.nx _ _ h.2⟩
  | x :: r, env, M, h => by
    refine ⟨h.1, ?_⟩
    have h2 := h.2
    split
    · rename_i env1 hb1
      rw [hb1] at h2
      exact hb { Z with nx := dLoop keep p tb Z r, ct := dLoop keep p tb Z r, bk := Z.nx } _ _ _ ⟨dLoop_mono hb l r, l.rt, l.nx, dLoop_mono hb l r, l.ex⟩ h2
    · rename_i hb1
      rw [hb1] at h2
      exact h2
section
variable {X : Cx} {W : WX} {tg iter c : Expr} {body : List Stmt} {ti : DI} {p : Pat} {tb : DS} {tc : DT} {pos : Pos}
theorem xs_for (hp : PassesOwn (model X.prog X.w) X.A X.env X.xe) (hc : X.calm = true) (hi : XI X W tg iter ti) (hg : PG X tg (p.tg X.K)) (hb : XSs X W body tb) (hs : ∀ x, foldedSetIterable iter X.env x = pure x := by intro _; rfl) :
    XS X W (.For tg iter body [] pos) (dFor ti p tb) := by
  refine ⟨fun D D' env M l h => hi.mono _ _ _ _ _ _ (fun J M1 => dLoop_mono hb.mono l _ _ _) (fun c f M1 => l.ex c f _ M1) h, PSw (ps_for hp hc hi.pi hg hb.ps hs) ?_⟩
  rintro D σ H ⟨env, M, re, s, h⟩
  refine ⟨env, M, re, s, hi.mono _ _ _ _ _ _ (fun J M1 q J' H1 e1 s1 ir => ?_) (ends_ex re) h⟩
  refine ⟨fun i m σ' H' => m = J.items.length - i ∧ i ≤ J.items.length ∧ Ext X.K H1 H' ∧ ∃ env M, RepE X.K H' env σ' ∧ Sim X.K H' M ∧ dLoop J.keep p tb (upEnds X.K W H D) (J.items.drop i) env M,
    ⟨J.items.length, by simp, Nat.zero_le _, Ext.refl, env, M1, re.mono e1, s1, by simpa using q⟩, ?_⟩
  rintro i m σ2 H2 ⟨rfl, hi2, e2, env2, M2, re2, s2, q2⟩
  by_cases hlt : i < J.items.length
  · rw [List.drop_eq_getElem_cons hlt] at q2
    obtain ⟨kp, q2⟩ := q2
    refine .inr ⟨ir.go i H2 M2 e2 s2 kp hlt, fun σ' H' => Ext X.K H1 H' ∧ ∃ env M, RepE X.K H' env σ' ∧ Sim X.K H' M ∧ dLoop J.keep p tb (upEnds X.K W H D) (J.items.drop (i + 1)) env M, fun σ' H' n => ⟨_, by omega, rfl, hlt, n⟩, fun x H3 y => ?_⟩
    obtain ⟨d, hd, r3, e3, s3⟩ := ir.yld i H2 M2 x H3 e2 s2 kp hlt y
    rw [List.getElem?_eq_getElem hlt] at hd
    obtain rfl := Option.some.inj hd
    split at q2
    · rename_i env3 hb3
      obtain ⟨σ3, h1, _, h3⟩ := Pat.rep s3 p.slots p r3 (re2.mono e3) hb3 (fun _ h => h)
      refine h3 _ ⟨env3, M2, h1, s3, hb.mono _ _ _ _ ⟨?_, ?_, ?_, ?_, ?_⟩ q2⟩
      · exact fun env4 M4 n σ4 H4 e4 s4 re4 => ⟨(e2.trans e3).trans e4, env4, M4, re4, s4, n⟩
      · exact upK_mono ((e1.trans e2).trans e3)
      · exact upN_mono ((e1.trans e2).trans e3)
      · exact fun env4 M4 n σ4 H4 e4 s4 re4 => ⟨(e2.trans e3).trans e4, env4, M4, re4, s4, n⟩
      · exact fun c f env4 M4 n d σ4 H4 e4 s4 re4 x4 => n d σ4 H4 (((e1.trans e2).trans e3).trans e4) s4 re4 x4
    · exact q2.elim
  · have e : i = J.items.length := by omega
    subst e
    rw [List.drop_length] at q2
    exact .inl ⟨ir.stop H2 M2 e2 s2 q2.1, q2.2 σ2 H2 (e1.trans e2) s2 re2⟩

/-! while: some number of turns is enough -/
def dWhileN (tc : DT) (tb : DS) (D : DEnds) : Nat → DEnv → Mem → Prop
  | 0, _, _ => False
  | n + 1, env, M => tc env M (fun b M1 => if b = true then tb { D with nx := dWhileN tc tb D n, ct := dWhileN tc tb D n, bk := D.nx } env M1 else D.nx env M1) (fun c f M1 => D.ex c f env M1)
def dWhile (tc : DT) (tb : DS) : DS := fun D env M => ∃ n, dWhileN tc tb D n env M
theorem dWhileN_mono {tc : DT} {tb : DS} (hc : MonoT tc) (hb : MonoS tb) {D D' : DEnds} (l : D.Le D') : ∀ (n : Nat) (env : DEnv) (M : Mem), dWhileN tc tb D n env M → dWhileN tc tb D' n env M
  | 0, _, _, h => h
  | n + 1, env, M, h => by
    refine hc _ _ _ _ _ _ (fun b M1 => ?_) (fun c f M1 => l.ex c f _ M1) h
    cases b with
    | true => rw [if_pos rfl, if_pos rfl]; exact hb _ _ _ _ ⟨dWhileN_mono hc hb l n, l.rt, l.nx, dWhileN_mono hc hb l n, l.ex⟩
    | false => rw [if_neg Bool.false_ne_true, if_neg Bool.false_ne_true]; exact l.nx _ _
theorem xs_while (hp : PassesOwn (model X.prog X.w) X.A X.env X.xe) (hc : XT X W c tc) (hb : XSs X W body tb) : XS X W (.While c body [] pos) (dWhile tc tb) := by
  refine ⟨fun D D' env M l h => h.imp fun n => dWhileN_mono hc.mono hb.mono l n env M, PSw (ps_while hp hc.pt hb.ps) ?_⟩
  rintro D σ H ⟨env, M, re, s, n, h⟩
  refine ⟨fun m σ' H' => Ext X.K H H' ∧ ∃ env M, RepE X.K H' env σ' ∧ Sim X.K H' M ∧ dWhileN tc tb (upEnds X.K W H D) m env M, ⟨n, Ext.refl, env, M, re, s, h⟩, ?_⟩
  rintro m σ1 H1 ⟨e1, env1, M1, re1, s1, h1⟩
  match m, h1 with
  | m + 1, h1 =>
    refine stepT hc.mono re1 s1 h1 (fun b M2 H2 e2 s2 re2 q => ?_) fun c f M' z d H' e s' r => z d σ1 H' (e1.trans e) s' (re1.mono e) r
    cases b with
    | true =>
      rw [if_pos rfl] at q ⊢
      refine ⟨fun σ' H' => Ext X.K H H' ∧ ∃ env M, RepE X.K H' env σ' ∧ Sim X.K H' M ∧ dWhileN tc tb (upEnds X.K W H D) m env M, fun σ' H' z => ⟨m, Nat.lt_succ_self _, z⟩, env1, M2, re2, s2, hb.mono _ _ _ _ ⟨?_, ?_, ?_, ?_, ?_⟩ q⟩
      · exact fun env4 M4 n σ4 H4 e4 s4 re4 => ⟨(e1.trans e2).trans e4, env4, M4, re4, s4, n⟩
      · exact upK_mono (e1.trans e2)
      · exact upN_mono (e1.trans e2)
      · exact fun env4 M4 n σ4 H4 e4 s4 re4 => ⟨(e1.trans e2).trans e4, env4, M4, re4, s4, n⟩
      · exact fun c f env4 M4 n d σ4 H4 e4 s4 re4 x4 => n d σ4 H4 ((e1.trans e2).trans e4) s4 re4 x4
    | false =>
      rw [if_neg Bool.false_ne_true] at q ⊢
      exact q σ1 H2 (e1.trans e2) s2 re2
end
end PL

namespace PL
open PySem PySem.Spec PyProof.Rows L2

/-! list comprehensions -/
def wipeD (env : DEnv) : List Nat → DEnv
  | [] => env
  | v :: vs => (wipeD env vs).set v none
theorem RepE.clear {K : PySem.W.Frag} {H : Hp} {env : DEnv} {σ : L2.St} (r : RepE K H env σ) (v : Nat) : RepE K H (env.set v none) (σ.set v none) := by
  refine ⟨by simp [r.1], fun i d q => ?_⟩
  by_cases hj : v = i
  · subst hj
    by_cases hi : v < env.length
    · rw [List.getElem?_set_self hi] at q; cases q
    · rw [List.getElem?_eq_none (by simpa using hi)] at q; cases q
  · rw [List.getElem?_set_ne hj] at q ⊢
    exact r.2 i d q
theorem RepE.wipe {K : PySem.W.Frag} {H : Hp} {env : DEnv} {σ : L2.St} (r : RepE K H env σ) : ∀ vs : List Nat, RepE K H (wipeD env vs) (L2.wipe σ vs)
  | [] => r
  | v :: vs => (r.wipe vs).clear v
theorem wipe_wipe {σ : L2.St} : ∀ vs : List Nat, L2.wipe (L2.wipe σ vs) vs = L2.wipe σ vs := by
  have comm : ∀ (vs : List Nat) (σ : L2.St) (v : Nat), L2.wipe (σ.set v none) vs = (L2.wipe σ vs).set v none := by
    intro vs
    induction vs with
    | nil => intro σ v; rfl
    | cons w ws ih =>
      intro σ v
      show (L2.wipe (σ.set v none) ws).set w none = ((L2.wipe σ ws).set w none).set v none
      rw [ih]
      by_cases e : v = w
      · subst e; rfl
      · rw [List.set_comm _ _ e]
  intro vs
  induction vs with
  | nil => rfl
  | cons v vs ih =>
    show (L2.wipe ((L2.wipe σ vs).set v none) vs).set v none = (L2.wipe σ vs).set v none
    rw [comm, ih, List.set_set]
abbrev noX : DX := fun _ _ _ => False
/-- a: the new list; the items, what is made so far -/
def dLcGo (keep : Mem → Prop) (p : Pat) (tt : DT) (te : DE) (env : DEnv) (a : Addr) (Q : DK) : List D → List D → Mem → Prop
  | [], acc, M => keep M ∧ M a = some (.lst acc) ∧ Q (.ob a) M
  | x :: r, acc, M => keep M ∧ match p.bind M x env with
    | some env1 => tt env1 M (fun b M2 => if b = true then te env1 M2 (fun y M3 => M3 a = some (.lst acc) ∧ acc.length < sizeLine ∧ dLcGo keep p tt te env a Q r (acc ++ [y]) (mupd M3 a (.lst (acc ++ [y])))) noX else dLcGo keep p tt te env a Q r acc M2) noX
    | none => False
def dLc (ti : DI) (p : Pat) (tt : DT) (te : DE) (vs : List Nat) : DE := fun env M Q E => ti env M (fun J M1 => ∀ a, M1 a = none → dLcGo J.keep p tt te (wipeD env vs) a Q J.items [] (mupd M1 a (.lst []))) E
def dYes : DT := fun _ M Q _ => Q true M
theorem dYes_mono : MonoT dYes := fun _ _ _ _ _ _ hQ _ h => hQ _ _ h
theorem dLcGo_mono {keep : Mem → Prop} {p : Pat} {tt : DT} {te : DE} (ht : MonoT tt) (he : MonoE te) {env : DEnv} {a : Addr} {Q Q' : DK} (hQ : ∀ d M, Q d M → Q' d M) : ∀ (xs acc : List D) (M : Mem), dLcGo keep p tt te env a Q xs acc M → dLcGo keep p tt te env a Q' xs acc M
  | [], acc, M, h => ⟨h.1, h.2.1, hQ _ _ h.2.2⟩
  | x :: r, acc, M, h => by
    refine ⟨h.1, ?_⟩
    have h2 := h.2
    split
    · rename_i env1 hb1
      rw [hb1] at h2
      refine ht _ _ _ _ _ _ (fun b M2 => ?_) (fun _ _ _ z => z) h2
      cases b with
      | true =>
        rw [if_pos rfl, if_pos rfl]
        exact he _ _ _ _ _ _ (fun y M3 z => ⟨z.1, z.2.1, dLcGo_mono ht he hQ r _ _ z.2.2⟩) (fun _ _ _ z => z)
      | false =>
        rw [if_neg Bool.false_ne_true, if_neg Bool.false_ne_true]
        exact dLcGo_mono ht he hQ r _ _
    · rename_i hb1
      rw [hb1] at h2
      exact h2
abbrev W0 : WX := fun _ _ _ _ => False
structure XTs (X : Cx) (W : WX) (es : List Expr) (t : DT) : Prop where
  mono : MonoT t
  pts : PTs X es (liftT X.K W t)
theorem xts_nil {X : Cx} {W : WX} : XTs X W [] dYes := by
  refine ⟨dYes_mono, ⟨fun pins s σ H Q I h => ?_⟩⟩
  obtain ⟨env, M, re, sm, h⟩ := h
  exact pts_nil.run pins s σ H Q I (h H Ext.refl sm)
theorem xts_one {X : Cx} {W : WX} {c : Expr} {t : DT} (h : XT X W c t) : XTs X W [c] t := ⟨h.mono, pts_one h.pt⟩

section
variable {X : Cx} {W : WX} {elt tg iter : Expr} {ifs : List Expr} {scope : Scope} {own : List (Str × Nat)} {pos : Pos} {ti : DI} {p : Pat} {tt : DT} {te : DE}
theorem lc_up (hi : XI X W tg iter ti) (mt : MonoT tt) (me : MonoE te) (vs : List Nat) (hv : ∀ i ∈ p.slots, i ∈ vs) : ∀ σ H Q, liftE X.K W (dLc ti p tt te vs) σ H Q → tLc (liftI X.K W ti) (p.tg X.K) (liftT X.K W0 tt) (liftE X.K W0 te) vs σ H Q := by
  rintro σ H Q ⟨env, M, re, s, h⟩
  refine ⟨env, M, re, s, hi.mono _ _ _ _ _ _ (fun J M1 q J' H1 e1 s1 ir => ?_) (fun _ _ _ z => z) h⟩
  intro a ha
  have q := q a (s1.free ha)
  have sA : Sim X.K (upd H1 a (.lst [])) (mupd M1 a (.lst [])) := s1.new ha (repO_lst (Ext.new ha) .nil)
  have eA : Ext X.K H1 (upd H1 a (.lst [])) := Ext.new ha
  refine ⟨fun i m H' => m = J.items.length - i ∧ i ≤ J.items.length ∧ Ext X.K H1 H' ∧ ∃ M acc, Sim X.K H' M ∧ dLcGo J.keep p tt te (wipeD env vs) a (upK X.K H Q) (J.items.drop i) acc M,
    ⟨J.items.length, by simp, Nat.zero_le _, eA, _, [], sA, by simpa using q⟩, ?_⟩
  rintro i m H2 ⟨rfl, hi2, e2, M2, acc, s2, q2⟩
  by_cases hlt : i < J.items.length
  · rw [List.drop_eq_getElem_cons hlt] at q2
    obtain ⟨kp, q2⟩ := q2
    refine .inr ⟨ir.go i H2 M2 e2 s2 kp hlt, fun H' => Ext X.K H1 H' ∧ ∃ M acc, Sim X.K H' M ∧ dLcGo J.keep p tt te (wipeD env vs) a (upK X.K H Q) (J.items.drop (i + 1)) acc M, fun H' n => ⟨_, by omega, rfl, hlt, n⟩, fun x H3 y => ?_⟩
    obtain ⟨d, hd, r3, e3, s3⟩ := ir.yld i H2 M2 x H3 e2 s2 kp hlt y
    rw [List.getElem?_eq_getElem hlt] at hd
    obtain rfl := Option.some.inj hd
    split at q2
    · rename_i env3 hb3
      have re3 : RepE X.K H3 (wipeD env vs) (L2.wipe σ vs) := (re.mono ((e1.trans e2).trans e3)).wipe vs
      obtain ⟨σ3, h1, hw, h3⟩ := Pat.rep s3 vs p r3 re3 hb3 hv
      refine h3 _ ⟨hw.trans (wipe_wipe vs), ?_⟩
      refine stepT mt h1 s3 q2 (fun b M4 H4 e4 s4 re4 q4 => ?_) fun _ _ _ z => z.elim
      cases b with
      | true =>
        rw [if_pos rfl] at q4 ⊢
        refine stepE me re4 s4 q4 (fun y M5 u H5 e5 s5 re5 r5 q5 => ?_) fun _ _ _ z => z.elim
        obtain ⟨ma5, lz, q5⟩ := q5
        obtain ⟨us, h5, l5⟩ := s5.lst ma5
        have ex : Ext X.K H5 (upd H5 a (.lst (us ++ [u]))) := Ext.mut h5 True.intro
        refine ⟨us, h5, by rw [l5.length]; exact lz, (((e2.trans e3).trans e4).trans e5).trans ex, _, _, s5.put h5 True.intro (repO_lst ex (RepL.append l5 (.cons r5 .nil))), q5⟩
      | false =>
        rw [if_neg Bool.false_ne_true] at q4 ⊢
        exact ⟨(e2.trans e3).trans e4, M4, acc, s4, q4⟩
    · exact q2.elim
  · have e : i = J.items.length := by omega
    subst e
    rw [List.drop_length] at q2
    exact .inl ⟨ir.stop H2 M2 e2 s2 q2.1, q2.2.2 (.ref a) H2 (e1.trans e2) s2 rep_of⟩
theorem dLc_mono {vs : List Nat} (hi : MonoI ti) (mt : MonoT tt) (me : MonoE te) : MonoE (dLc ti p tt te vs) := fun env M Q Q' E E' hQ hE => hi _ _ _ _ _ _ (fun J M1 q a ha => dLcGo_mono mt me hQ _ _ _ (q a ha)) hE
abbrev BlkAll (X : Cx) (scope : Scope) (P : Cx → Prop) : Prop := ∀ (s : Shared) (H : Hp) (C : Addr) (cl : List (Str × Addr)) (fp : List Addr), P (X.blk s H scope (compEnvC scope cl C X.env) fp)
theorem xe_lc (hc : X.calm = true) (hN : X.N.Nodup) (hi : XI X W tg iter ti) (ok : BlkOk X.N X.env.scope scope own) (hg : BlkAll X scope fun Y => PG Y tg (p.tg X.K)) (ht : BlkAll X scope fun Y => XTs Y W0 ifs tt) (he : BlkAll X scope fun Y => XE Y W0 elt te)
    (hv : p.slots.all (fun i => decide (i ∈ own.map (·.2))) = true := by decide) (hs : ∀ x, foldedSetIterable iter X.env x = pure x := by intro _; rfl) : XE X W (.ListComp elt [⟨tg, iter, ifs, 0⟩] scope pos) (dLc ti p tt te (own.map (·.2))) := by
  have mt := (ht X.s_0 X.H_0 0 [] []).mono
  have me := (he X.s_0 X.H_0 0 [] []).mono
  refine ⟨dLc_mono hi.mono mt me, PEw (pe_lc (g := p.tg X.K) (tt := liftT X.K W0 tt) (te := liftE X.K W0 te) hc hN hi.pi ok hg (fun s H C cl fp => (ht s H C cl fp).pts) (fun s H C cl fp => (he s H C cl fp).pe) hs) (lc_up hi mt me _ fun i h => ?_)⟩
  exact of_decide_eq_true (List.all_eq_true.mp hv i h)
theorem xs_setLc (i : Nat) {y : Str} {py : Pos} {spos : Pos} (hc : X.calm = true) (hN : X.N.Nodup) (hyl : X.env.scope.names.lookup y = some .local) (hsw : swapsWith (.ListComp elt [⟨tg, iter, ifs, 0⟩] scope pos) (some (.Name y py)) spos.line X.env = pure true)
    (hi : XI X W tg iter ti) (ok : BlkOk X.N X.env.scope scope own) (hg : BlkAll X scope fun Y => PG Y tg (p.tg X.K)) (ht : BlkAll X scope fun Y => XTs Y W0 ifs tt) (he : BlkAll X scope fun Y => XE Y W0 elt te)
    (hy : X.N[i]? = some y := by rfl) (hv : p.slots.all (fun i => decide (i ∈ own.map (·.2))) = true := by decide) (hs : ∀ x, foldedSetIterable iter X.env x = pure x := by intro _; rfl) :
    XS X W (.Assign [.Name y py] (.ListComp elt [⟨tg, iter, ifs, 0⟩] scope pos) spos) (dAsg (dLc ti p tt te (own.map (·.2))) (.nm i)) := by
  have mt := (ht X.s_0 X.H_0 0 [] []).mono
  have me := (he X.s_0 X.H_0 0 [] []).mono
  have ml := dLc_mono (p := p) (vs := own.map (·.2)) hi.mono mt me
  refine ⟨dAsg_mono ml, PSw (ps_setLc (g := p.tg X.K) (tt := liftT X.K W0 tt) (te := liftE X.K W0 te) hc hN hy hyl hsw hi.pi ok hg (fun s H C cl fp => (ht s H C cl fp).pts) (fun s H C cl fp => (he s H C cl fp).pe) hs) ?_⟩
  rintro D σ H ⟨env, M, re, s, h⟩
  refine lc_up hi mt me _ (fun i h => of_decide_eq_true (List.all_eq_true.mp hv i h)) σ H _ (stepE ml re s h (fun d M1 u H1 e1 s1 re1 r1 q => ?_) (ends_ex re))
  exact q (σ.set i (some u)) H1 e1 s1 (re1.set r1 i)
end
end PL

namespace PL
open PySem PySem.Spec PyProof.Rows L2

/-! a def's body -/
abbrev bx (P : Program) (w : World) (K : PySem.W.Frag) (mg : Str → Option Value) (base : Heap) (N : List Str) (qual : Str) (st : Stmt) (f : Addr) (cdv : Value) (A : Around) (outer : List Env) (s : Shared) (H : Hp) (E : XK) : Cx :=
  cxOf (L2.CX P w) P w K mg base N qual (defScope st) f cdv A outer s H E
abbrev bW (E : XK) : WX := fun cls d _ H => E cls d H
theorem bx_takes {P : Program} {w : World} {K : PySem.W.Frag} {mg : Str → Option Value} {base : Heap} {N : List Str} {qual : Str} {st : Stmt} {f : Addr} {cdv : Value} {A : Around} {outer : List Env} {s : Shared} {H : Hp} {E : XK} : Takes (bx P w K mg base N qual st f cdv A outer s H E) (bW E) := takes_of rfl rfl rfl rfl
theorem bx_passes {P : Program} {w : World} {K : PySem.W.Frag} {mg : Str → Option Value} {base : Heap} {N : List Str} {qual : Str} {st : Stmt} {f : Addr} {cdv : Value} {A : Around} {outer : List Env} {s : Shared} {H : Hp} {E : XK} :
    PassesOwn (model (bx P w K mg base N qual st f cdv A outer s H E).prog (bx P w K mg base N qual st f cdv A outer s H E).w) (bx P w K mg base N qual st f cdv A outer s H E).A (bx P w K mg base N qual st f cdv A outer s H E).env (bx P w K mg base N qual st f cdv A outer s H E).xe := passes_of rfl
def startD (N : List Str) (ds : List D) : DEnv := ds.map some ++ List.replicate (N.length - ds.length) none
theorem rep_start {K : PySem.W.Frag} {H : Hp} {N : List Str} {ds : List D} {vs : List V} (r : RepL K H ds vs) : RepE K H (startD N ds) (L2.start N vs) := by
  refine ⟨by simp [startD, L2.start, r.length], fun i d h => ?_⟩
  have hi : i < ds.length := by
    by_cases hi : i < ds.length
    · exact hi
    · unfold startD at h
      rw [List.getElem?_append_right (by simpa using hi), List.getElem?_replicate] at h
      split at h <;> cases h
  unfold startD at h
  rw [List.getElem?_append_left (by simpa using hi), List.getElem?_map] at h
  cases e : ds[i]? with
  | none => rw [e] at h; cases h
  | some d' =>
    rw [e] at h
    cases h
    obtain ⟨u, h1, h2⟩ := r.get e
    refine ⟨u, ?_, h2⟩
    unfold L2.start
    rw [List.getElem?_append_left (by simpa [r.length] using hi), List.getElem?_map, h1]
    rfl
def retEnds (Q : DK) (E : DX) : DEnds := { nx := fun _ M' => Q .non M', rt := Q, ex := fun c fs _ M' => E c fs M' }
theorem fn_ok {P : Program} {w : World} {K : PySem.W.Frag} {mg : Str → Option Value} {base : Heap} {x qual : Str} {st : Stmt} {f : Addr} {fd : FuncData} {N ps : List Str} {k : Nat} {sp : DSp} (F : Fun K x qual st f fd) (S : FnScope N ps (defScope st))
    (len : ∀ ds M Q E, sp ds M Q E → ds.length = ps.length)
    (hb : ∃ t : DS, (∀ cdv A outer s H E, Room k (A.deeper (envOfC qual (defScope st) s.heap.objs.size f cdv)) → XSs (bx P w K mg base N qual st f cdv A outer s H E) (bW E) (defBody st) t) ∧
      ∀ ds M Q E, sp ds M Q E → t (retEnds Q E) (startD N ds) M) : FnOk P w K mg base (L2.CX P w) (k + 1) f fd ps (liftSp K sp) := by
  obtain ⟨t, ht, hq⟩ := hb
  refine F.okX S (fun vs H Q E h => ?_) (fun cdv A outer s H vs Q E hr h => ?_)
  · obtain ⟨ds, M, r, _, h⟩ := h
    rw [r.length]
    exact len _ _ _ _ h
  · obtain ⟨ds, M, r, sm, h⟩ := h
    refine ⟨_, (ht cdv A outer s H E hr).ps, startD N ds, M, rep_start r, sm, (ht cdv A outer s H E hr).mono _ _ _ _ ⟨?_, ?_, ?_, ?_, ?_⟩ (hq _ _ _ _ h)⟩
    · exact fun e M' q σ' H' e' s' _ => q .non H' e' s' rep_of
    · exact fun d M' q => q
    · exact fun e M' q => q.elim
    · exact fun e M' q => q.elim
    · exact fun c fs e M' q d σ' H' e' s' _ x => q d H' e' s' x
theorem _root_.L2.Room.u200 {k : Nat} {A : Around} (r : Room k A) : A.units + 200 < cLine := by have := r.un; omega
theorem mkFn {P : Program} {w : World} {K : PySem.W.Frag} {mg : Str → Option Value} {base : Heap} {x : Str} {f : Addr} {fd : FuncData} {ps : List Str} {k : Nat} {sp : DSp} (m : MonoSp sp) (F : FnOk P w K mg base (L2.CX P w) k f fd ps (liftSp K sp)) (hm : mg x = some (.ref f))
    (hk : PySem.W.keepIn K (.ref f) = true) (hb : Binds K fd ps []) : Fn P w K mg base k x sp [] := ⟨m, f, fd, ps, [], [], F, hm, hk, hb, .nil, fun _ => .nil⟩

theorem xe_globE {X : Cx} {W : WX} {x : Str} {v : V} {pos : Pos} (hg : Gl X x) (h : ∃ u, X.mg x = some u ∧ RelV v u) (hd : (x == ("__debug__" : Str)) = false := by decide) : XE X W (.Name x pos) (dC (.v v)) := by
  obtain ⟨u, hm, r⟩ := h
  exact xe_glob hg hm r hd

/-! raise -/
def dRaise (c : Value) (fs : List (Str × D)) : DS := fun Z env M => Z.ex c fs env M
section
variable {X : Cx} {W : WX} {pos : Pos}
theorem xs_raise0 {C : Addr} {e : Expr} (hc : X.calm = true) (tk : Takes X W) (h : PMk X e (fun _ H Q => Q (.ref C) none H)) : XS X W (.Raise (some e) none pos) (dRaise (.ref C) []) := by
  refine ⟨fun D D' env M l h => l.ex _ _ _ _ h, PSw (ps_raise hc tk h) ?_⟩
  rintro D σ H ⟨env, M, re, s, q⟩
  exact q none σ H Ext.refl s re rfl

/-! try: .. except C as n: .. -/
def suiteEnds (i : Nat) (Z : DEnds) : DEnds where
  nx := fun e' => Z.nx (e'.set i none)
  rt := Z.rt
  bk := fun e' => Z.bk (e'.set i none)
  ct := fun e' => Z.ct (e'.set i none)
theorem suiteEnds_le {i : Nat} {Z Z' : DEnds} (l : Z.Le Z') : (suiteEnds i Z).Le (suiteEnds i Z') := ⟨fun _ _ => l.nx _ _, l.rt, fun _ _ => l.bk _ _, fun _ _ => l.ct _ _, fun _ _ _ _ h => h⟩
def exTry (hd : Value → Option Bool) (i : Nat) (ts : Addr → Value → DS) (Z : DEnds) : Value → List (Str × D) → DEnv → Mem → Prop := fun c fs e M' => match hd c with
  | some true => fs = [] ∧ ∀ a, M' a = none → ts a c (suiteEnds i Z) (e.set i (some (.ob a))) M'
  | some false => Z.ex c fs e M'
  | none => False
theorem exTry_mono {hd : Value → Option Bool} {i : Nat} {ts : Addr → Value → DS} (mt : ∀ a c, MonoS (ts a c)) {Z Z' : DEnds} (l : Z.Le Z') : ∀ c fs e M', exTry hd i ts Z c fs e M' → exTry hd i ts Z' c fs e M' := fun c fs e M' q => by
  unfold exTry at q ⊢
  cases hq : hd c with
  | none => rw [hq] at q; exact q
  | some b =>
    rw [hq] at q
    cases b with
    | true => exact ⟨q.1, fun a ha => mt _ _ _ _ _ _ (suiteEnds_le l) (q.2 a ha)⟩
    | false => exact l.ex _ _ _ _ q
def dTryAs (hd : Value → Option Bool) (i : Nat) (tb : DS) (ts : Addr → Value → DS) : DS := fun Z env M => tb { Z with ex := exTry hd i ts Z } env M
theorem xs_tryAs {x n : Str} {c : Value} (i : Nat) {body suite : List Stmt} {b₀ : Stmt} {np pos' : Pos} {tb : DS} {ts : Addr → Value → DS} (hs : X.stack = X.env :: X.outer) (hf : X.env.frame = some X.env.locals) (hN : X.N.Nodup) (hln : X.env.kindOf n = some .local) (hc : Names X x c) (tk : Takes X W)
    (mt : ∀ a c, MonoS (ts a c)) (hb : ∀ (W : WX) (pn : List (Addr × Obj)) (xe : Value → Shared → Prop), Takes (X.tr pn xe) W → PassesOwn (model X.prog X.w) X.A X.env xe → XSs (X.tr pn xe) W body tb)
    (hsu : ∀ (a : Addr) (oe : Obj) (cls : Value) (pn : List (Addr × Obj)), Zc cls none oe → (∃ vs, oe.data = .fields vs) → XSs (X.suite a ((a, oe) :: pn)) W0 (b₀ :: suite) (ts a cls)) (mb : MonoS tb) (hi : X.N[i]? = some n := by rfl) :
    XS X W (.Try body [.ExceptHandler (some (.Name x np)) (some n) (b₀ :: suite) pos'] [] [] pos) (dTryAs (fun z => PySem.W.exmOne X.K z c) i tb ts) := by
  refine ⟨fun Z Z' env M l h => mb { Z with ex := exTry _ i ts Z } _ _ _ ⟨l.nx, l.rt, l.bk, l.ct, exTry_mono mt l⟩ h, PSw (ps_try_as (tb := fun W' => liftS X.K W' tb) (ts := fun a cls d D σ H => d = none ∧ liftS X.K W0 (ts a cls) D σ H) hs hf hN hi hln hc tk (fun W' pn xe t p => (hb W' pn xe t p).ps) fun a oe cls d pn hz hv => ?_) ?_⟩
  · refine ⟨fun pins s σ H D I h => ?_⟩
    obtain ⟨rfl, h⟩ := h
    exact (hsu a oe cls pn hz hv).ps.run pins s σ H D I h
  · rintro D σ H ⟨env, M, re, s, h⟩
    refine ⟨env, M, re, s, mb { upEnds X.K W H D with ex := exTry (fun z => PySem.W.exmOne X.K z c) i ts (upEnds X.K W H D) } _ _ _ ⟨fun _ _ q => q, fun _ _ q => q, fun _ _ q => q, fun _ _ q => q, fun c' fs e M' q d σ' H' e' s' re' rx => ?_⟩ h⟩
    have q : exTry (fun z => PySem.W.exmOne X.K z c) i ts (upEnds X.K W H D) c' fs e M' := q
    unfold exTry at q
    dsimp only at q
    cases hq : PySem.W.exmOne X.K c' c with
    | none => rw [hq] at q; exact q.elim
    | some b =>
      rw [hq] at q
      refine ⟨b, hq, ?_, ?_⟩
      · rintro rfl a ha
        obtain ⟨hfs, q⟩ := q
        have hd : d = none := by
          cases d with
          | none => rfl
          | some d => exact absurd hfs rx.1
        refine ⟨hd, e.set i (some (.ob a)), M', re'.set rep_of i, s', mt _ _ (suiteEnds i (upEnds X.K W H D)) _ _ _ ⟨?_, ?_, ?_, ?_, ?_⟩ (q a (s'.free ha))⟩
        · exact fun e2 M2 z σ2 H2 x2 s2 r2 => z (σ2.set i none) H2 (e'.trans x2) s2 (r2.clear i)
        · exact fun d2 M2 z u2 H2 x2 s2 r2 => z u2 H2 (e'.trans x2) s2 r2
        · exact fun e2 M2 z σ2 H2 x2 s2 r2 => z (σ2.set i none) H2 (e'.trans x2) s2 (r2.clear i)
        · exact fun e2 M2 z σ2 H2 x2 s2 r2 => z (σ2.set i none) H2 (e'.trans x2) s2 (r2.clear i)
        · exact fun c f e2 M2 z => z.elim
      · rintro rfl
        exact q d σ' H' e' s' re' rx
end
end PL

namespace PL
open PySem PySem.Spec PyProof.Rows L2

/-! stepping: each rule fires only where a reading has all its arguments -/
def DEnds.to (Z : DEnds) (n : DEnv → Mem → Prop) : DEnds := { Z with nx := n }
def DEnds.lp (Z : DEnds) (n : DEnv → Mem → Prop) : DEnds := { Z with nx := n, ct := n, bk := Z.nx }
def exK (Z : DEnds) (env : DEnv) : DX := fun c f M => Z.ex c f env M
def bifM (b : Bool) (f g : Mem → Prop) (M : Mem) : Prop := if b = true then f M else g M
def optB (b : Option Bool) (Q : Bool → Mem → Prop) (M : Mem) : Prop := match b with
  | some b => Q b M
  | none => False
def optE (e : Option DEnv) (Q : DEnv → Mem → Prop) (M : Mem) : Prop := match e with
  | some e => Q e M
  | none => False
def nxD (Z : DEnds) (env : DEnv) : DK := fun _ M => Z.nx env M
def ifK (t u : DS) (Z : DEnds) (env : DEnv) : Bool → Mem → Prop := fun b M => bifM b (t Z env) (u Z env) M
def asgK (p : Pat) (Z : DEnds) (env : DEnv) : DK := fun d M => optE (p.bind M d env) Z.nx M
def putK3 (o z : D) (Z : DEnds) (env : DEnv) : DK := fun i M => (opPut o i z M).run M (nxD Z env)
def putK2 (ti : DE) (z : D) (Z : DEnds) (env : DEnv) : DK := fun o M => ti env M (putK3 o z Z env) (exK Z env)
def putK1 (to ti : DE) (Z : DEnds) (env : DEnv) : DK := fun z M => to env M (putK2 ti z Z env) (exK Z env)
def augK2 (i : Nat) (Z : DEnds) (env : DEnv) : DK := fun z M => Z.nx (env.set i (some z)) M
def augK (i : Nat) (r : DOp2) (x : D) (Z : DEnds) (env : DEnv) : DK := fun y M => (r x y M).run M (augK2 i Z env)
def augV (i : Nat) (r : DOp2) (te : DE) (Z : DEnds) (env : DEnv) (M : Mem) : Option (Option D) → Prop
  | some (some x) => te env M (augK i r x Z env) (exK Z env)
  | _ => False
def varK (M : Mem) (Q : DK) : Option (Option D) → Prop
  | some (some x) => Q x M
  | _ => False
def binK2 (r : DOp2) (x : D) (Q : DK) : DK := fun y M => (r x y M).run M Q
def binK1 (r : DOp2) (tb : DE) (env : DEnv) (Q : DK) (E : DX) : DK := fun x M => tb env M (binK2 r x Q) E
def cbK (r : DCall) (Q : DK) : List D → Mem → Prop := fun ds M => (r ds M).run M Q
def callK (sp : DSp) (dvs : List D) (Q : DK) (E : DX) : List D → Mem → Prop := fun ds M => sp (ds ++ dvs) M Q E
def mK2 (r : DMeth) (x : D) (Q : DK) : List D → Mem → Prop := fun ds M => (r x ds M).run M Q
def mK1 (T : String) (r : DMeth) (t : DA) (env : DEnv) (Q : DK) (E : DX) : DK := fun x M => isTy T x M ∧ t env M (mK2 r x Q) E
def consK2 (d : D) (Q : List D → Mem → Prop) : List D → Mem → Prop := fun ds M => Q (d :: ds) M
def consK1 (tr : DA) (env : DEnv) (Q : List D → Mem → Prop) (E : DX) : DK := fun d M => tr env M (consK2 d Q) E
def tupK (n : Nat) (Q : DK) : List D → Mem → Prop := fun ds M => ds.length = n ∧ Q (.tup ds) M
def lstK (n : Nat) (Q : DK) : List D → Mem → Prop := fun ds M => ds.length = n ∧ (Res.new True (.lst ds)).run M Q
def trK (Q : Bool → Mem → Prop) : DK := fun d M => optB (truth M d) Q M
def tK (u : DT) (env : DEnv) (Q : Bool → Mem → Prop) (E : DX) : Mem → Prop := fun M => u env M Q E
def eK (u : DE) (env : DEnv) (Q : DK) (E : DX) : Mem → Prop := fun M => u env M Q E
def cK {α : Type} (x : α) (Q : α → Mem → Prop) : Mem → Prop := fun M => Q x M
def andK (u : DT) (env : DEnv) (Q : Bool → Mem → Prop) (E : DX) : Bool → Mem → Prop := fun b M => bifM b (tK u env Q E) (cK false Q) M
def orK (u : DT) (env : DEnv) (Q : Bool → Mem → Prop) (E : DX) : Bool → Mem → Prop := fun b M => bifM b (cK true Q) (tK u env Q E) M
def notK (Q : Bool → Mem → Prop) : Bool → Mem → Prop := fun b M => Q (!b) M
def ifeK (ta tb : DE) (env : DEnv) (Q : DK) (E : DX) : Bool → Mem → Prop := fun b M => bifM b (eK ta env Q E) (eK tb env Q E) M
def andvK2 (d : D) (tb : DE) (env : DEnv) (Q : DK) (E : DX) : Bool → Mem → Prop := fun b M => bifM b (eK tb env Q E) (cK d Q) M
def orvK2 (d : D) (tb : DE) (env : DEnv) (Q : DK) (E : DX) : Bool → Mem → Prop := fun b M => bifM b (cK d Q) (eK tb env Q E) M
def andvK (tb : DE) (env : DEnv) (Q : DK) (E : DX) : DK := fun d M => optB (truth M d) (andvK2 d tb env Q E) M
def orvK (tb : DE) (env : DEnv) (Q : DK) (E : DX) : DK := fun d M => optB (truth M d) (orvK2 d tb env Q E) M
def blK (Q : DK) : Bool → Mem → Prop := fun b M => Q (.bl b) M
def notvK (Q : DK) : DK := fun d M => optB (truth M d) (notK (blK Q)) M
def negK (Q : DK) : DK := fun d M => match d with
  | .v (.int i) => Q (.int (-i)) M
  | _ => False
def slK3 (x : D) (l : Option Int) (Q : DK) : Option Int → Mem → Prop := fun u M => (opSl x l u M).run M Q
def slK2 (x : D) (th : DO) (env : DEnv) (Q : DK) (E : DX) : Option Int → Mem → Prop := fun l M => th env M (slK3 x l Q) E
def slK1 (tl th : DO) (env : DEnv) (Q : DK) (E : DX) : DK := fun x M => tl env M (slK2 x th env Q E) E
def partK (Q : Option Int → Mem → Prop) : DK := fun d M => match d with
  | .v (.int i) => Q (some i) M
  | _ => False
def revR : D → Mem → Res
  | .v (.ref a), M => match M a with
    | some (.lst ds) => .new True (.lst ds.reverse)
    | _ => .bad
  | _, _ => .bad
def revK (Q : DK) : DK := fun d M => (revR d M).run M Q
def forK (p : Pat) (tb : DS) (Z : DEnds) (env : DEnv) : DIt → Mem → Prop := fun J M => dLoop J.keep p tb Z J.items env M
def lcK (p : Pat) (tt : DT) (te : DE) (vs : List Nat) (env : DEnv) (Q : DK) : DIt → Mem → Prop := fun J M => ∀ a, M a = none → dLcGo J.keep p tt te (wipeD env vs) a Q J.items [] (mupd M a (.lst []))
def walkO (R : DIt → Mem → Prop) (a : Addr) (M : Mem) : Option Ob → Prop
  | some (.lst ds) => R ⟨ds, fun M => M a = some (.lst ds) ∨ M a = some (.rol ds)⟩ M
  | some (.rol ds) => R ⟨ds, fun M => M a = some (.lst ds) ∨ M a = some (.rol ds)⟩ M
  | _ => False
def walkR (R : DIt → Mem → Prop) : DK := fun d M => match d with
  | .tup ds => R ⟨ds, fun _ => True⟩ M
  | .v (.str x) => R ⟨signs x, fun _ => True⟩ M
  | .v (.ref a) => walkO R a M (M a)
  | _ => False
def rng1K (R : DIt → Mem → Prop) : List D → Mem → Prop := fun ds M => match ds with
  | [.v (.int j)] => (-(2 ^ 62) ≤ j ∧ j < 2 ^ 62) ∧ R ⟨rg 0 j.toNat, fun _ => True⟩ M
  | _ => False
def rng2K (R : DIt → Mem → Prop) : List D → Mem → Prop := fun ds M => match ds with
  | [.v (.int i), .v (.int j)] => (-(2 ^ 62) ≤ i ∧ i < 2 ^ 62 ∧ -(2 ^ 62) ≤ j ∧ j < 2 ^ 62) ∧ R ⟨rg i (j - i).toNat, fun _ => True⟩ M
  | _ => False
def clK (sp : DSp) (Q : DK) (E : DX) : List D → Mem → Prop := fun ds M => sp ds M Q E
def callLO (t : DA) (env : DEnv) (M : Mem) (Q : DK) (E : DX) : Option DSp → Prop
  | some sp => t env M (clK sp Q E) E
  | none => False
def callLK (S : Addr → Option DSp) (t : DA) (env : DEnv) (M : Mem) (Q : DK) (E : DX) : Option (Option D) → Prop
  | some (some (.v (.ref f))) => callLO t env M Q E (S f)
  | _ => False

section
variable {Z : DEnds} {env : DEnv} {M : Mem} {Q : DK} {E : DX} {n : DEnv → Mem → Prop}
theorem to_nx : (Z.to n).nx = n := id rfl
theorem to_rt : (Z.to n).rt = Z.rt := id rfl
theorem to_bk : (Z.to n).bk = Z.bk := id rfl
theorem to_ct : (Z.to n).ct = Z.ct := id rfl
theorem to_ex : (Z.to n).ex = Z.ex := id rfl
theorem lp_nx : (Z.lp n).nx = n := id rfl
theorem lp_rt : (Z.lp n).rt = Z.rt := id rfl
theorem lp_bk : (Z.lp n).bk = Z.nx := id rfl
theorem lp_ct : (Z.lp n).ct = n := id rfl
theorem lp_ex : (Z.lp n).ex = Z.ex := id rfl
theorem ret_nx {E : DX} : (retEnds Q E).nx env M = Q .non M := id rfl
theorem ret_rt {E : DX} : (retEnds Q E).rt = Q := id rfl
theorem ret_ex {E : DX} {c f} : (retEnds Q E).ex c f env M = E c f M := id rfl
theorem s_exK {c f} : exK Z env c f M = Z.ex c f env M := id rfl
theorem s_bif1 {f g} : bifM true f g M = f M := id rfl
theorem s_bif0 {f g} : bifM false f g M = g M := id rfl
theorem s_optB {b R} : optB (some b) R M = R b M := id rfl
theorem s_optE {e R} : optE (some e) R M = R e M := id rfl
theorem s_nxD {d} : nxD Z env d M = Z.nx env M := id rfl
theorem s_ifK {t u b} : ifK t u Z env b M = bifM b (t Z env) (u Z env) M := id rfl
theorem s_asgN {i d} : asgK (.nm i) Z env d M = Z.nx (env.set i (some d)) M := id rfl
theorem s_asgT {ps ds} : asgK (.tp ps) Z env (.tup ds) M = optE (bindL M ps ds env) Z.nx M := by simp only [asgK, Pat.bind, seqOf]
theorem s_asgL {ps a} : asgK (.tp ps) Z env (.ob a) M = optE ((Pat.tp ps).bind M (.ob a) env) Z.nx M := id rfl
theorem b_nil : bindL M [] [] env = some env := id rfl
theorem b_nm {i d ps ds} : bindL M (.nm i :: ps) (d :: ds) env = bindL M ps ds (env.set i (some d)) := id rfl
theorem b_tp {qs es ps ds} : bindL M (.tp qs :: ps) (.tup es :: ds) env = (match bindL M qs es env with | some e => bindL M ps ds e | none => none) := by simp only [bindL, Pat.bind, seqOf] <;> rfl
theorem s_next : dNext Z env M = Z.nx env M := id rfl
theorem s_seq {t u} : dSeq t u Z env M = t (Z.to (u Z)) env M := id rfl
theorem s_drop {te} : dDrop te Z env M = te env M (nxD Z env) (exK Z env) := id rfl
theorem s_ret {te} : dRet te Z env M = te env M Z.rt (exK Z env) := id rfl
theorem s_retN : dRetN Z env M = Z.rt .non M := id rfl
theorem s_ifS {tc t u} : dIfS tc t u Z env M = tc env M (ifK t u Z env) (exK Z env) := id rfl
theorem s_asg {te p} : dAsg te p Z env M = te env M (asgK p Z env) (exK Z env) := id rfl
theorem s_brk : dBrk Z env M = Z.bk env M := id rfl
theorem s_cont : dCont Z env M = Z.ct env M := id rfl
theorem s_put {te to ti} : dPut te to ti Z env M = te env M (putK1 to ti Z env) (exK Z env) := id rfl
theorem s_put1 {to ti z} : putK1 to ti Z env z M = to env M (putK2 ti z Z env) (exK Z env) := id rfl
theorem s_put2 {ti z o} : putK2 ti z Z env o M = ti env M (putK3 o z Z env) (exK Z env) := id rfl
theorem s_put3 {z o i} : putK3 o z Z env i M = (opPut o i z M).run M (nxD Z env) := id rfl
theorem s_aug {i r te} : dAug i r te Z env M = augV i r te Z env M env[i]? := id rfl
theorem s_augV {i r te} {x : D} : augV i r te Z env M (some (some x)) = te env M (augK i r x Z env) (exK Z env) := id rfl
theorem s_augK {i r x y} : augK i r x Z env y M = (r x y M).run M (augK2 i Z env) := id rfl
theorem s_augK2 {i z} : augK2 i Z env z M = Z.nx (env.set i (some z)) M := id rfl
theorem s_bin {r ta tb} : dBin r ta tb env M Q E = ta env M (binK1 r tb env Q E) E := id rfl
theorem s_bin1 {r tb x} : binK1 r tb env Q E x M = tb env M (binK2 r x Q) E := id rfl
theorem s_bin2 {r x y} : binK2 r x Q y M = (r x y M).run M Q := id rfl
theorem s_var {i} : dVar i env M Q E = varK M Q env[i]? := id rfl
theorem s_varK {x : D} : varK M Q (some (some x)) = Q x M := id rfl
theorem s_C {d} : dC d env M Q E = Q d M := id rfl
theorem s_cb {r t} : dCB r t env M Q E = t env M (cbK r Q) E := id rfl
theorem s_cbK {r ds} : cbK r Q ds M = (r ds M).run M Q := id rfl
theorem s_call {sp dvs t} : dCall sp dvs t env M Q E = t env M (callK sp dvs Q E) E := id rfl
theorem s_callK {sp ds} : callK sp [] Q E ds M = sp ds M Q E := by unfold callK; rw [List.append_nil]
theorem s_m {T r to t} : dBM T r to t env M Q E = to env M (mK1 T r t env Q E) E := id rfl
theorem s_m1 {T r t x} : mK1 T r t env Q E x M = (isTy T x M ∧ t env M (mK2 r x Q) E) := id rfl
theorem s_m2 {r x ds} : mK2 r x Q ds M = (r x ds M).run M Q := id rfl
theorem s_nil {R} : dNil env M R E = R [] M := id rfl
theorem s_cons {ta tr R} : dCons ta tr env M R E = ta env M (consK1 tr env R E) E := id rfl
theorem s_cons1 {tr R d} : consK1 tr env R E d M = tr env M (consK2 d R) E := id rfl
theorem s_cons2 {d R ds} : consK2 d R ds M = R (d :: ds) M := id rfl
theorem s_tup {n t} : dTup n t env M Q E = t env M (tupK n Q) E := id rfl
theorem s_tupK {n ds} : tupK n Q ds M = (ds.length = n ∧ Q (.tup ds) M) := id rfl
theorem s_lst {n t} : dLst n t env M Q E = t env M (lstK n Q) E := by unfold dLst lstK; simp [Res.run]
theorem s_lstK {n ds} : lstK n Q ds M = (ds.length = n ∧ (Res.new True (.lst ds)).run M Q) := id rfl
theorem s_truth {t R} : dTruth t env M R E = t env M (trK R) E := id rfl
theorem s_trK {R d} : trK R d M = optB (truth M d) R M := id rfl
theorem s_tK {u R} : tK u env R E M = u env M R E := id rfl
theorem s_eK {u} : eK u env Q E M = u env M Q E := id rfl
theorem s_cK {α} {x : α} {R} : cK x R M = R x M := id rfl
theorem s_and {t u R} : dAnd t u env M R E = t env M (andK u env R E) E := id rfl
theorem s_andK {u R b} : andK u env R E b M = bifM b (tK u env R E) (cK false R) M := id rfl
theorem s_or {t u R} : dOr t u env M R E = t env M (orK u env R E) E := id rfl
theorem s_orK {u R b} : orK u env R E b M = bifM b (cK true R) (tK u env R E) M := id rfl
theorem s_not {t R} : dNot t env M R E = t env M (notK R) E := id rfl
theorem s_notK {R b} : notK R b M = R (!b) M := id rfl
theorem s_ife {t ta tb} : dIf t ta tb env M Q E = t env M (ifeK ta tb env Q E) E := id rfl
theorem s_ifeK {ta tb b} : ifeK ta tb env Q E b M = bifM b (eK ta env Q E) (eK tb env Q E) M := id rfl
theorem optB_if {b : Option Bool} {f g : Mem → Prop} : (match b with | some true => f M | some false => g M | none => False) = optB b (fun b M => bifM b f g M) M := by
  cases b with
  | none => rfl
  | some b => cases b <;> rfl
theorem s_andV {ta tb} : dAndV ta tb env M Q E = ta env M (andvK tb env Q E) E := by
  unfold dAndV andvK
  congr 1
  funext d M1
  cases truth M1 d with
  | none => rfl
  | some b => cases b <;> rfl
theorem s_orV {ta tb} : dOrV ta tb env M Q E = ta env M (orvK tb env Q E) E := by
  unfold dOrV orvK
  congr 1
  funext d M1
  cases truth M1 d with
  | none => rfl
  | some b => cases b <;> rfl
theorem s_andvK {tb d} : andvK tb env Q E d M = optB (truth M d) (andvK2 d tb env Q E) M := id rfl
theorem s_orvK {tb d} : orvK tb env Q E d M = optB (truth M d) (orvK2 d tb env Q E) M := id rfl
theorem s_andvK2 {tb d b} : andvK2 d tb env Q E b M = bifM b (eK tb env Q E) (cK d Q) M := id rfl
theorem s_orvK2 {tb d b} : orvK2 d tb env Q E b M = bifM b (cK d Q) (eK tb env Q E) M := id rfl
theorem s_notV {ta} : dNotV ta env M Q E = ta env M (notvK Q) E := id rfl
theorem s_notvK {d} : notvK Q d M = optB (truth M d) (notK (blK Q)) M := id rfl
theorem s_blK {b} : blK Q b M = Q (.bl b) M := id rfl
theorem s_neg {ta} : dNeg ta env M Q E = ta env M (negK Q) E := id rfl
theorem s_negK {i} : negK Q (.int i) M = Q (.int (-i)) M := id rfl
theorem s_sl {ta tl th} : dSl ta tl th env M Q E = ta env M (slK1 tl th env Q E) E := id rfl
theorem s_sl1 {tl th x} : slK1 tl th env Q E x M = tl env M (slK2 x th env Q E) E := id rfl
theorem s_sl2 {th x l} : slK2 x th env Q E l M = th env M (slK3 x l Q) E := id rfl
theorem s_sl3 {x l u} : slK3 x l Q u M = (opSl x l u M).run M Q := id rfl
theorem s_noPart {R} : dNoPart env M R E = R none M := id rfl
theorem s_part {t R} : dPart t env M R E = t env M (partK R) E := id rfl
theorem s_partK {R i} : partK R (.int i) M = R (some i) M := id rfl
theorem s_rev {te} : dRev te env M Q E = te env M (revK Q) E := by
  unfold dRev
  congr 1
  funext d M1
  unfold revK revR
  cases d with
  | tup _ => rfl
  | v x => cases x with
    | ref a =>
      dsimp only
      cases M1 a with
      | none => rfl
      | some o => cases o <;> simp [Res.run]
    | _ => rfl
theorem s_revK {d} : revK Q d M = (revR d M).run M Q := id rfl
theorem s_for {ti p tb} : dFor ti p tb Z env M = ti env M (forK p tb Z env) (exK Z env) := id rfl
theorem s_forK {p tb its kp} : forK p tb Z env ⟨its, kp⟩ M = dLoop kp p tb Z its env M := id rfl
theorem s_lc {ti p tt te vs} : dLc ti p tt te vs env M Q E = ti env M (lcK p tt te vs env Q) E := id rfl
theorem s_lcK {p tt te vs its kp} : lcK p tt te vs env Q ⟨its, kp⟩ M = ∀ a, M a = none → dLcGo kp p tt te (wipeD env vs) a Q its [] (mupd M a (.lst [])) := id rfl
theorem s_yes {R} : dYes env M R E = R true M := id rfl
theorem s_walk {te R} : dWalk te env M R E = te env M (walkR R) E := id rfl
theorem s_walkT {R ds} : walkR R (.tup ds) M = R ⟨ds, fun _ => True⟩ M := id rfl
theorem s_walkS {R x} : walkR R (.str x) M = R ⟨signs x, fun _ => True⟩ M := id rfl
theorem s_walkA {R a} : walkR R (.ob a) M = walkO R a M (M a) := id rfl
theorem s_walkL {R a ds} : walkO R a M (some (.lst ds)) = R ⟨ds, fun M => M a = some (.lst ds) ∨ M a = some (.rol ds)⟩ M := id rfl
theorem s_walkR {R a ds} : walkO R a M (some (.rol ds)) = R ⟨ds, fun M => M a = some (.lst ds) ∨ M a = some (.rol ds)⟩ M := id rfl
theorem s_rng1 {ta R} : dRange1 ta env M R E = ta env M (rng1K R) E := id rfl
theorem s_rng2 {ta R} : dRange2 ta env M R E = ta env M (rng2K R) E := id rfl
theorem s_rng1K {R j} : rng1K R [.int j] M = ((-(2 ^ 62) ≤ j ∧ j < 2 ^ 62) ∧ R ⟨rg 0 j.toNat, fun _ => True⟩ M) := id rfl
theorem s_rng2K {R i j} : rng2K R [.int i, .int j] M = ((-(2 ^ 62) ≤ i ∧ i < 2 ^ 62 ∧ -(2 ^ 62) ≤ j ∧ j < 2 ^ 62) ∧ R ⟨rg i (j - i).toNat, fun _ => True⟩ M) := id rfl
theorem s_callL {i S t} : dCallL i S t env M Q E = callLK S t env M Q E env[i]? := id rfl
theorem s_callLK {S f t} : callLK S t env M Q E (some (some (.ob f))) = callLO t env M Q E (S f) := id rfl
theorem s_callLO {sp t} : callLO t env M Q E (some sp) = t env M (clK sp Q E) E := id rfl
theorem s_clK {sp ds} : clK sp Q E ds M = sp ds M Q E := id rfl
theorem s_raise {c fs} : dRaise c fs Z env M = Z.ex c fs env M := id rfl

/-! results -/
theorem r_val {c d} : (Res.val c d).run M Q = (c ∧ Q d M) := id rfl
theorem r_new {c o} : (Res.new c o).run M Q = (c ∧ ∀ p, M p = none → Q (.ob p) (mupd M p o)) := id rfl
theorem r_put {c a o d} : (Res.put c a o d).run M Q = (c ∧ Q d (mupd M a o)) := id rfl
end
/-- memory grows, but for what is told -/
def Keep (S : List Addr) (M M' : Mem) : Prop := ∀ b o, M b = some o → b ∉ S → M' b = some o
theorem Keep.refl {S M} : Keep S M M := fun _ _ h _ => h
theorem Keep.trans {S M M' M''} (h : Keep S M M') (g : Keep S M' M'') : Keep S M M'' := fun b o e n => g b o (h b o e n) n
theorem Keep.new {S M p o} (h : M p = none) : Keep S M (mupd M p o) := fun b o' e _ => by
  have : b ≠ p := fun z => by rw [z, h] at e; cases e
  show (if b = p then _ else _) = _
  rw [if_neg this]; exact e
theorem Keep.put {S M a o} (h : a ∈ S) : Keep S M (mupd M a o) := fun b o' e n => by
  have : b ≠ a := fun z => n (z ▸ h)
  show (if b = a then _ else _) = _
  rw [if_neg this]; exact e
theorem Keep.weaken {S T M M'} (h : Keep S M M') (s : ∀ a ∈ S, a ∈ T) : Keep T M M' := fun b o e n => h b o e fun z => n (s _ z)
/-- changes at new places are free -/
theorem Keep.drop {S M M' p} (h : Keep (p :: S) M M') (hp : M p = none) : Keep S M M' := fun b o e n => h b o e fun z => by
  rcases List.mem_cons.mp z with z | z
  · rw [z, hp] at e; cases e
  · exact n z
theorem Keep.fresh {M M' p} (h : Keep [] M M') (hp : M' p = none) : M p = none := by
  cases e : M p with
  | none => rfl
  | some o =>
    have := h p o e (by simp)
    rw [hp] at this
    cases this
theorem ne_new {M : Mem} {a p : Addr} {o} (ha : M a = some o) (hp : M p = none) : a ≠ p := fun e => by rw [e, hp] at ha; cases ha
theorem ne_new' {M : Mem} {a p : Addr} {o} (ha : M a = some o) (hp : M p = none) : p ≠ a := (ne_new ha hp).symm
theorem mupd_none {M : Mem} {p q : Addr} {o} : (mupd M p o q = none) = (q ≠ p ∧ M q = none) := by
  unfold mupd
  by_cases h : q = p <;> simp [h]
/-- a new list -/
theorem run_new {c : Prop} {o : Ob} {M : Mem} {Q : DK} (hc : c) (h : ∀ p M1, M p = none → M1 p = some o → Keep [] M M1 → Q (.ob p) M1) : (Res.new c o).run M Q :=
  ⟨hc, fun p hp => h p _ hp mupd_same (Keep.new hp)⟩
theorem bif_of {b : Bool} {f g : Mem → Prop} {M : Mem} (h1 : b = true → f M) (h0 : b = false → g M) : bifM b f g M := by
  cases b with
  | true => exact h1 rfl
  | false => exact h0 rfl
theorem bif_dec {p : Prop} [Decidable p] {f g : Mem → Prop} {M : Mem} (h1 : p → f M) (h0 : ¬ p → g M) : bifM (decide p) f g M := bif_of (fun h => h1 (of_decide_eq_true h)) fun h => h0 (of_decide_eq_false h)
theorem bif_pos {p : Prop} [Decidable p] {f g : Mem → Prop} {M : Mem} (h : p) (q : f M) : bifM (decide p) f g M := by rw [decide_eq_true h]; exact q
theorem bif_neg {p : Prop} [Decidable p] {f g : Mem → Prop} {M : Mem} (h : ¬ p) (q : g M) : bifM (decide p) f g M := by rw [decide_eq_false h]; exact q

/-- a test that gives b -/
theorem ifS_by {tc : DT} {t u : DS} {Z : DEnds} {env : DEnv} {M : Mem} (p : Prop) [Decidable p] (h : ∀ Q E, Q (decide p) M → tc env M Q E) (h1 : p → t Z env M) (h0 : ¬ p → u Z env M) : dIfS tc t u Z env M := by
  refine h _ _ ?_
  by_cases z : p
  · rw [decide_eq_true z]; exact h1 z
  · rw [decide_eq_false z]; exact h0 z
/-- two statements: what is true between them -/
theorem seq_mid {t u : DS} {Z : DEnds} {env : DEnv} {M : Mem} (R : DEnv → Mem → Prop) (h1 : ∀ N, (∀ e M', R e M' → N e M') → t (Z.to N) env M) (h2 : ∀ e M', R e M' → u Z e M') : dSeq t u Z env M := h1 (u Z) h2
/-- an if with statements behind it: what is true there -/
theorem bif_mid {b : Bool} {t u : DS} {Z : DEnds} {n : DEnv → Mem → Prop} {env : DEnv} {M : Mem} (R : DEnv → Mem → Prop) (h1 : b = true → ∀ N, (∀ e M', R e M' → N e M') → t (Z.to N) env M) (h0 : b = false → ∀ N, (∀ e M', R e M' → N e M') → u (Z.to N) env M) (h2 : ∀ e M', R e M' → n e M') :
    bifM b (t (Z.to n) env) (u (Z.to n) env) M := by
  cases b with
  | true => exact h1 rfl n h2
  | false => exact h0 rfl n h2
theorem bif_midD {p : Prop} [Decidable p] {t u : DS} {Z : DEnds} {n : DEnv → Mem → Prop} {env : DEnv} {M : Mem} (R : DEnv → Mem → Prop) (h1 : p → ∀ N, (∀ e M', R e M' → N e M') → t (Z.to N) env M) (h0 : ¬ p → ∀ N, (∀ e M', R e M' → N e M') → u (Z.to N) env M) (h2 : ∀ e M', R e M' → n e M') :
    bifM (decide p) (t (Z.to n) env) (u (Z.to n) env) M := bif_mid R (fun h => h1 (of_decide_eq_true h)) (fun h => h0 (of_decide_eq_false h)) h2
/-- for: what is true ahead of each turn; items are the pictures of xs -/
theorem loop_inv {α : Type} (f : α → D) {kp : Mem → Prop} {p : Pat} {tb : DS} {Z : DEnds} (I : List α → DEnv → Mem → Prop) (hk : ∀ r env M, I r env M → kp M)
    (step : ∀ x r env M N, I (x :: r) env M → (∀ e M', I r e M' → N e M') → optE (p.bind M (f x) env) (tb (Z.lp N)) M) (done : ∀ env M, I [] env M → Z.nx env M) :
    ∀ (xs : List α) (env : DEnv) (M : Mem), I xs env M → dLoop kp p tb Z (xs.map f) env M
  | [], env, M, h => ⟨hk _ _ _ h, done _ _ h⟩
  | x :: r, env, M, h => by
    refine ⟨hk _ _ _ h, ?_⟩
    have q := step x r env M (dLoop kp p tb Z (r.map f)) h (loop_inv f I hk step done r)
    unfold optE at q
    split at q
    · rename_i env1 hb
      first | exact q | (rw [hb]; exact q)
    · exact q.elim
def whK (tb : DS) (Z : DEnds) (N : DEnv → Mem → Prop) (env : DEnv) : Bool → Mem → Prop := fun b M => bifM b (tb (Z.lp N) env) (Z.nx env) M
theorem s_whK {tb : DS} {Z : DEnds} {N : DEnv → Mem → Prop} {env : DEnv} {b : Bool} {M : Mem} : whK tb Z N env b M = bifM b (tb (Z.lp N) env) (Z.nx env) M := id rfl
/-- while: what is true ahead of each turn, with a number that falls -/
theorem while_inv {tc : DT} {tb : DS} {Z : DEnds} (I : Nat → DEnv → Mem → Prop)
    (step : ∀ n env M N, I n env M → (∀ m e M', m < n → I m e M' → N e M') → tc env M (whK tb Z N env) (exK Z env)) {n : Nat} {env : DEnv} {M : Mem} (h : I n env M) : dWhile tc tb Z env M := by
  have go : ∀ k n env M, n < k → I n env M → dWhileN tc tb Z k env M := by
    intro k
    induction k with
    | zero => intro n env M h; omega
    | succ k ih => exact fun n env M hk h => step n env M (dWhileN tc tb Z k) h fun m e M' hm => ih m e M' (by omega)
  exact ⟨n + 1, go (n + 1) n env M (Nat.lt_succ_self n) h⟩
def lcY (a : Addr) (acc : List D) (N : List D → Mem → Prop) : DK := fun y M => M a = some (.lst acc) ∧ acc.length < sizeLine ∧ N (acc ++ [y]) (mupd M a (.lst (acc ++ [y])))
def lcT (te : DE) (a : Addr) (acc : List D) (N : List D → Mem → Prop) (env : DEnv) : Bool → Mem → Prop := fun b M => bifM b (eK te env (lcY a acc N) noX) (N acc) M
def lcE (tt : DT) (te : DE) (a : Addr) (acc : List D) (N : List D → Mem → Prop) (env : DEnv) (M : Mem) : Prop := tt env M (lcT te a acc N env) noX
section
variable {te : DE} {tt : DT} {a : Addr} {acc : List D} {N : List D → Mem → Prop} {env : DEnv} {M : Mem} {y : D} {b : Bool}
theorem s_lcY : lcY a acc N y M = (M a = some (.lst acc) ∧ acc.length < sizeLine ∧ N (acc ++ [y]) (mupd M a (.lst (acc ++ [y])))) := id rfl
theorem s_lcT : lcT te a acc N env b M = bifM b (eK te env (lcY a acc N) noX) (N acc) M := id rfl
theorem s_lcE : lcE tt te a acc N env M = tt env M (lcT te a acc N env) noX := id rfl
end
/-- a comprehension: what is true ahead of each turn; a: the new list -/
theorem lc_inv {α : Type} (f : α → D) {kp : Mem → Prop} {p : Pat} {tt : DT} {te : DE} {env : DEnv} {a : Addr} {Q : DK} (I : List α → List D → Mem → Prop) (hk : ∀ r acc M, I r acc M → kp M ∧ M a = some (.lst acc))
    (step : ∀ x r acc M (N : List D → Mem → Prop), I (x :: r) acc M → (∀ acc' M', I r acc' M' → N acc' M') → optE (p.bind M (f x) env) (lcE tt te a acc N) M)
    (done : ∀ acc M, I [] acc M → Q (.ob a) M) : ∀ (xs : List α) (acc : List D) (M : Mem), I xs acc M → dLcGo kp p tt te env a Q (xs.map f) acc M
  | [], acc, M, h => ⟨(hk _ _ _ h).1, (hk _ _ _ h).2, done _ _ h⟩
  | x :: r, acc, M, h => by
    refine ⟨(hk _ _ _ h).1, ?_⟩
    have q := step x r acc M (fun acc' M' => dLcGo kp p tt te env a Q (r.map f) acc' M') h (fun acc' M' => lc_inv f I hk step done r acc' M')
    unfold optE at q
    split at q
    · rename_i env1 hb
      first | exact q | (rw [hb]; exact q)
    · exact q.elim
theorem x_iaddN {X : Cx} : XOp X (inplaceOp .Add) opIadd := x_iadd
theorem ix_lit0 {n : Nat} (h : 0 < n) : ixN n 0 = some 0 := by unfold ixN; simp; omega
theorem ix_lit {n k : Nat} (h : k < n) : ixN n (k : Int) = some k := by unfold ixN; simp; omega
end PL

namespace PL
open PySem PySem.Spec PyProof.Rows L2

/-! built-ins that may answer in more than one way -/
abbrev DCallG := List D → Mem → DK → Prop
def MonoC (r : DCallG) : Prop := ∀ ds M (Q Q' : DK), (∀ d M, Q d M → Q' d M) → r ds M Q → r ds M Q'
def upCallG (K : PySem.W.Frag) (r : DCallG) : List V → Hp → VK → Prop := fun xs H Q => ∃ ds M, RepL K H ds xs ∧ Sim K H M ∧ r ds M (upK K H Q)
def cgK (r : DCallG) (Q : DK) : List D → Mem → Prop := fun ds M => r ds M Q
def dCG (r : DCallG) (t : DA) : DE := fun env M Q E => t env M (cgK r Q) E
theorem s_cg {r t env M Q E} : dCG r t env M Q E = t env M (cgK r Q) E := id rfl
theorem s_cgK {r Q ds M} : cgK r Q ds M = r ds M Q := id rfl
section
variable {X : Cx} {W : WX} {x : Str} {p pos : Pos} {e : Expr} {es : List Expr} {t : DA} {id T : String} {r : DCallG}
theorem cg_up (mr : MonoC r) (ha : XA X W es t) : ∀ σ H Q, liftE X.K W (dCG r t) σ H Q → tCB (upCallG X.K r) (liftA X.K W t) σ H Q := by
  rintro σ H Q ⟨env, M, re, s, h⟩
  refine stepA ha.mono re s h (fun ds M1 us H1 e1 s1 re1 r1 h1 => ?_) fun _ _ _ z => z
  exact ⟨ds, M1, r1, s1, mr _ _ _ _ (upK_mono e1) h1⟩
theorem xe_callG (mr : MonoC r) (hc : CallR X (.builtin id) (upCallG X.K r)) (hg : Gl X x) (hm : X.mg x = none) (hv : bootBuiltins x = some (.builtin id)) (ha : XA X W (e :: es) t) (hn : x ≠ "__name__" := by decide) (hdb : (x == ("__debug__" : Str)) = false := by decide)
    (he : starEach (e :: es) X.env = (false, eval e X.env) :: starEach es X.env := by rfl) (hpl : (backTo pos (starEach es X.env)).any (·.1) = false := by rfl) : XE X W (.Call (.Name x p) (e :: es) [] pos) (dCG r t) :=
  ⟨fun env M Q Q' E E' hQ hE => ha.mono _ _ _ _ _ _ (fun ds M1 => mr ds M1 _ _ hQ) hE, PEw (pe_callB hc hg hm hv ha.pa hn hdb he hpl) (cg_up mr ha)⟩
end

/-! sorted -/
def SortsTo (dd : Bool) (ss ys : List Str) : Prop := sortedS ys = true ∧ if dd = true then ys.Nodup ∧ ∀ x, x ∈ ys ↔ x ∈ ss else ys.Perm ss
def intsOf : List D → Option (List Int)
  | [] => some []
  | .v (.int b) :: r => (intsOf r).map (b :: ·)
  | _ :: _ => none
theorem intsOf_eq : ∀ {ds : List D} {bs : List Int}, intsOf ds = some bs → ds = bs.map D.int
  | [], bs, h => by simp [intsOf] at h; subst h; rfl
  | .v (.int b) :: r, bs, h => by
    simp only [intsOf, Option.map_eq_some_iff] at h
    obtain ⟨cs, h1, rfl⟩ := h
    rw [intsOf_eq h1]; rfl
  | .tup _ :: _, _, h => by simp [intsOf] at h
  | .v .non :: _, _, h => by simp [intsOf] at h
  | .v (.str _) :: _, _, h => by simp [intsOf] at h
  | .v (.bl _) :: _, _, h => by simp [intsOf] at h
  | .v (.byt _) :: _, _, h => by simp [intsOf] at h
  | .v (.flt _) :: _, _, h => by simp [intsOf] at h
  | .v (.ref _) :: _, _, h => by simp [intsOf] at h
  | .v (.ty _) :: _, _, h => by simp [intsOf] at h
theorem intsOf_map : ∀ bs : List Int, intsOf (bs.map D.int) = some bs
  | [] => rfl
  | b :: bs => by show (intsOf (bs.map D.int)).map _ = _; rw [intsOf_map bs]; rfl
def lstAt (M : Mem) (d : D) : Option (List D) := match d with
  | .v (.ref a) => match M a with
    | some (.lst ds) => some ds
    | some (.rol ds) => some ds
    | _ => none
  | _ => none
theorem lstAt_rep {K : PySem.W.Frag} {H : Hp} {M : Mem} {d : D} {u : V} {ds : List D} (s : Sim K H M) (r : RepD K H d u) (h : lstAt M d = some ds) : ∃ a us, u = .ref a ∧ SqL K H a us ∧ RepL K H ds us := by
  unfold lstAt at h
  split at h
  · have e := rep_v r
    subst e
    split at h
    · rename_i hm; cases h; obtain ⟨us, q, l⟩ := s.seq (.inl hm); exact ⟨_, us, rfl, q, l⟩
    · rename_i hm; cases h; obtain ⟨us, q, l⟩ := s.seq (.inr hm); exact ⟨_, us, rfl, q, l⟩
    · cases h
  · cases h
/-- sorted of a list of texts -/
def bSortS : DCallG := fun ds M Q => ∃ d es ss, ds = [d] ∧ lstAt M d = some es ∧ strsOf es = some ss ∧ ss.length < 64 ∧ ∀ ys p, SortsTo false ss ys → M p = none → Q (.ob p) (mupd M p (.lst (ys.map D.str)))
def bSortI : DCallG := fun ds M Q => ∃ d es ss, ds = [d] ∧ lstAt M d = some es ∧ intsOf es = some ss ∧ ∀ (ys : List Int) p, ys.Perm ss → ys.Pairwise (· ≤ ·) → M p = none → Q (.ob p) (mupd M p (.lst (ys.map D.int)))
def bSorted : DCallG := fun ds M Q => bSortS ds M Q ∨ bSortI ds M Q
theorem bSorted_mono : MonoC bSorted := by
  rintro ds M Q Q' hQ (⟨d, es, ss, h1, h2, h3, h4, h⟩ | ⟨d, es, ss, h1, h2, h3, h⟩)
  · exact .inl ⟨d, es, ss, h1, h2, h3, h4, fun ys p a b => hQ _ _ (h ys p a b)⟩
  · exact .inr ⟨d, es, ss, h1, h2, h3, fun ys p a b c => hQ _ _ (h ys p a b c)⟩
section
variable {X : Cx}
theorem c_sorted : CallR X (.builtin "sorted") (upCallG X.K bSorted) := by
  rintro pins s σ H xs us Q I r ⟨ds, M, rl, sm, (⟨d, es, ss, rfl, h2, h3, h4, h⟩ | ⟨d, es, ss, rfl, h2, h3, h⟩)⟩
  · obtain ⟨u, rfl, q⟩ := rl1 rl
    obtain ⟨a, ws, rfl, hs, l⟩ := lstAt_rep sm q h2
    rw [strsOf_eq h3] at l
    rw [l.strs] at hs
    exact cr_sortedS pins s σ H _ us Q I r ⟨a, ss, rfl, hs, h4, fun ys p z1 z2 hp => fin_lst (fun p hp => h ys p ⟨z2, z1⟩ hp) sm hp .of_strs⟩
  · obtain ⟨u, rfl, q⟩ := rl1 rl
    obtain ⟨a, ws, rfl, hs, l⟩ := lstAt_rep sm q h2
    rw [intsOf_eq h3] at l
    rw [l.ints] at hs
    exact cr_sortedI pins s σ H _ us Q I r ⟨a, ss, rfl, hs, fun ys p z1 z2 hp => fin_lst (fun p hp => h ys p z1 z2 hp) sm hp .of_ints⟩
end

/-! {} -/
def dDict0 : DE := fun _ M Q _ => (Res.new True (.dk [])).run M Q
theorem s_dict0 {env M Q E} : dDict0 env M Q E = (Res.new True (.dk [])).run M Q := id rfl
theorem xe_dict0 {X : Cx} {W : WX} {pos : Pos} : XE X W (.Dict [] [] pos) dDict0 := by
  refine ⟨fun env M Q Q' E E' hQ hE h => Res.mono hQ h, PEw pe_dnewK ?_⟩
  rintro σ H Q ⟨env, M, re, s, h⟩
  intro p hp
  exact fin_new (ob := .dk []) h.2 s hp ⟨[], upd_same, rfl⟩
/-! the script -/
def KL (K : PySem.W.Frag) (a : Addr) (xs : List V) : Prop := ∃ (o : Obj) (its : Array Value) (n : Nat), K.lookup a = some o ∧ o.cls = .type "list" ∧ o.dict = none ∧ o.data = .seq its n ∧ its.size ≤ sizeLine ∧ Vals xs its.toList
def Scr (K : PySem.W.Frag) (M : Mem) (a : Addr) (ns : List Int) : Prop := M a = some (.rol (ns.map D.int)) ∨ KL K a (ns.map V.int)
theorem Scr.seq {K : PySem.W.Frag} {H : Hp} {M : Mem} {a : Addr} {ns : List Int} (h : Scr K M a ns) (s : Sim K H M) : SqL K H a (ns.map V.int) := by
  rcases h with h | h
  · obtain ⟨us, q, l⟩ := s.seq (.inr h)
    rw [l.ints] at q
    exact q
  · exact .inr h
theorem script_rep {K : PySem.W.Frag} {sp : DSp} {H : Hp} {a : Addr} {ns : List Int} (ho : Only H) (hS : SqL K H a (ns.map V.int)) (h : ∀ M, Scr K M a ns → sp [.ob a] M (fun d _ => d = .bl true) fun _ _ _ => False) (hm : MonoSp sp) :
    liftSp K sp [.ref a] H (fun v _ => v = .bl true) fun _ _ _ => False := by
  have fin : ∀ M, Scr K M a ns → Sim K H M → liftSp K sp [.ref a] H (fun v _ => v = .bl true) fun _ _ _ => False := fun M q s => by
    refine ⟨[.ob a], M, .cons rep_of .nil, s, hm _ _ _ _ _ _ ?_ ?_ (h M q)⟩
    · rintro d M' rfl u H' _ _ r
      exact rep_v r
    · exact fun c f M' z => z.elim
  rcases hS with (hS | ⟨o, hS⟩) | hS
  · rcases ho a with z | ⟨o, xs, z⟩
    · rw [z] at hS; cases hS
    · rw [z] at hS; cases hS
  · refine fin (fun b => if b = a then some (.rol (ns.map D.int)) else none) (.inl (if_pos rfl)) fun b o' e => ?_
    dsimp only at e
    split at e
    · rename_i hb; cases e; subst hb; exact ⟨o, _, hS, .of_ints⟩
    · cases e
  · exact fin (fun _ => none) (.inr hS) fun b o' e => by cases e
def bListS (K : PySem.W.Frag) : DCallG := fun ds M Q => ∃ (a : Addr) (ns : List Int), ds = [.ob a] ∧ Scr K M a ns ∧ ∀ p, M p = none → Q (.ob p) (mupd M p (.lst (ns.map D.int)))
theorem bListS_mono {K : PySem.W.Frag} : MonoC (bListS K) := by
  rintro ds M Q Q' hQ ⟨a, ns, h1, h2, h⟩
  exact ⟨a, ns, h1, h2, fun p hp => hQ _ _ (h p hp)⟩
section
variable {X : Cx} {W : WX} {x : Str} {p pos : Pos} {e : Expr} {es : List Expr} {t : DA} {T : String} {r : DCallG}
theorem xe_callTyG (mr : MonoC r) (hc : CallR X (.type T) (upCallG X.K r)) (hg : Gl X x) (hm : X.mg x = none) (hv : bootBuiltins x = some (.type T)) (ha : XA X W (e :: es) t) (hn : x ≠ "__name__" := by decide) (hdb : (x == ("__debug__" : Str)) = false := by decide)
    (he : starEach (e :: es) X.env = (false, eval e X.env) :: starEach es X.env := by rfl) (hpl : (backTo pos (starEach es X.env)).any (·.1) = false := by rfl) : XE X W (.Call (.Name x p) (e :: es) [] pos) (dCG r t) :=
  ⟨fun env M Q Q' E E' hQ hE => ha.mono _ _ _ _ _ _ (fun ds M1 => mr ds M1 _ _ hQ) hE, PEw (pe_callTy hc hg hm hv ha.pa hn hdb he hpl) (cg_up mr ha)⟩
theorem c_listS : CallR X (.type "list") (upCallG X.K (bListS X.K)) := by
  rintro pins s σ H xs us Q I r ⟨ds, M, rl, sm, a, ns, rfl, hs, h⟩
  obtain ⟨u, rfl, q⟩ := rl1 rl
  rw [rep_v q] at r
  exact call_list_of pins s σ H _ us Q I r ⟨_, _, rfl, .inl (hs.seq sm), fun l hl => fin_lst h sm hl .of_ints⟩
end
theorem cx_none {P : Program} {w : World} {H : Hp} {s : Shared} {e : Value} {s' : Shared} (h : L2.CX P w [] H s (fun _ _ _ => False) e s') : False := by
  obtain ⟨_, _, _, _, _, _, _, _, _, _, _, _, z⟩ := h
  exact z
theorem rel_int {i : Int} {t : Tok} : RelV (.int i) (.int i t) := ⟨t, rfl⟩
theorem rel_str {x : Str} {t : Tok} : RelV (.str x) (.str x t) := ⟨t, rfl⟩
end PL

namespace PL
open PySem PySem.Spec PyProof.Rows L2

/-! comprehensions by what each item gives -/
inductive Outs {α : Type} (R : α → Option D → Prop) : List α → List D → Prop
  | nil : Outs R [] []
  | yes {x d xs ds} : R x (some d) → Outs R xs ds → Outs R (x :: xs) (d :: ds)
  | no {x xs ds} : R x none → Outs R xs ds → Outs R (x :: xs) ds
theorem Outs.len {α : Type} {R : α → Option D → Prop} {xs : List α} {ds : List D} (h : Outs R xs ds) : ds.length ≤ xs.length := by
  induction h with
  | nil => exact Nat.le_refl _
  | yes _ _ ih => simp only [List.length_cons]; omega
  | no _ _ ih => simp only [List.length_cons]; omega
theorem Outs.map {α : Type} {g : α → D} {R : α → Option D → Prop} (hR : ∀ x o, R x o → o = some (g x)) {xs : List α} {ds : List D} (h : Outs R xs ds) : ds = xs.map g := by
  induction h with
  | nil => rfl
  | yes h _ ih => cases hR _ _ h; rw [ih]; rfl
  | no h _ _ => cases hR _ _ h
theorem Outs.filter {α : Type} {g : α → D} {b : α → Bool} {R : α → Option D → Prop} (hR : ∀ x o, R x o → o = if b x = true then some (g x) else none) {xs : List α} {ds : List D} (h : Outs R xs ds) : ds = (xs.filter b).map g := by
  induction h with
  | nil => rfl
  | yes h _ ih =>
    have q := hR _ _ h
    rename_i x d xs ds _
    cases e : b x with
    | true => rw [e, if_pos rfl] at q; cases q; rw [ih, List.filter_cons_of_pos e]; rfl
    | false => rw [e, if_neg Bool.false_ne_true] at q; cases q
  | no h _ ih =>
    have q := hR _ _ h
    rename_i x xs ds _
    cases e : b x with
    | true => rw [e, if_pos rfl] at q; cases q
    | false => rw [ih, List.filter_cons_of_neg (by simp [e])]
theorem Outs.all {α : Type} {P : D → Prop} {R : α → Option D → Prop} (hR : ∀ x d, R x (some d) → P d) {xs : List α} {ds : List D} (h : Outs R xs ds) : ∀ d ∈ ds, P d := by
  induction h with
  | nil => intro d hd; cases hd
  | yes h _ ih =>
    intro d hd
    rcases List.mem_cons.mp hd with z | z
    · rw [z]; exact hR _ _ h
    · exact ih d z
  | no h _ ih => exact ih
theorem Outs.lenEq {α : Type} {R : α → Option D → Prop} (hR : ∀ x, ¬ R x none) {xs : List α} {ds : List D} (h : Outs R xs ds) : ds.length = xs.length := by
  induction h with
  | nil => rfl
  | yes _ _ ih => simp only [List.length_cons, ih]
  | no h _ _ => exact (hR _ h).elim
def lcB (te : DE) (env : DEnv) (N : DK) (sk : Mem → Prop) : Bool → Mem → Prop := fun b M => bifM b (eK te env N noX) sk M
def lcS (tt : DT) (te : DE) (N : DK) (sk : Mem → Prop) (env : DEnv) (M : Mem) : Prop := tt env M (lcB te env N sk) noX
theorem s_lcB {te env N sk b M} : lcB te env N sk b M = bifM b (eK te env N noX) sk M := id rfl
theorem s_lcS {tt te N sk env M} : lcS tt te N sk env M = tt env M (lcB te env N sk) noX := id rfl
theorem lc_rule {α : Type} (f : α → D) (R : α → Option D → Prop) (J : Mem → Prop) (S : List Addr) {M0 : Mem} {a : Addr} {kp : Mem → Prop} {p : Pat} {tt : DT} {te : DE} {env : DEnv} {Q : DK} (xs : List α) (ha : M0 a = none) (haS : a ∉ S) (hJ0 : J M0) (hJ : ∀ M' o, J M' → J (mupd M' a o))
    (hk : ∀ M', Keep S M0 M' → kp M') (hlen : xs.length ≤ sizeLine)
    (step : ∀ x ∈ xs, ∀ M' (N : DK) (sk : Mem → Prop), J M' → Keep S M0 M' → (∀ d M'', R x (some d) → J M'' → Keep S M' M'' → N d M'') → (∀ M'', R x none → J M'' → Keep S M' M'' → sk M'') → optE (p.bind M' (f x) env) (lcS tt te N sk) M')
    (done : ∀ M' ds, Outs R xs ds → J M' → Keep S M0 M' → M' a = some (.lst ds) → Q (.ob a) M') : dLcGo kp p tt te env a Q (xs.map f) [] (mupd M0 a (.lst [])) := by
  have go : ∀ (r : List α) (acc : List D) (M' : Mem), (∀ x ∈ r, x ∈ xs) → acc.length + r.length ≤ sizeLine → (∀ ds, Outs R r ds → Outs R xs (acc ++ ds)) → J M' → Keep S M0 M' → M' a = some (.lst acc) → dLcGo kp p tt te env a Q (r.map f) acc M' := by
    intro r
    induction r with
    | nil => exact fun acc M' _ _ h j k e => ⟨hk _ k, e, done _ _ (by simpa using h [] .nil) j k e⟩
    | cons x r ih =>
      intro acc M' hm hl h j k e
      refine ⟨hk _ k, ?_⟩
      simp only [List.length_cons] at hl
      have q := step x (hm x List.mem_cons_self) M' (fun y M3 => M3 a = some (.lst acc) ∧ acc.length < sizeLine ∧ dLcGo kp p tt te env a Q (r.map f) (acc ++ [y]) (mupd M3 a (.lst (acc ++ [y])))) (dLcGo kp p tt te env a Q (r.map f) acc) j k
        (fun d M'' hR j2 k2 => ⟨k2 _ _ e haS, by omega, ih _ _ (fun z hz => hm z (List.mem_cons_of_mem _ hz)) (by rw [List.length_append]; simp only [List.length_cons, List.length_nil]; omega)
          (fun ds hd => by rw [List.append_assoc]; exact h _ (.yes hR hd)) (hJ _ _ j2) (fun b o eb nb => by
            have : b ≠ a := fun z => by rw [z, ha] at eb; cases eb
            rw [mupd_ne this]
            exact k2 _ _ (k _ _ eb nb) nb) mupd_same⟩)
        (fun M'' hR j2 k2 => ih _ _ (fun z hz => hm z (List.mem_cons_of_mem _ hz)) (by omega) (fun ds hd => h _ (.no hR hd)) j2 (k.trans k2) (k2 _ _ e haS))
      unfold optE at q
      split at q
      · rename_i env1 hb
        first | exact q | (rw [hb]; exact q)
      · exact q.elim
  exact go xs [] _ (fun _ h => h) (by simpa using hlen) (fun ds h => h) (hJ _ _ hJ0) (Keep.new ha) mupd_same
/-- items that a pure reading gives -/
theorem lc_pure {α : Type} (f g : α → D) (b : α → Bool) {M0 : Mem} {a : Addr} {kp : Mem → Prop} {p : Pat} {tt : DT} {te : DE} {env : DEnv} {Q : DK} (xs : List α) (ha : M0 a = none) (hk : ∀ M', Keep [] M0 M' → kp M') (hlen : xs.length ≤ sizeLine)
    (step : ∀ x ∈ xs, ∀ M' (N : DK) (sk : Mem → Prop), Keep [] M0 M' → (b x = true → ∀ M'', Keep [] M' M'' → N (g x) M'') → (b x = false → ∀ M'', Keep [] M' M'' → sk M'') → optE (p.bind M' (f x) env) (lcS tt te N sk) M')
    (done : ∀ M', Keep [] M0 M' → M' a = some (.lst ((xs.filter b).map g)) → Q (.ob a) M') : dLcGo kp p tt te env a Q (xs.map f) [] (mupd M0 a (.lst [])) := by
  refine lc_rule f (fun x o => o = if b x = true then some (g x) else none) (fun _ => True) [] xs ha (by simp) trivial (fun _ _ _ => trivial) hk hlen (fun x hx M' N sk _ k hy hn => step x hx M' N sk k (fun e M'' k2 => hy _ M'' (by rw [e, if_pos rfl]) trivial k2) fun e M'' k2 => hn M'' (by rw [e, if_neg Bool.false_ne_true]) trivial k2) fun M' ds ho _ k e => ?_
  rw [ho.filter (fun _ _ h => h)] at e
  exact done M' k e
theorem lc_pureI (g : D → D) (b : D → Bool) {M0 : Mem} {a : Addr} {kp : Mem → Prop} {p : Pat} {tt : DT} {te : DE} {env : DEnv} {Q : DK} (xs : List D) (ha : M0 a = none) (hk : ∀ M', Keep [] M0 M' → kp M') (hlen : xs.length ≤ sizeLine)
    (step : ∀ x ∈ xs, ∀ M' (N : DK) (sk : Mem → Prop), Keep [] M0 M' → (b x = true → ∀ M'', Keep [] M' M'' → N (g x) M'') → (b x = false → ∀ M'', Keep [] M' M'' → sk M'') → optE (p.bind M' x env) (lcS tt te N sk) M')
    (done : ∀ M', Keep [] M0 M' → M' a = some (.lst ((xs.filter b).map g)) → Q (.ob a) M') : dLcGo kp p tt te env a Q xs [] (mupd M0 a (.lst [])) := by
  have q := lc_pure (fun d : D => d) g b xs ha hk hlen step done
  rw [List.map_id'] at q
  exact q
end PL

set_option maxHeartbeats 4000000
namespace PL
open PySem PySem.Spec PyProof.Rows L2

/-! sets of texts: the entries, their texts in the order in which they stand -/
def txt : Value → Str
  | .str x _ => x
  | _ => ⟨#[]⟩
abbrev Ent := Int × Value
def IsEnt (w : World) (e : Ent) : Prop := ∃ x tk, e.2 = Value.str x tk ∧ e.1 = hashStr w x
abbrev texts (es : Array Ent) : List Str := es.toList.map fun e => txt e.2
/-- an object that holds such a set -/
structure Held (w : World) (h : Heap) (a : Addr) (es : Array Ent) (t : SetTable) : Prop where
  obj : ∃ o ep, h.get? a = some o ∧ o.ExactSet ∧ o.data = .set es ep t
  ent : ∀ e ∈ es.toList, IsEnt w e
  nd : (texts es).Nodup
  few : es.size < scanBound
  fits : t.fits es.size = true
  ris : Ris t.place.toList
  led : w.params.followText "set-order" = true ∨ t.led = true
def SetOfTexts (w : World) (h : Heap) (a : Addr) (ks : List Str) : Prop := ∃ es t, Held w h a es t ∧ (texts es).Perm ks
theorem SetOfTexts.keep {w : World} {h h' : Heap} {a : Addr} {ks : List Str} (H : SetOfTexts w h a ks) (k : ∀ o, h.get? a = some o → h'.get? a = some o) : SetOfTexts w h' a ks := by
  obtain ⟨es, t, ⟨⟨o, ep, h1, h2⟩, r1, r2, r3, r4, r5, r6⟩, p⟩ := H
  exact ⟨es, t, ⟨⟨o, ep, k o h1, h2⟩, r1, r2, r3, r4, r5, r6⟩, p⟩
theorem ents_strKind {P : Program} {w : World} {l : List Ent} (g : ∀ e ∈ l, IsEnt w e) : ElemsOf (PySem.strKind P w) l := fun e he => by
  obtain ⟨x, tk, h1, h2⟩ := g e he
  rw [h1, h2]
  exact ⟨⟨x, by simp [PySem.strKind, Value.isStrOf], rfl⟩, rfl⟩
theorem is_txt {P : Program} {w : World} {e : Ent} (g : IsEnt w e) (x : Str) : (PySem.strKind P w).is x e.2 = true ↔ txt e.2 = x := by
  obtain ⟨y, tk, h1, _⟩ := g
  rw [h1]
  constructor
  · intro q
    obtain ⟨t, h⟩ := Value.isStrOf_shape (show Value.isStrOf x (.str y tk) = true from q)
    injection h with h
  · rintro rfl
    simp [PySem.strKind, Value.isStrOf, txt]
section
variable {P : Program} {w : World} {A : Around} {E : Value → Shared → Prop} {s : Shared} {a : Addr}
theorem rule_if {b : Bool} {Q : Unit → Shared → Prop} (q : Q () s) : wpAny (model P w) A (match b with | true => rule "set.scan.the-table-gave-way" | false => pure ()) Q E s := by
  cases b
  · exact wpAny_pure q
  · exact wpAny_rule q
/-- what is written behind a new entry -/
theorem put_entries {o : Obj} {es es1 : Array Ent} {ep : Nat} {t t1 : SetTable} {Q : Unit → Shared → Prop} (ho : s.heap.get? a = some o) (hx : o.ExactSet) (hd : o.data = .set es ep t) (fw : es1.size < scanBound)
    (h : ∀ h', Heap.SameBut a s.heap h' → (∃ o' ep', h'.get? a = some o' ∧ o'.ExactSet ∧ o'.data = .set es1 ep' t1) → Q () { s with heap := h' }) : wpAny (model P w) A (storeSet a es1 t1) Q E s := by
  refine wpAny_storeSet_of ho hd (h _ (Heap.SameBut.update s.heap a (Obj.putSet es1 t1)) ⟨{ o with data := .set es1 (ep + 1) t1 }, ep + 1, ?_, hx, rfl⟩) (fits_of_scanBound fw)
  rw [← putSet_of es1 t1 hd]
  exact Heap.get?_update_self (Obj.putSet es1 t1) ho (by rw [putSet_of es1 t1 hd]; rfl)
theorem same_trans {h h' h'' : Heap} (p : Heap.SameBut a h h') (q : Heap.SameBut a h' h'') : Heap.SameBut a h h'' := p.trans q
/-- entries that are ready to be written -/
structure Ready (w : World) (es : Array Ent) (t : SetTable) (ks : List Str) : Prop where
  ent : ∀ e ∈ es.toList, IsEnt w e
  nd : (texts es).Nodup
  few : es.size < scanBound
  fits : t.fits es.size = true
  ris : Ris t.place.toList
  led : w.params.followText "set-order" = true ∨ t.led = true
  pm : (texts es).Perm ks
theorem Ready.held {es : Array Ent} {t : SetTable} {ks : List Str} {h : Heap} (R : Ready w es t ks) (ho : ∃ o ep, h.get? a = some o ∧ o.ExactSet ∧ o.data = .set es ep t) : SetOfTexts w h a ks :=
  ⟨es, t, ⟨ho, R.ent, R.nd, R.few, R.fits, R.ris, R.led⟩, R.pm⟩
theorem Ready.relaid {es : Array Ent} {t : SetTable} {ks : List Str} (R : Ready w es t ks) (n : Nat) : Ready w (relayAll t es n).1 (relayAll t es n).2.1 ks := by
  have p := relayAll_perm t es n
  have l := relayAll_led t es n
  refine ⟨fun e he => R.ent e (p.mem_iff.mp he), (p.map _).nodup_iff.mpr R.nd, ?_, relayAll_fits t es n, relayAll_ris t es n, R.led.imp id fun z => by rw [l]; exact z, (p.map _).trans R.pm⟩
  have := p.length_eq
  rw [Array.length_toList, Array.length_toList] at this
  have := R.few
  omega
theorem write_ready {g : Bool → Sem Unit} (hg : ∀ (b : Bool) (s : Shared) (Q : Unit → Shared → Prop), Q () s → wpAny (model P w) A (g b) Q E s) {o : Obj} {es es1 : Array Ent} {ep : Nat} {t t1 : SetTable} {ks : List Str} {wd : Bool} {Q : Option Bool → Shared → Prop}
    (ho : s.heap.get? a = some o) (hx : o.ExactSet) (hd : o.data = .set es ep t) (R : Ready w es1 t1 ks) (h : ∀ h', Heap.SameBut a s.heap h' → SetOfTexts w h' a ks → Q (some true) { s with heap := h' }) :
    wpAny (model P w) A (do
      storeSet a es1 t1
      if (!wd && t1.tooFull) = true then do
          g (relayAll t1 es1 (SetTable.grown es1.size)).2.2
          storeSet a (relayAll t1 es1 (SetTable.grown es1.size)).1 (relayAll t1 es1 (SetTable.grown es1.size)).2.1
          pure (some true)
        else pure (some true)) Q E s := by
  refine wpAny_bind (put_entries ho hx hd R.few fun h1 sb1 at1 => ?_)
  split
  · have R2 := R.relaid (SetTable.grown es1.size)
    obtain ⟨o1, ep1, g1, x1, d1⟩ := at1
    refine wpAny_bind (hg _ _ _ (wpAny_bind (put_entries g1 x1 d1 R2.few fun h2 sb2 at2 => wpAny_pure ?_)))
    exact h _ (sb1.trans sb2) (R2.held at2)
  · exact wpAny_pure (h _ sb1 (R.held at1))
/-- the set takes one text more -/
theorem takes_text {ks : List Str} {x : Str} {tk : Tok} {Q : Bool → Shared → Prop} (H : SetOfTexts w s.heap a ks) (room : ks.length + 1 < scanBound)
    (hQ : ∀ b h', Heap.SameBut a s.heap h' → SetOfTexts w h' a (if x ∈ ks then ks else x :: ks) → Q b { s with heap := h' }) : wpAny (model P w) A (setAddHashed a (.str x tk) (hashStr w x)) Q E s := by
  obtain ⟨es, t, ⟨⟨o, ep, ho, hx, hd⟩, ge, nd, fw, hf, hr, hl⟩, pm⟩ := H
  have sz : es.size = ks.length := by rw [← pm.length_eq, List.length_map, Array.length_toList]
  have is : (PySem.strKind P w).is x (.str x tk) = true := by simp [PySem.strKind, Value.isStrOf]
  have el := ents_strKind (P := P) ge
  unfold setAddHashed setAddHashedIn
  refine wpAny_holding (wpAny_bind (wpAny_setState_of ho hd hf ?_))
  dsimp only
  rw [if_pos (byScan_of (show (Value.str x tk).scannable = true from rfl) fw el)]
  unfold setAddByScan
  refine wpAny_bind (wpAny_bind (wpAny_rule (wpAny_bind ?_)))
  refine wpAny_setScan_of (knd := PySem.strKind P w) (k := x) is ho hd hf el ?_
  cases fi : List.findIdx? (fun e => (PySem.strKind P w).is x e.2) es.toList with
  | some j =>
    obtain ⟨hj, q, _⟩ := List.findIdx?_eq_some_iff_getElem.mp fi
    have hm : x ∈ ks := pm.mem_iff.mp (List.mem_map.mpr ⟨_, List.getElem_mem hj, (is_txt (ge _ (List.getElem_mem hj)) x).mp q⟩)
    dsimp only
    refine wpAny_pure (wpAny_pure (hQ _ s.heap (Heap.SameBut.refl a s.heap) ?_))
    rw [if_pos hm]
    exact ⟨es, t, ⟨⟨o, ep, ho, hx, hd⟩, ge, nd, fw, hf, hr, hl⟩, pm⟩
  | none =>
    have hm : x ∉ ks := fun z => by
      obtain ⟨e, he, q⟩ := List.mem_map.mp (pm.mem_iff.mpr z)
      have := List.findIdx?_eq_none_iff.mp fi e he
      rw [(is_txt (ge e he) x).mpr q] at this
      cases this
    rw [if_neg hm] at hQ
    dsimp only
    have p1 := layNew_perm t es (hashStr w x) (.str x tk)
    have f1 := layNew_fits t es (hashStr w x) (.str x tk)
    have r1 := layNew_ris t es (hashStr w x) (.str x tk) hr
    have l1 := layNew_led t es (hashStr w x) (.str x tk)
    have R : Ready w (layNew t es (hashStr w x) (.str x tk)).1 { (layNew t es (hashStr w x) (.str x tk)).2.1 with plain := false } (x :: ks) ∧ Ready w (layNew t es (hashStr w x) (.str x tk)).1 (layNew t es (hashStr w x) (.str x tk)).2.1 (x :: ks) := by
      generalize layNew t es (hashStr w x) (.str x tk) = L at p1 f1 r1 l1 ⊢
      rw [Array.toList_push] at p1
      have p2 := p1.trans (List.perm_append_singleton _ _)
      have p3 : (texts L.1).Perm (x :: texts es) := p2.map fun e => txt e.2
      have len := p2.length_eq
      rw [List.length_cons, Array.length_toList, Array.length_toList] at len
      have ge1 : ∀ e ∈ L.1.toList, IsEnt w e := fun e he => by
        rcases List.mem_cons.mp (p2.mem_iff.mp he) with z | z
        · rw [z]; exact ⟨x, tk, rfl, rfl⟩
        · exact ge e z
      have nd1 : (texts L.1).Nodup := p3.nodup_iff.mpr (List.nodup_cons.mpr ⟨fun z => hm (pm.mem_iff.mp z), nd⟩)
      have pk : (texts L.1).Perm (x :: ks) := p3.trans (pm.cons x)
      have led1 : w.params.followText "set-order" = true ∨ L.2.1.led = true := hl.imp id fun z => by rw [l1]; exact z
      exact ⟨⟨ge1, nd1, by omega, SetTable.fits_plain_off f1, r1, led1, pk⟩, ⟨ge1, nd1, by omega, f1, r1, led1, pk⟩⟩
    generalize layNew t es (hashStr w x) (.str x tk) = L at R ⊢
    obtain ⟨es1, t1, wd, gv⟩ := L
    dsimp only at R ⊢
    have gw : ∀ (b : Bool) (s : Shared) (Q : Unit → Shared → Prop), Q () s → wpAny (model P w) A (match b with | true => rule "set.scan.the-table-gave-way" | false => pure ()) Q E s := fun b s Q q => rule_if q
    refine wpAny_bind (gw _ _ _ ?_)
    split
    · refine wpAny_bind ?_
      rw [hashByValue_scannable 8 (show (Value.str x tk).scannable = true from rfl)]
      refine wpAny_pure (write_ready (t1 := { t1 with plain := false }) gw ho hx hd R.1 fun h' sb q => ?_)
      exact wpAny_pure (hQ _ h' sb q)
    · refine wpAny_bind (wpAny_pure ?_)
      refine write_ready (t1 := t1) gw ho hx hd R.2 fun h' sb q => ?_
      exact wpAny_pure (hQ _ h' sb q)
/-- the texts of a walk, each once; in the order in which they come in -/
def firsts : List Str → List Str → List Str
  | ks, [] => ks
  | ks, x :: r => firsts (if x ∈ ks then ks else x :: ks) r
theorem firsts_mem : ∀ (xs ks : List Str) (y : Str), y ∈ firsts ks xs ↔ y ∈ ks ∨ y ∈ xs
  | [], ks, y => by simp [firsts]
  | x :: r, ks, y => by
    rw [firsts, firsts_mem r]
    split
    · rename_i h
      constructor
      · rintro (z | z)
        · exact .inl z
        · exact .inr (List.mem_cons_of_mem _ z)
      · rintro (z | z)
        · exact .inl z
        · rcases List.mem_cons.mp z with e | z
          · exact .inl (e ▸ h)
          · exact .inr z
    · simp only [List.mem_cons]
      constructor
      · rintro ((z | z) | z)
        · exact .inr (.inl z)
        · exact .inl z
        · exact .inr (.inr z)
      · rintro (z | z | z)
        · exact .inl (.inr z)
        · exact .inl (.inl z)
        · exact .inr z
theorem one_len (x : Str) (ks : List Str) : (if x ∈ ks then ks else x :: ks).length ≤ ks.length + 1 := by
  split
  · omega
  · simp
theorem firsts_len : ∀ (xs ks : List Str), (firsts ks xs).length ≤ ks.length + xs.length
  | [], ks => by simp [firsts]
  | x :: r, ks => by
    rw [firsts]
    have := firsts_len r (if x ∈ ks then ks else x :: ks)
    have := one_len x ks
    simp only [List.length_cons]
    omega
/-- all items of a walk are put in -/
theorem takes_walk {I S : Addr} {fp wr : List Addr} {G : Array GenState → Array GenState → Prop} {n : Nat} {Pv : Nat → Value → Prop} {St : Nat → Shared → Prop} {R : Result → Shared → Prop} (W : WalksS P w A.in1 I fp wr G n Pv St) (hS : S ∉ fp) :
    ∀ (xs ks : List Str) (i : Nat) (s : Shared), i + xs.length = n → ks.length + xs.length + 1 < scanBound → (∀ j v, Pv (i + j) v → j < xs.length → ∃ t, v = .str (xs.getD j ⟨#[]⟩) t) → St i s → SetOfTexts w s.heap S ks →
      (∀ s', Moved (S :: wr) G s s' → SetOfTexts w s'.heap S (firsts ks xs) → R (.ok (.ret .none)) s') → codeAny (model P w) A (.builtin "set.update.loop" ⟨[.ref S, .ref I], []⟩) R s := by
  have nw : S ∉ wr := fun z => hS (W.sub _ z)
  have up : ∀ b ∈ wr, b ∈ S :: wr := fun _ z => List.mem_cons_of_mem _ z
  intro xs
  induction xs with
  | nil =>
    intro ks i s hi _ _ st hs fin
    have e : i = n := hi
    refine codeAny_builtin F.entry_set_update_loop ?_
    rw [Around.under_plainId F.plain_set_update_loop _]
    subst e
    refine wpAny_bind (m := pyNext (.ref I)) (W.done s _ _ st fun s1 mv => ?_)
    exact wpAny_pure (fin s1 (mv.mono up) (hs.keep fun o z => mv.heap S o nw z))
  | cons x r ih =>
    intro ks i s hi room hv st hs fin
    simp only [List.length_cons] at hi room hv
    refine codeAny_builtin F.entry_set_update_loop ?_
    rw [Around.under_plainId F.plain_set_update_loop _]
    refine wpAny_bind (m := pyNext (.ref I)) (W.item i s _ _ (by omega) st fun v s1 pv st1 mv => ?_)
    obtain ⟨tk, rfl⟩ := hv 0 v pv (by omega)
    simp only [List.getD_cons_zero]
    refine wpAny_bind (m := holding [Value.str x tk] (setAdd S (.str x tk))) (wpAny_holding ?_)
    unfold setAdd
    refine wpAny_holding (wpAny_bind ((PySem.strKind P w).pyHash (k := x) (by simp [PySem.strKind, Value.isStrOf]) ?_))
    refine takes_text (s := { s1 with toks := s1.toks + 1 }) (hs.keep fun o z => mv.heap S o nw z) (by omega) fun b h' sb q => ?_
    have stay : ∀ c o, c ≠ S → s1.heap.get? c = some o → h'.get? c = some o := fun c o hc e => by rw [sb.2 c hc]; exact e
    refine wpAny_pure ⟨plainId_quiet F.plain_set_update_loop _, ih _ (i + 1) _ (by omega) (by have := one_len x ks; omega) (fun j v pj hj => ?_) (W.frame _ s1 _ _ st1 (Nat.le_succ _) fun c hc o e => stay c o (fun z => hS (z ▸ hc)) e) q fun s2 mv2 q2 => ?_⟩
    · have := hv (j + 1) v (by rw [show i + (j + 1) = i + 1 + j by omega]; exact pj) (by omega)
      simpa using this
    · refine fin s2 (Moved.trans W.gtrans ((mv.mono up).then_heap (Nat.le_succ _) fun c o hc e => stay c o (fun z => hc (by rw [z]; exact List.mem_cons_self)) e) mv2) q2
abbrev newSetO (w : World) : Obj := { cls := .type "set", dict := none, data := .set #[] 0 (.fresh 0 0 (!w.params.followText "set-order")) }
theorem empty_held {h : Heap} (e : h.get? a = some (newSetO w)) : SetOfTexts w h a [] := by
  refine ⟨#[], _, ⟨⟨_, 0, e, ⟨rfl, rfl, rfl⟩, rfl⟩, ?_, ?_, by decide, rfl, List.Pairwise.nil, ?_⟩, .refl _⟩
  · intro e he; cases he
  · exact List.Pairwise.nil
  · show _ ∨ (!w.params.followText "set-order") = true
    cases w.params.followText "set-order"
    · exact .inr rfl
    · exact .inl rfl
/-- what the filling of a new set does: __init__ with a list of texts -/
theorem init_texts {S l : Addr} {items : Array Value} {xs : List Str} {Q : Value → Shared → Prop} (hh : A.handled = none) (hS : s.heap.get? S = some (newSetO w)) (hl : s.heap.IsList l items) (hne : l ≠ S) (hsz : items.size = xs.length) (hv : ∀ (j : Nat) (v : Value), items[j]? = some v → ∃ t, v = Value.str (xs.getD j ⟨#[]⟩) t)
    (hb : xs.length + 1 < scanBound) (h : ∀ h' tk, SetOfTexts w h' S (firsts [] xs) → (∀ b o, b ≠ S → s.heap.get? b = some o → h'.get? b = some o) → Q .none { s with heap := h', toks := tk }) :
    wpAny (model P w) A (Builtin.«set.__init__» ⟨[.ref S, .ref l], []⟩) (fun f s' => ∃ r, f = .done (.ret r) ∧ Q r s') E s := by
  have hT : s.TypeIs (.ref S) "set" := ⟨_, hS, rfl⟩
  obtain ⟨ol, hol, hcl, nl, hdl⟩ := hl
  obtain ⟨ocls, odict, odata, oslots⟩ := ol
  simp only at hcl hdl
  subst hcl
  subst hdl
  have hl2 : s.heap.IsList l items := ⟨_, hol, rfl, nl, rfl⟩
  have a1 := F.sub_list_set
  have a2 := F.sub_list_frozenset
  have a3 : (Value.type "list" == Value.type "dict") = false := by decide
  unfold Builtin.«set.__init__» noKeywords Builtin.Frozenset.updateFrom
  generalize hp : pyIter = go
  wp_walk
  subst hp
  refine wpAny_pyIter_list hl2 (wpAny_bind (wpAny_runValue ?_))
  have lS : S < s.heap.objs.size := Heap.lt_size hS
  have ll : l < s.heap.objs.size := Heap.lt_size hol
  have hI : l ≠ s.heap.objs.size := Nat.ne_of_lt ll
  have hSI : S ∉ [s.heap.objs.size, l] := by
    simp only [List.mem_cons, List.not_mem_nil, or_false, not_or]
    exact ⟨Nat.ne_of_lt lS, hne.symm⟩
  have e0 : (s.heap.push { cls := .type "list_iterator", data := .fields #[.ref l, .int 0 0] }).get? S = some (newSetO w) := Heap.get?_push_of_some _ hS
  refine takes_walk (A := A) (P := P) (w := w) ((Walks.list (by simp [hh]) _ l hI items).toS) hSI xs [] 0 _ (by omega) (by simpa using hb) (fun j v pv hj => hv j v (by simpa using pv)) ⟨⟨_, Heap.get?_push_size _ rfl, rfl, rfl⟩, hl2.push _⟩ (empty_held e0) ?_
  intro s1 mv q
  obtain ⟨h', g', d', tk', o'⟩ := s1
  obtain rfl : g' = s.gens := mv.gens
  obtain rfl : d' = s.drawn := mv.drawn
  obtain rfl : o' = s.os := mv.os
  refine wpAny_pure (wpAny_pure ⟨_, rfl, h h' tk' q fun b o hb e => ?_⟩)
  refine mv.heap b o ?_ (Heap.get?_push_of_some _ e)
  simp only [List.mem_cons, List.not_mem_nil, or_false, not_or]
  exact ⟨hb, Nat.ne_of_lt (Heap.lt_size e)⟩
/-- set(xs) of a list of texts -/
theorem call_set_texts {l : Addr} {items : Array Value} {xs : List Str} {Q : Value → Shared → Prop} (hh : A.handled = none) (hl : s.heap.IsList l items) (hsz : items.size = xs.length) (hv : ∀ (j : Nat) (v : Value), items[j]? = some v → ∃ t, v = Value.str (xs.getD j ⟨#[]⟩) t)
    (hb : xs.length + 1 < scanBound) (h : ∀ h' tk, SetOfTexts w h' s.heap.objs.size (firsts [] xs) → (∀ b o, s.heap.get? b = some o → h'.get? b = some o) → Q (.ref s.heap.objs.size) { s with heap := h', toks := tk }) : wpAny (model P w) A (call (.type "set") [.ref l]) Q E s := by
  have c1 := F.called_set.notType
  have c2 := F.called_set.canCreate
  have c3 := F.called_set.made
  have c4 := F.called_set.sub
  have c5 := F.typeCall_set_1 (.ref l)
  obtain ⟨_, _, c6⟩ := F.called_set.mro
  refine wpAny_call (codeAny_of_tree ?_)
  show wpAny (model P w) _ (callAny (.type "set") ⟨[.ref l], []⟩) _ _ s
  refine wpAny_pure ⟨Code.quiet_builtin _ (by decide +kernel), codeAny_builtin F.entry_type_call ?_⟩
  rw [Around.under_plain (weight_type_call_type "set" [.ref l] []) rfl]
  repeat (any_goals (first | assumption | wp_step))
  refine codeAny_mono (code_set_led1 (.ref l) (E := E) (Q₁ := fun v s1 => v = .ref s.heap.objs.size ∧ s1 = { s with heap := s.heap.push (newSetO w) }) ⟨rfl, rfl⟩) fun r s1 hr => ?_
  obtain e | fl := r
  · exact hr
  cases fl <;> first | exact hr.elim | skip
  obtain ⟨rfl, rfl⟩ := hr
  have new : (s.heap.push (newSetO w)).get? s.heap.objs.size = some (newSetO w) := Heap.get?_push_size _ rfl
  have ty : Shared.TypeIs { s with heap := s.heap.push (newSetO w) } (.ref s.heap.objs.size) "set" := ⟨_, new, rfl⟩
  have c7 := F.called_set.init.lookup
  have c8 := F.called_set.init.bind (.ref s.heap.objs.size)
  have hlt : l ≠ s.heap.objs.size := by
    obtain ⟨o, ho, _⟩ := hl
    exact Nat.ne_of_lt (Heap.lt_size ho)
  repeat (any_goals (first | assumption | wp_step))
  refine codeAny_mono (codeAny_call_builtin (R := wants (fun r s2 => r = .none ∧ ∃ h' tk, s2 = { s with heap := h', toks := tk } ∧ SetOfTexts w h' s.heap.objs.size (firsts [] xs) ∧ ∀ b o, s.heap.get? b = some o → h'.get? b = some o) E) F.called_set.init.plain F.entry_set_init (check_set_init_1 ty ?_)) fun r2 s2 hr2 => ?_
  · refine wpAny_mono (init_texts (E := E) (Q := fun r s2 => r = .none ∧ ∃ h' tk, s2 = { s with heap := h', toks := tk } ∧ SetOfTexts w h' s.heap.objs.size (firsts [] xs) ∧ ∀ b o, s.heap.get? b = some o → h'.get? b = some o) (by simp [hh]) new (hl.push _) hlt hsz hv hb fun h' tk q k => ⟨rfl, h', tk, rfl, q, fun b o e => k b o (Nat.ne_of_lt (Heap.lt_size e)) (Heap.get?_push_of_some _ e)⟩) ?_ fun e s2 q => q
    rintro f s2 ⟨r, rfl, q⟩
    exact q
  · obtain e | fl := r2
    · exact hr2
    cases fl <;> first | exact hr2.elim | skip
    obtain ⟨rfl, h', tk, rfl, q, k⟩ := hr2
    repeat (any_goals (first | assumption | wp_step))
    exact h _ _ q k
end
end PL

set_option maxHeartbeats 4000000
namespace PL
open PySem PySem.Spec PyProof.Rows L2
theorem strs_of_ents {w : World} : ∀ {l : List Ent}, (∀ e ∈ l, IsEnt w e) → StrsAre (l.map fun e => e.2) (l.map fun e => txt e.2)
  | [], _ => .nil
  | e :: r, g => by
    obtain ⟨x, tk, h, _⟩ := g e List.mem_cons_self
    simp only [List.map_cons, h]
    exact .cons x tk (strs_of_ents fun e he => g e (List.mem_cons_of_mem _ he))
theorem strs_txt {vs : List Value} {ss : List Str} (h : StrsAre vs ss) : ss = vs.map txt := by
  induction h with
  | nil => rfl
  | cons x t _ ih => rw [ih]; rfl
theorem strs_mem {vs : List Value} (h : ∀ v ∈ vs, ∃ x t, v = Value.str x t) : StrsAre vs (vs.map txt) := by
  induction vs with
  | nil => exact .nil
  | cons v r ih =>
    obtain ⟨x, t, rfl⟩ := h v List.mem_cons_self
    exact .cons x t (ih fun v hv => h v (List.mem_cons_of_mem _ hv))
section
variable {P : Program} {w : World} {A : Around} {E : Value → Shared → Prop} {s : Shared} {a : Addr}
/-- sorted(a), a: a set of texts -/
theorem call_sorted_texts {ks : List Str} {Q : Value → Shared → Prop} (hh : A.handled = none) (H : SetOfTexts w s.heap a ks) (few : ks.length < 64)
    (hQ : ∀ s' p (out : Array Value) (c : Nat) (ys : List Str), (∀ b o, s.heap.get? b = some o → s'.heap.get? b = some o) → s'.gens = s.gens → s'.os = s.os → s.heap.objs.size ≤ p → s'.heap.get? p = some (seqObj "list" out c) → StrsAre out.toList ys → sortedS ys = true → ys.Nodup → ys.Perm ks → Q (.ref p) s') :
    wpAny (model P w) A (call (.builtin "sorted") [.ref a]) Q E s := by
  obtain ⟨es, t, ⟨⟨o, ep, ho, hx, hd⟩, ge, nd, fw, hf, hr, hl⟩, pm⟩ := H
  have sz : es.size = ks.length := by rw [← pm.length_eq, List.length_map, Array.length_toList]
  refine Calls.call_function_entry kind_sorted plain_sorted entry_sorted (args_sorted1 _) ?_
  unfold Builtin.«sorted»
  refine wpAny_bind (m := checkCount "sorted" 1 1 _) (wpAny_pure (wpAny_bind ?_))
  refine collect_set (by simp [hh]) ⟨o, ho, hx.1, hd⟩ hf fw hr hl fun s1 vs k1 z1 g1 o1 pv => ?_
  have len : vs.length = ks.length := by rw [pv.length_eq, List.length_map, Array.length_toList, sz]
  have hv : ∀ v ∈ vs, ∃ x tk, v = Value.str x tk := fun v hv => by
    obtain ⟨e, he, q⟩ := List.mem_map.mp (pv.mem_iff.mp hv)
    obtain ⟨x, tk, h, _⟩ := ge e he
    exact ⟨x, tk, q ▸ h⟩
  have hS := strs_mem hv
  have pt : (vs.map txt).Perm (texts es) := by
    have := pv.map txt
    rwa [List.map_map] at this
  refine wpAny_bind (wpAny_newList ?_ (by rw [len, sizeLine_eq]; omega))
  have hL : (s1.heap.push (seqObj "list" vs.toArray 0)).get? s1.heap.objs.size = some (seqObj "list" vs.toArray 0) := Heap.get?_push_size _ rfl
  refine wpAny_bind (wpAny_holding (wpAny_call_entry slot_list_sort ⟨_, hL, rfl⟩ entry_list_sort (list_sort_treeK strKind_oneLt hL hS.keysOf (fun v1 v2 rest e => keyKind_strs (ss := vs.map txt) (by rw [← e]; exact hS)) (by omega) fun st p1 p2 => ⟨_, rfl, ?_⟩) (args_list_sort _)))
  obtain ⟨ys, y1, y2, y3⟩ := sorted_out_str hS p1 p2
  obtain ⟨c, hc⟩ := sortedHeap_at (vs := vs) (out := (arrOf st).map (·.2)) hL
  have py := y2.trans pt
  refine wpAny_pure ⟨_, rfl, hQ _ s1.heap.objs.size _ c ys (fun b u e => ?_) g1 o1 z1 hc y1 y3 (py.nodup_iff.mpr nd) (py.trans pm)⟩
  have lt := Heap.lt_size (k1 b u e)
  show (sortedHeap (s1.heap.push (seqObj "list" vs.toArray 0)) s1.heap.objs.size vs ((arrOf st).map (·.2))).get? b = some u
  rw [sortedHeap_old (Nat.ne_of_lt lt) (by rw [size_push']; exact Nat.lt_succ_of_lt lt)]
  exact Heap.get?_push_of_some _ (k1 b u e)
end
/-- sorted(set(xs)) of a list of texts -/
def sortSetR (d : D) (M : Mem) (Q : DK) : Prop := ∃ es ss, lstAt M d = some es ∧ strsOf es = some ss ∧ ss.length < 63 ∧ ∀ ys p, SortsTo true ss ys → M p = none → Q (.ob p) (mupd M p (.lst (ys.map D.str)))
def sortSetK (Q : DK) : DK := fun d M => sortSetR d M Q
def dSortSet (te : DE) : DE := fun env M Q E => te env M (sortSetK Q) E
theorem s_sortSet {te env M Q E} : dSortSet te env M Q E = te env M (sortSetK Q) E := id rfl
theorem s_sortSetK {d M Q} : sortSetK Q d M = sortSetR d M Q := id rfl
theorem xe_sortedSet {X : Cx} {W : WX} {a : Expr} {ta : DE} {p p2 q pos : Pos} (hc : X.calm = true) (hg : Gl X "sorted") (hm : X.mg "sorted" = none) (hg2 : Gl X "set") (hm2 : X.mg "set" = none) (ha : XE X W a ta) (na : starEach [a] X.env = (false, eval a X.env) :: starEach [] X.env := by rfl) :
    XE X W (.Call (.Name "sorted" p) [.Call (.Name "set" p2) [a] [] q] [] pos) (dSortSet ta) := by
  refine ⟨fun env M Q Q' E E' hQ hE => ha.mono _ _ _ _ _ _ (fun d M1 ⟨es, ss, h1, h2, h3, h⟩ => ⟨es, ss, h1, h2, h3, fun ys p z1 z2 => hQ _ _ (h ys p z1 z2)⟩) hE, ⟨fun pins s σ H Q I h => ?_⟩⟩
  obtain ⟨env, M, re, sm, h⟩ := h
  have h1 : liftE X.K W ta σ H fun u H1 => ∃ (l : Addr) (ss : List Str), u = .ref l ∧ SqL X.K H1 l (ss.map V.str) ∧ ss.length < 63 ∧ ∀ ys p, SortsTo true ss ys → H1 p = none → Q (.ref p) (upd H1 p (.lst (ys.map V.str))) := by
    refine stepE ha.mono re sm h (fun d M1 u H1 e1 s1 re1 r1 q => ?_) fun _ _ _ z => z
    obtain ⟨es, ss, q1, q2, q3, q4⟩ := q
    obtain ⟨l, us, rfl, hs, lr⟩ := lstAt_rep s1 r1 q1
    rw [strsOf_eq q2] at lr
    rw [lr.strs] at hs
    exact ⟨l, ss, rfl, hs, q3, fun ys p z1 z2 => fin_lst (fun p hp => upK_mono e1 _ _ (q4 ys p z1 hp)) s1 z2 .of_strs⟩
  refine Call_ (ld_blt I hg hm (by rfl) ?_)
  refine PyProof.Rows.callWith_builtin1 (PyProof.Rows.args_cons ?_ rfl) rfl rfl
  refine Call_ (ld_blt I hg2 hm2 (by rfl) ?_)
  refine PyProof.Rows.callWith_type1 (PyProof.Rows.args_cons (thn (ha.pe.run pins s σ H _ I h1) fun v s1 ⟨x, H1, I1, r1, q1⟩ => PyProof.Rows.args_nil ?_) na) na rfl
  obtain ⟨l, ss, rfl, hs, few, q⟩ := q1
  cases r1
  obtain ⟨its, rv, pl, hz⟩ := I1.list hs
  have sa : StrsAre its ss := strsAre_of rv
  have isz : its.toArray.size = ss.length := by rw [List.size_toArray, ← rv.length, List.length_map]
  refine call_set_texts (I1.ok.hd hc) pl.isList isz (fun j v e => ?_) (by have : scanBound = 4096 := rfl; omega) fun h' tk S k => PyProof.Rows.args_nil ?_
  · obtain ⟨t, z⟩ := SS.strs_at sa j v (by simpa using e)
    exact ⟨t, z⟩
  have I2 : Inv X pins σ H1 { s1 with heap := h', toks := tk } := I1.kept k
  have fl := firsts_len ss []
  refine call_sorted_texts (s := { s1 with heap := h', toks := tk }) (I2.ok.hd hc) S (by simp only [List.length_nil] at fl; omega) fun s' p out c ys k2 g o hp e1 e2 e3 e4 e5 => ?_
  have hn : H1 p = none := I2.hok.fresh hp
  have ylen : (ys.map V.str).length ≤ sizeLine := by
    rw [List.length_map, e5.length_eq, sizeLine_eq]
    simp only [List.length_nil] at fl
    omega
  have J : Inv X pins σ (upd H1 p (.lst (ys.map V.str))) s' :=
    I2.call' (ch := []) o (Un.laid k2 hp hn) (I2.hok.laid k2 hp ⟨ylen, out.toList, c, vals_of_strs e2, e1⟩) (by rw [g]; exact I2.bare) fun _ z => nomatch z
  refine ⟨.ref p, _, J, rfl, q ys p ⟨e3, ?_⟩ hn⟩
  rw [if_pos rfl]
  refine ⟨e4, fun x => ?_⟩
  rw [e5.mem_iff, firsts_mem]
  simp
end PL

namespace PL
open PySem PySem.Spec PyProof.Rows L2

/-! what all laws have: the drawn numbers -/
def StAt (M : Mem) (a b : Addr) : Prop := ∃ p q c ns, M a = some (.lst [.ob b, .int p, .int q, .int c]) ∧ M b = some (.lst (List.map D.int ns)) ∧ 0 ≤ p ∧ 0 ≤ q ∧ b ≠ a
theorem StAt.keep {M M' : Mem} {a b : Addr} {S : List Addr} (h : StAt M a b) (k : Keep S M M') (ha : a ∉ S := by simp) (hb : b ∉ S := by simp) : StAt M' a b := by
  obtain ⟨p, q, c, ns, h1, h2, h3⟩ := h
  exact ⟨p, q, c, ns, k _ _ h1 ha, k _ _ h2 hb, h3⟩
theorem StAt.put {M : Mem} {a b l : Addr} {o : Ob} (h : StAt M a b) (ha : l ≠ a) (hb : l ≠ b) : StAt (mupd M l o) a b := h.keep (S := [l]) (Keep.put (by simp)) (by simpa using ha.symm) (by simpa using hb.symm)
theorem StAt.new {M : Mem} {a b l : Addr} {o : Ob} (h : StAt M a b) (hl : M l = none) : StAt (mupd M l o) a b := h.keep (S := []) (Keep.new hl)
theorem StAt.some {M : Mem} {a b : Addr} (h : StAt M a b) : (∃ o, M a = some o) ∧ ∃ o, M b = some o := by
  obtain ⟨p, q, c, ns, h1, h2, _⟩ := h
  exact ⟨⟨_, h1⟩, ⟨_, h2⟩⟩
theorem StAt.ne {M : Mem} {a b l : Addr} (h : StAt M a b) (hl : M l = none) : l ≠ a ∧ l ≠ b := by
  obtain ⟨⟨o, h1⟩, ⟨o2, h2⟩⟩ := h.some
  exact ⟨ne_new' h1 hl, ne_new' h2 hl⟩
theorem StAt.fresh {M M' : Mem} {a b l : Addr} (h : StAt M' a b) (k : Keep [a] M M') (hl : M' l = none) : M l = none := by
  cases e : M l with
  | none => rfl
  | some o =>
    have := k l o e (by simpa using (h.ne hl).1)
    rw [hl] at this
    cases this
def sp_start (K : PySem.W.Frag) : DSp := fun ds M Q E => ∃ a ns, ds = [.ob a] ∧ Scr K M a ns ∧ ∀ r b M', M r = none → M b = none → StAt M' r b → Keep [] M M' → Q (.ob r) M'
def sp_draw : DSp := fun ds M Q E => ∃ a b m, ds = [.ob a, .int m] ∧ StAt M a b ∧ 0 < m ∧ m < 1073741824 ∧ ∀ r M', 0 ≤ r → r < m → StAt M' a b → Keep [a] M M' → Q (.int r) M'
def seqI (M : Mem) : D → Option (List D)
  | .tup ds => some ds
  | .v (.str x) => some (signs x)
  | .v (.ref l) => match M l with
    | some (.lst ds) => some ds
    | _ => none
  | _ => none
def ofA (a : Addr) : D → Bool
  | .v (.ref l) => decide (l = a)
  | _ => false
theorem seqI_keep {M M' : Mem} {a : Addr} {d : D} {ds : List D} (h : seqI M d = some ds) (k : Keep [a] M M') (n : ofA a d = false) : seqI M' d = some ds := by
  unfold seqI at h ⊢
  split at h
  · exact h
  · exact h
  · rename_i l
    split at h
    · rename_i hm
      have hl : l ≠ a := by simpa [ofA] using n
      rw [k _ _ hm (by simpa using hl)]
      exact h
    · cases h
  · cases h
theorem signs_len (x : Str) : (signs x).length = x.length := by simp [signs, Str.length]
theorem len_seqI {M : Mem} {d : D} {ds : List D} {Q : DK} (h : seqI M d = some ds) (hl : ds.length ≤ sizeLine) (q : Q (.int ds.length) M) : (bLen [d] M).run M Q := by
  unfold seqI at h
  split at h
  · cases h; exact ⟨trivial, q⟩
  · cases h; rw [signs_len] at hl q; exact ⟨hl, q⟩
  · split at h
    · rename_i hm; cases h; simp only [bLen, hm]; exact ⟨trivial, q⟩
    · cases h
  · cases h
theorem atI_map' {α β : Type} (f : α → β) (xs : List α) (i : Int) : atI (xs.map f) i = (atI xs i).map f := by
  unfold atI
  rw [List.length_map]
  cases ixN xs.length i with
  | none => rfl
  | some j => simp
theorem ix_seqI {M : Mem} {d x : D} {ds : List D} {i : Int} {Q : DK} (h : seqI M d = some ds) (hl : ds.length ≤ sizeLine) (hx : atI ds i = some x) (q : Q x M) : (opIx d (.int i) M).run M Q := by
  unfold seqI at h
  split at h
  · cases h; simp only [opIx, hx]; exact ⟨trivial, q⟩
  · cases h
    rename_i z
    rw [signs_len] at hl
    unfold signs at hx
    rw [atI_map'] at hx
    cases e : atI z.cps.toList i with
    | none => rw [e] at hx; cases hx
    | some c =>
      rw [e] at hx
      cases hx
      simp only [opIx, e]
      exact ⟨hl, q⟩
  · split at h
    · rename_i hm; cases h; simp only [opIx, hm, hx]; exact ⟨trivial, q⟩
    · cases h
  · cases h
theorem atI_some {α : Type} {xs : List α} {i : Int} (h0 : 0 ≤ i) (h1 : i < xs.length) : ∃ x, atI xs i = some x ∧ x ∈ xs := by
  have h2 : i.toNat < xs.length := by omega
  refine ⟨xs[i.toNat], ?_, List.getElem_mem h2⟩
  unfold atI ixN
  rw [if_pos h0, if_pos h1]
  simp [h2]
theorem filter_tt {α : Type} (xs : List α) : xs.filter (fun _ => true) = xs := List.filter_eq_self.mpr fun _ _ => rfl
theorem atI_cons {α : Type} {x : α} {r : List α} {i : Int} : atI (x :: r) i = (ixN (r.length + 1) i).bind fun j => (x :: r)[j]? := rfl
theorem atI_zero {α : Type} {x : α} {r : List α} : atI (x :: r) 0 = some x := by
  unfold atI ixN
  simp
theorem atI_get {α : Type} {xs : List α} {i : Int} (h0 : 0 ≤ i) (h1 : i < xs.length) : atI xs i = some (xs[i.toNat]'(by omega)) := by
  unfold atI ixN
  rw [if_pos h0, if_pos h1]
  exact List.getElem?_eq_getElem _
theorem atI_natI {α : Type} {xs : List α} {i : Nat} (h1 : i < xs.length) : atI xs (i : Int) = some xs[i] := by
  rw [atI_get (by omega) (by omega)]
  simp
theorem atI_nat' {α : Type} {xs : List α} {i : Nat} (h1 : i < xs.length) : atI xs (0 + (i : Int)) = some xs[i] := by
  rw [Int.zero_add, atI_get (by omega) (by omega)]
  simp
def sp_one_of : DSp := fun ds M Q E => ∃ a b d es, ds = [.ob a, d] ∧ StAt M a b ∧ seqI M d = some es ∧ ofA a d = false ∧ es ≠ [] ∧ es.length < 16777216 ∧ ∀ x M', x ∈ es → StAt M' a b → Keep [a] M M' → Q x M'
/-! data of a law: ints, texts, tuples of such -/
mutual
def D.dat : D → Bool
  | .v (.int _) | .v (.str _) => true
  | .v _ => false
  | .tup ds => decide (ds.length < 1000000) && datL ds
def datL : List D → Bool
  | [] => true
  | d :: ds => d.dat && datL ds
end
theorem datL_mem : ∀ {ds : List D}, datL ds = true → ∀ d ∈ ds, d.dat = true
  | d :: ds, h, e, he => by
    simp only [datL, Bool.and_eq_true] at h
    rcases List.mem_cons.mp he with z | z
    · rw [z]; exact h.1
    · exact datL_mem h.2 e z
theorem dpL_mem : ∀ {ds : List D} {n : Nat}, dpL ds ≤ n → ∀ d ∈ ds, d.dp ≤ n
  | d :: ds, n, h, e, he => by
    simp only [dpL] at h
    rcases List.mem_cons.mp he with z | z
    · rw [z]; omega
    · exact dpL_mem (by omega) e z
def sp_is_int : DSp := fun ds M Q E => ∃ i, ds = [.int i] ∧ Q (.bl true) M
def sp_same (n : Nat) : DSp := fun ds M Q E => ∃ d, ds = [d, d] ∧ d.dat = true ∧ d.dp < n ∧ ∀ M', Keep [] M M' → Q (.bl true) M'
/-! isinstance of plain data -/
def isR (a : Option String) (n : String) : Res := match a with
  | some a => .val True (.bl (isi a n))
  | none => .bad
theorem q_is_tuple {d : D} {M : Mem} {Q : DK} : (bIsi [d, .v (.ty "tuple")] M).run M Q = (isR (tyN M d) "tuple").run M Q := by
  simp only [bIsi, isR]
  cases tyN M d with
  | none => rfl
  | some a => simp [Res.run]
theorem q_is_str {d : D} {M : Mem} {Q : DK} : (bIsi [d, .v (.ty "str")] M).run M Q = (isR (tyN M d) "str").run M Q := by
  simp only [bIsi, isR]
  cases tyN M d with
  | none => rfl
  | some a => simp [Res.run]
theorem q_is_int {d : D} {M : Mem} {Q : DK} : (bIsi [d, .v (.ty "int")] M).run M Q = (isR (tyN M d) "int").run M Q := by
  simp only [bIsi, isR]
  cases tyN M d with
  | none => rfl
  | some a => simp [Res.run]
theorem q_is_bool {d : D} {M : Mem} {Q : DK} : (bIsi [d, .v (.ty "bool")] M).run M Q = (isR (tyN M d) "bool").run M Q := by
  simp only [bIsi, isR]
  cases tyN M d with
  | none => rfl
  | some a => simp [Res.run]
theorem q_is_list {d : D} {M : Mem} {Q : DK} : (bIsi [d, .v (.ty "list")] M).run M Q = (isR (tyN M d) "list").run M Q := by
  simp only [bIsi, isR]
  cases tyN M d with
  | none => rfl
  | some a => simp [Res.run]
theorem q_isR {a n : String} {M : Mem} {Q : DK} : (isR (some a) n).run M Q = Q (.bl (isi a n)) M := by simp [isR, Res.run]
theorem i_NoneType_tuple : isi "NoneType" "tuple" = false := by decide
theorem i_NoneType_str : isi "NoneType" "str" = false := by decide
theorem i_NoneType_int : isi "NoneType" "int" = false := by decide
theorem i_NoneType_bool : isi "NoneType" "bool" = false := by decide
theorem i_NoneType_list : isi "NoneType" "list" = false := by decide
theorem i_bool_tuple : isi "bool" "tuple" = false := by decide
theorem i_bool_str : isi "bool" "str" = false := by decide
theorem i_bool_int : isi "bool" "int" = true := by decide
theorem i_bool_bool : isi "bool" "bool" = true := by decide
theorem i_bool_list : isi "bool" "list" = false := by decide
theorem i_int_tuple : isi "int" "tuple" = false := by decide
theorem i_int_str : isi "int" "str" = false := by decide
theorem i_int_int : isi "int" "int" = true := by decide
theorem i_int_bool : isi "int" "bool" = false := by decide
theorem i_int_list : isi "int" "list" = false := by decide
theorem i_str_tuple : isi "str" "tuple" = false := by decide
theorem i_str_str : isi "str" "str" = true := by decide
theorem i_str_int : isi "str" "int" = false := by decide
theorem i_str_bool : isi "str" "bool" = false := by decide
theorem i_str_list : isi "str" "list" = false := by decide
theorem i_tuple_tuple : isi "tuple" "tuple" = true := by decide
theorem i_tuple_str : isi "tuple" "str" = false := by decide
theorem i_tuple_int : isi "tuple" "int" = false := by decide
theorem i_tuple_bool : isi "tuple" "bool" = false := by decide
theorem i_tuple_list : isi "tuple" "list" = false := by decide
theorem i_list_tuple : isi "list" "tuple" = false := by decide
theorem i_list_str : isi "list" "str" = false := by decide
theorem i_list_int : isi "list" "int" = false := by decide
theorem i_list_bool : isi "list" "bool" = false := by decide
theorem i_list_list : isi "list" "list" = true := by decide
theorem i_dict_tuple : isi "dict" "tuple" = false := by decide
theorem i_dict_str : isi "dict" "str" = false := by decide
theorem i_dict_int : isi "dict" "int" = false := by decide
theorem i_dict_bool : isi "dict" "bool" = false := by decide
theorem i_dict_list : isi "dict" "list" = false := by decide
/-! == of plain data -/
theorem q_eqI {i j : Int} {M : Mem} {Q : DK} : (opEq (.int i) (.int j) M).run M Q = Q (.bl (decide (i = j))) M := by
  simp [opEq, pyM, D.pure, D.py, Res.run, PyData.depth, PyData.eqv, mostDeep, Bool.beq_eq_decide_eq]
theorem q_neI {i j : Int} {M : Mem} {Q : DK} : (opNe (.int i) (.int j) M).run M Q = Q (.bl (!decide (i = j))) M := by
  simp [opNe, pyM, D.pure, D.py, Res.run, PyData.depth, PyData.eqv, mostDeep, Bool.beq_eq_decide_eq]
theorem q_eqS {x y : Str} {M : Mem} {Q : DK} : (opEq (.str x) (.str y) M).run M Q = Q (.bl (decide (x = y))) M := by
  simp [opEq, pyM, D.pure, D.py, Res.run, PyData.depth, PyData.eqv, mostDeep, Bool.beq_eq_decide_eq]
theorem q_neS {x y : Str} {M : Mem} {Q : DK} : (opNe (.str x) (.str y) M).run M Q = Q (.bl (!decide (x = y))) M := by
  simp [opNe, pyM, D.pure, D.py, Res.run, PyData.depth, PyData.eqv, mostDeep, Bool.beq_eq_decide_eq]
mutual
theorem dat_pure : ∀ {d : D}, d.dat = true → d.pure = true
  | .v x, h => by cases x <;> first | rfl | (simp [D.dat] at h)
  | .tup ds, h => by
    simp only [D.dat, Bool.and_eq_true] at h
    simp only [D.pure]
    exact datL_pure h.2
theorem datL_pure : ∀ {ds : List D}, datL ds = true → pureL ds = true
  | [], _ => rfl
  | d :: ds, h => by
    simp only [datL, Bool.and_eq_true] at h
    simp only [pureL, Bool.and_eq_true]
    exact ⟨dat_pure h.1, datL_pure h.2⟩
end
mutual
theorem eqv_dat : ∀ {d e : D}, d.dat = true → e.dat = true → (D.eqv d e = true ↔ d = e)
  | .v x, .v y, h, g => by
    cases x <;> first | (simp [D.dat] at h; done) | skip
    all_goals cases y <;> first | (simp [D.dat] at g; done) | simp [D.eqv, D.py, PyData.eqv]
  | .v x, .tup es, h, g => by
    cases x <;> first | (simp [D.dat] at h; done) | simp [D.eqv, D.py, PyData.eqv]
  | .tup es, .v x, h, g => by
    cases x <;> first | (simp [D.dat] at g; done) | simp [D.eqv, D.py, PyData.eqv]
  | .tup ds, .tup es, h, g => by
    simp only [D.dat, Bool.and_eq_true] at h g
    have := eqvL_dat h.2 g.2
    simp only [D.eqv, D.py, PyData.eqv, D.tup.injEq]
    exact this
theorem eqvL_dat : ∀ {ds es : List D}, datL ds = true → datL es = true → (PyData.eqvAll (pyL ds) (pyL es) = true ↔ ds = es)
  | [], [], _, _ => by simp [pyL, PyData.eqvAll]
  | [], e :: es, _, _ => by simp [pyL, PyData.eqvAll]
  | d :: ds, [], _, _ => by simp [pyL, PyData.eqvAll]
  | d :: ds, e :: es, h, g => by
    simp only [datL, Bool.and_eq_true] at h g
    have h1 := eqv_dat h.1 g.1
    have h2 := eqvL_dat h.2 g.2
    simp only [pyL, PyData.eqvAll, Bool.and_eq_true, List.cons.injEq]
    unfold D.eqv at h1
    rw [h1, h2]
end
theorem ofS_inj {a b : String} : (Str.ofString a = Str.ofString b) = (a = b) := by
  apply propext
  constructor
  · intro h
    have h2 := congrArg TL.tl h
    rw [TL.tl_ofString, TL.tl_ofString] at h2
    have inj : ∀ xs ys : List Char, xs.map Char.toNat = ys.map Char.toNat → xs = ys := by
      intro xs
      induction xs with
      | nil => intro ys h; cases ys with
        | nil => rfl
        | cons y r => simp at h
      | cons x r ih => intro ys h; cases ys with
        | nil => simp at h
        | cons y t =>
          simp only [List.map_cons, List.cons.injEq] at h
          rw [Char.toNat_inj.mp h.1, ih t h.2]
    have h3 : a.toList = b.toList := inj _ _ h2
    exact String.toList_inj.mp h3
  · rintro rfl; rfl
/-! in of plain data -/
theorem any_str {x : Str} {fs : List Str} : ((fs.map D.str).any fun d => D.eqv d (.str x)) = decide (x ∈ fs) := by
  rw [List.any_map]
  induction fs with
  | nil => simp
  | cons y r ih =>
    rw [List.any_cons, ih]
    simp only [Function.comp, D.eqv, D.py, PyData.eqv, List.mem_cons, Bool.decide_or, Bool.beq_eq_decide_eq]
    congr 1
    exact decide_eq_decide.mpr eq_comm
theorem pureL_strs : ∀ {fs : List Str}, pureL (fs.map D.str) = true
  | [] => rfl
  | x :: r => by simp only [List.map_cons, pureL, D.pure, Bool.true_and]; exact pureL_strs
theorem dpL_strs : ∀ {fs : List Str}, dpL (fs.map D.str) = 0
  | [] => rfl
  | x :: r => by simp only [List.map_cons, dpL, D.dp, Nat.zero_max]; exact dpL_strs
theorem isIn_strs {x : Str} {fs : List Str} {a : Addr} {M : Mem} (h : M a = some (.lst (fs.map D.str)) ∨ M a = some (.rol (fs.map D.str))) : isIn (.str x) (.ob a) M = some (0, decide (x ∈ fs)) := by
  rcases h with h | h <;> simp [isIn, h, pureL_strs, dpL_strs, D.pure, D.dp] <;> (have := any_str (x := x) (fs := fs); simp only [List.any_map, Function.comp] at this; exact this)
theorem in_strs {x : Str} {fs : List Str} {a : Addr} {M : Mem} {Q : DK} (h : M a = some (.lst (fs.map D.str))) : (opIn (.str x) (.ob a) M).run M Q = Q (.bl (decide (x ∈ fs))) M := by
  simp [opIn, isIn_strs (.inl h), Res.run, mostDeep]
theorem notIn_strs {x : Str} {fs : List Str} {a : Addr} {M : Mem} {Q : DK} (h : M a = some (.lst (fs.map D.str))) : (opNotIn (.str x) (.ob a) M).run M Q = Q (.bl (!decide (x ∈ fs))) M := by
  simp [opNotIn, isIn_strs (.inl h), Res.run, mostDeep]
theorem in_tup {d : D} {ds : List D} {M : Mem} {Q : DK} (h1 : datL ds = true) (h2 : d.dat = true) (hm : d ∈ ds) (hd : dpL ds ≤ 150) (q : Q (.bl true) M) : (opIn d (.tup ds) M).run M Q := by
  have e : (ds.any fun e => D.eqv e d) = true := List.any_eq_true.mpr ⟨d, hm, (eqv_dat h2 h2).mpr rfl⟩
  simp only [opIn, isIn, datL_pure h1, dat_pure h2, Bool.and_self, if_true, e]
  exact ⟨Nat.le_trans (Nat.min_le_left _ _) hd, q⟩
/-! all, any of made bools -/
theorem run_all {α : Type} {xs : List α} {g : α → Bool} {a : Addr} {M : Mem} {Q : DK} (h : M a = some (.lst (xs.map fun x => D.bl (g x)))) (q : Q (.bl (xs.all g)) M) : (bAll [.ob a] M).run M Q := by
  simp only [bAll, h]
  rw [show (xs.map fun x => D.bl (g x)) = (xs.map g).map D.bl by rw [List.map_map]; rfl, bools_map]
  refine ⟨trivial, ?_⟩
  have e : (xs.map g).all id = xs.all g := by rw [List.all_map]; rfl
  rw [e]
  exact q
theorem run_any {α : Type} {xs : List α} {g : α → Bool} {a : Addr} {M : Mem} {Q : DK} (h : M a = some (.lst (xs.map fun x => D.bl (g x)))) (q : Q (.bl (xs.any g)) M) : (bAny [.ob a] M).run M Q := by
  simp only [bAny, h]
  rw [show (xs.map fun x => D.bl (g x)) = (xs.map g).map D.bl by rw [List.map_map]; rfl, bools_map]
  refine ⟨trivial, ?_⟩
  have e : (xs.map g).any id = xs.any g := by rw [List.any_map]; rfl
  rw [e]
  exact q
/-- a def of the module -/
structure Src (K : PySem.W.Frag) (mg : Str → Option Value) (x : Str) (st : Stmt) (ps : List Str) : Prop where
  ex : ∃ f fd, Fun K x x st f fd ∧ mg x = some (.ref f) ∧ PySem.W.keepIn K (.ref f) = true ∧ Binds K fd ps []
theorem Src.fn {P : Program} {w : World} {K : PySem.W.Frag} {mg : Str → Option Value} {base : Heap} {x : Str} {st : Stmt} {ps : List Str} {k : Nat} {sp : DSp} (S : Src K mg x st ps) (m : MonoSp sp)
    (h : ∀ f fd, Fun K x x st f fd → FnOk P w K mg base (L2.CX P w) k f fd ps (liftSp K sp)) : Fn P w K mg base k x sp [] := by
  obtain ⟨f, fd, F, h1, h2, h3⟩ := S.ex
  exact mkFn m (h f fd F) h1 h2 h3
theorem fn_none {P : Program} {w : World} {K : PySem.W.Frag} {mg : Str → Option Value} {base : Heap} {f : Addr} {fd : FuncData} {ps : List Str} {k : Nat} {sp : DSp} (h : ∀ ds M Q E, ¬ sp ds M Q E) : FnOk P w K mg base (L2.CX P w) k f fd ps (liftSp K sp) :=
  ⟨fun vs H Q E ⟨ds, M, _, _, z⟩ => (h _ _ _ _ z).elim, fun A outer s H args us vs Q E _ _ _ _ ⟨ds, M, _, _, z⟩ => (h _ _ _ _ z).elim⟩
theorem mono_start {K : PySem.W.Frag} : MonoSp (sp_start K) := by
  rintro ds M Q Q' E E' hQ hE ⟨a, ns, h1, h2, h⟩
  exact ⟨a, ns, h1, h2, fun r b M' z1 z2 z3 z4 => hQ _ _ (h r b M' z1 z2 z3 z4)⟩
theorem mono_draw : MonoSp sp_draw := by
  rintro ds M Q Q' E E' hQ hE ⟨a, b, m, h1, h2, h3, h4, h⟩
  exact ⟨a, b, m, h1, h2, h3, h4, fun r M' z1 z2 z3 z4 => hQ _ _ (h r M' z1 z2 z3 z4)⟩
theorem mono_one_of : MonoSp sp_one_of := by
  rintro ds M Q Q' E E' hQ hE ⟨a, b, d, es, h1, h2, h3, h4, h5, h6, h⟩
  exact ⟨a, b, d, es, h1, h2, h3, h4, h5, h6, fun x M' z1 z2 z3 => hQ _ _ (h x M' z1 z2 z3)⟩
theorem mono_is_int : MonoSp sp_is_int := by
  rintro ds M Q Q' E E' hQ hE ⟨i, h1, h⟩
  exact ⟨i, h1, hQ _ _ h⟩
theorem mono_same {n : Nat} : MonoSp (sp_same n) := by
  rintro ds M Q Q' E E' hQ hE ⟨d, h1, h2, h3, h⟩
  exact ⟨d, h1, h2, h3, fun M' z => hQ _ _ (h M' z)⟩
end PL

namespace PL
open PySem PySem.Spec PyProof.Rows L2

/-! own errors without fields -/
structure ECls (K : PySem.W.Frag) (mg : Str → Option Value) (x : Str) (C : Addr) : Prop where
  g : mg x = some (.ref C)
  n : PySem.W.excIn K C [.type "ValueError", .type "Exception", .type "BaseException", .type "object"] "ValueError.__new__" = true
  k : PySem.W.keepIn K (.ref C) = true
  b : PySem.W.subIn K (.ref C) (.type "BaseException") = some true
  t : PySem.W.typeIn K (.ref C) = some (.type "type")
  e : PySem.W.exmOne K (.ref C) (.ref C) = some true
  c : ExcC K C
theorem xs_raiseC {X : Cx} {W : WX} {pos p p2 pos2 : Pos} {x m : Str} {j : Nat} {C : Addr} (E : ECls X.K X.mg x C) (hc : X.calm = true) (tk : Takes X W) (hg : Gl X x) (hdb : (x == ("__debug__" : Str)) = false := by decide) :
    XS X W (.Raise (some (.Call (.Name x p) [.Constant (.str m) j p2] [] pos2)) none pos) (dRaise (.ref C) []) :=
  xs_raise0 hc tk (pmk_own PySem.F.excBase_ValueError E.n E.g E.k (raises_own E.b E.t) hg hdb)
/-- a suite that only errors of the class C reach -/
theorem suite_by {X : Cx} {C : Value} {st : List Stmt} {ts : Addr → DS} (h : ∀ (a : Addr) (oe : Obj) (pn : List (Addr × Obj)), Zc C none oe → (∃ vs, oe.data = .fields vs) → XSs (X.suite a ((a, oe) :: pn)) W0 st (ts a)) :
    ∀ (a : Addr) (oe : Obj) (cls : Value) (pn : List (Addr × Obj)), Zc cls none oe → (∃ vs, oe.data = .fields vs) → XSs (X.suite a ((a, oe) :: pn)) W0 st (fun D env M => cls = C ∧ ts a D env M) := by
  intro a oe cls pn hz hf
  by_cases e : cls = C
  · subst e
    have q := h a oe pn hz hf
    refine ⟨fun D D' env M l z => ⟨z.1, q.mono _ _ _ _ l z.2⟩, ⟨fun pins s σ H D I z => ?_⟩⟩
    obtain ⟨env, M, re, sm, _, z⟩ := z
    exact q.ps.run pins s σ H D I ⟨env, M, re, sm, z⟩
  · refine ⟨fun D D' env M l z => (e z.1).elim, ⟨fun pins s σ H D I z => ?_⟩⟩
    obtain ⟨env, M, re, sm, z, _⟩ := z
    exact (e z).elim
theorem suite_mono {C : Value} {ts : Addr → DS} (h : ∀ a, MonoS (ts a)) : ∀ (a : Addr) (cls : Value), MonoS (fun D env M => cls = C ∧ ts a D env M) := fun a cls D D' env M l z => ⟨z.1, h a _ _ _ _ l z.2⟩
theorem xs_tryC {X : Cx} {K : PySem.W.Frag} {mg : Str → Option Value} {W : WX} {x n : Str} {C : Addr} (i : Nat) {body suite : List Stmt} {b₀ : Stmt} {np pos' pos : Pos} {tb : DS} {ts : Addr → DS} (E : ECls K mg x C) (hK : X.K = K) (hmg : X.mg = mg) (hg : Gl X x) (hs : X.stack = X.env :: X.outer) (hf : X.env.frame = some X.env.locals) (hN : X.N.Nodup) (hln : X.env.kindOf n = some .local) (tk : Takes X W)
    (hb : ∀ (W : WX) (pn : List (Addr × Obj)) (xe : Value → Shared → Prop), Takes (X.tr pn xe) W → PassesOwn (model X.prog X.w) X.A X.env xe → XSs (X.tr pn xe) W body tb)
    (h : ∀ (a : Addr) (oe : Obj) (pn : List (Addr × Obj)), Zc (.ref C) none oe → (∃ vs, oe.data = .fields vs) → XSs (X.suite a ((a, oe) :: pn)) W0 (b₀ :: suite) (ts a)) (hdb : (x == ("__debug__" : Str)) = false := by decide) (hi : X.N[i]? = some n := by rfl) :
    XS X W (.Try body [.ExceptHandler (some (.Name x np)) (some n) (b₀ :: suite) pos'] [] [] pos) (dTryAs (fun z => PySem.W.exmOne K z (.ref C)) i tb (fun a cls D env M => cls = .ref C ∧ ts a D env M)) := by
  subst hK hmg
  have mb : MonoS tb := (hb W0 [] (fun _ _ => False) takes0 PassesOwn.never).mono
  have mt : ∀ a, MonoS (ts a) := fun a => (h a { cls := .ref C, dict := none, data := .fields #[] } [] ⟨rfl, rfl⟩ ⟨_, rfl⟩).mono
  exact xs_tryAs i hs hf hN hln ⟨hg, hdb, .inl E.g⟩ tk (suite_mono mt) hb (suite_by h) mb hi
/-- isinstance of the error that the suite holds -/
def bIsE (K : PySem.W.Frag) (D a : Addr) : DCallG := fun ds M Q => ∃ (c : V) (cv : Value) (b : Bool), ds = [.ob a, .v c] ∧ (∀ u, RelV c u → u = cv) ∧ PySem.W.kitOne K (.ref D) cv = some b ∧ Q (.bl b) M
theorem bIsE_mono {K : PySem.W.Frag} {D a : Addr} : MonoC (bIsE K D a) := by
  rintro ds M Q Q' hQ ⟨c, cv, b, h1, h2, h3, h⟩
  exact ⟨c, cv, b, h1, h2, h3, hQ _ _ h⟩
theorem c_isE {X : Cx} {K : PySem.W.Frag} {a D : Addr} {oe : Obj} {pn : List (Addr × Obj)} (C : ExcC K D) (hK : X.K = K) (hz : Zc (.ref D) none oe) (hf : ∃ vs, oe.data = .fields vs) : CallR (X.suite a ((a, oe) :: pn)) (.builtin "isinstance") (upCallG X.K (bIsE K D a)) := by
  subst hK
  rintro pins s σ H xs us Q I r ⟨ds, M, rl, sm, c, cv, b, rfl, h1, h2, h⟩
  obtain ⟨u, v, rfl, q1, q2⟩ := rl2 rl
  rw [rep_v q1, rep_v q2] at r
  exact call_isE C hz hf pins s σ H _ us Q I r ⟨c, cv, b, rfl, h1, h2, fin_val h sm⟩

/-! more of texts -/
def seqS (M : Mem) (d : D) : Option (List Str) := match d with
  | .tup ds => strsOf ds
  | d => (lstAt M d).bind strsOf
def mJoin : DMeth
  | .v (.str a), [d], M => match seqS M d with
    | some ys => .val ((ys.map (·.length)).sum + ys.length * a.length ≤ 16777216) (.str (Txt.join a ys))
    | none => .bad
  | _, _, _ => .bad
def mZfill : DMeth
  | .v (.str a), [.v (.int i)], _ => .val (PadOk i = true) (.str (Txt.zfill a i))
  | _, _, _ => .bad
def mFind3 : DMeth
  | .v (.str a), [.v (.str b), .v (.int i)], _ => .val True (.int (Txt.find3 a b i))
  | _, _, _ => .bad
section
variable {X : Cx}
theorem m_join : MtR X "str.join" (upMeth X.K mJoin) := by
  rintro pins s σ H x xs v us Q I rx rxs ⟨d, ds, M, r1, rl, sm, h⟩
  unfold mJoin at h
  split at h <;> first | exact h.elim | skip
  rename_i a d'
  split at h <;> first | exact h.elim | skip
  rename_i ys hy
  obtain ⟨u, rfl, q⟩ := rl1 rl
  rw [rep_v r1] at rx
  cases d' with
  | tup es =>
    obtain ⟨p, ws, rfl, q1, l1⟩ := rep_tup q
    rw [strsOf_eq (show strsOf es = some ys from hy)] at l1
    rw [l1.strs] at q1
    exact mt_join pins s σ H _ _ v us Q I rx rxs ⟨_, p, ys, rfl, rfl, .inr q1, h.1, fin_val h.2 sm⟩
  | v x =>
    obtain ⟨es, h1, h2⟩ := Option.bind_eq_some_iff.mp (show (lstAt M (.v x)).bind strsOf = some ys from hy)
    obtain ⟨p, ws, rfl, q1, l1⟩ := lstAt_rep sm q h1
    rw [strsOf_eq h2] at l1
    rw [l1.strs] at q1
    exact mt_join pins s σ H _ _ v us Q I rx rxs ⟨_, p, ys, rfl, rfl, .inl q1, h.1, fin_val h.2 sm⟩
theorem m_zfill : MtR X "str.zfill" (upMeth X.K mZfill) := by
  rintro pins s σ H x xs v us Q I rx rxs ⟨d, ds, M, r1, rl, sm, h⟩
  unfold mZfill at h
  split at h <;> first | exact h.elim | skip
  obtain ⟨u, rfl, q⟩ := rl1 rl
  rw [rep_v r1] at rx
  rw [rep_v q] at rxs
  exact mt_zfill pins s σ H _ _ v us Q I rx rxs ⟨_, _, rfl, rfl, h.1, fin_val h.2 sm⟩
theorem m_find3 : MtR X "str.find" (upMeth X.K mFind3) := by
  rintro pins s σ H x xs v us Q I rx rxs ⟨d, ds, M, r1, rl, sm, h⟩
  unfold mFind3 at h
  split at h <;> first | exact h.elim | skip
  obtain ⟨u, w, rfl, q, q2⟩ := rl2 rl
  rw [rep_v r1] at rx
  rw [rep_v q, rep_v q2] at rxs
  exact mt_find3 pins s σ H _ _ v us Q I rx rxs ⟨_, _, _, rfl, rfl, fin_val h.2 sm⟩
end
/-! range(i, j, c) -/
def rgc (lo c : Int) (n : Nat) : List D := (List.range n).map fun i => D.int (lo + (i : Nat) * c)
theorem rep_rangeC {K : PySem.W.Frag} {H0 : Hp} {lo c : Int} {n : Nat} : ItRep K H0 (Itc lo c n) ⟨rgc lo c n, fun _ => True⟩ where
  go := fun i H M e s k hi => by
    have hi : i < n := by simpa [rgc] using hi
    exact hi
  yld := fun i H M x H' e s k hi y => by
    obtain ⟨rfl, rfl⟩ := y
    have hi : i < n := by simpa [rgc] using hi
    exact ⟨.int (lo + (i : Nat) * c), by simp [rgc, hi], rep_of, Ext.refl, s⟩
  stop := fun H M e s k => by simp [rgc, Itc]
def rng3K (R : DIt → Mem → Prop) : List D → Mem → Prop := fun ds M => ∃ i j c n, ds = [.int i, .int j, .int c] ∧ RgC i j c n ∧ R ⟨rgc i c n, fun _ => True⟩ M
def dRange3 (ta : DA) : DI := fun env M R E => ta env M (rng3K R) E
theorem s_rng3 {ta : DA} {env M R E} : dRange3 ta env M R E = ta env M (rng3K R) E := id rfl
theorem s_rng3K {R ds M} : rng3K R ds M = ∃ i j c n, ds = [.int i, .int j, .int c] ∧ RgC i j c n ∧ R ⟨rgc i c n, fun _ => True⟩ M := id rfl
section
variable {X : Cx} {W : WX} {tg a b c : Expr} {ta : DA} {pos p : Pos}
theorem xi_range3 (hg : Gl X "range") (hm : X.mg "range" = none) (ha : XA X W [a, b, c] ta) (hs : starEach [a, b, c] X.env = (false, eval a X.env) :: starEach [b, c] X.env := by rfl) (hs2 : (backTo pos (starEach [b, c] X.env)).any (·.1) = false := by rfl) :
    XI X W tg (.Call (.Name "range" p) [a, b, c] [] pos) (dRange3 ta) := by
  refine ⟨fun env M Q Q' E E' hQ hE h => ?_, PIw (pi_range3 hg hm ha.pa hs hs2) ?_⟩
  · refine ha.mono env M _ _ _ _ (fun ds M1 q => ?_) hE h
    obtain ⟨i, j, c, n, h1, h2, h3⟩ := q
    exact ⟨i, j, c, n, h1, h2, hQ _ _ h3⟩
  rintro σ H R ⟨env, M, re, s, h⟩
  refine stepA ha.mono re s h (fun ds M1 us H1 e1 s1 re1 r1 q => ?_) fun _ _ _ z => z
  obtain ⟨i, j, c, n, rfl, h2, h3⟩ := q
  obtain ⟨u, r, rfl, q1, r1⟩ := r1
  obtain ⟨v, w, rfl, q2, q3⟩ := rl2 r1
  rw [rep_v q1, rep_v q2, rep_v q3]
  exact ⟨i, j, c, n, rfl, h2, h3 _ H1 e1 s1 rep_rangeC⟩
end
end PL

namespace PL
open PySem PySem.Spec PyProof.Rows L2 SX
/-! texts as lists of signs -/
theorem cps_S (l : List Nat) : (S l).cps.toList = l := rfl
theorem len_S (l : List Nat) : (S l).length = l.length := SX.S_len l
theorem cut_to {l : List Nat} {k : Nat} : cutS (S l) none (some (k : Int)) = S (l.take k) := by
  unfold cutS
  rw [HT.sIx_none, HT.sIx_nat, len_S, cps_S]
  apply congrArg S
  rw [List.drop_zero, Nat.sub_zero, List.take_eq_take_iff]
  omega
theorem cut_from {l : List Nat} {k : Nat} : cutS (S l) (some (k : Int)) none = S (l.drop k) := by
  unfold cutS
  rw [HT.sIx_none, HT.sIx_nat, len_S, cps_S]
  apply congrArg S
  by_cases h : k ≤ l.length
  · rw [Nat.min_eq_left h, List.take_of_length_le (by rw [List.length_drop]; omega)]
  · rw [Nat.min_eq_right (by omega), List.drop_eq_nil_of_le (Nat.le_refl _), List.drop_eq_nil_of_le (by omega), List.take_nil]
theorem cut_mid {l : List Nat} {i j : Nat} : cutS (S l) (some (i : Int)) (some (j : Int)) = S ((l.drop i).take (j - i)) := by
  unfold cutS
  rw [HT.sIx_nat, HT.sIx_nat, len_S, cps_S]
  apply congrArg S
  by_cases h : i ≤ l.length
  · rw [Nat.min_eq_left h, List.take_eq_take_iff, List.length_drop]
    omega
  · rw [Nat.min_eq_right (show l.length ≤ i by omega), List.drop_eq_nil_of_le (Nat.le_refl _), List.drop_eq_nil_of_le (show l.length ≤ i by omega), List.take_nil, List.take_nil]
theorem in_sign {c : Nat} {z : Str} {M : Mem} {Q : DK} : (opIn (.str (S [c])) (.str z) M).run M Q = Q (.bl (decide (c ∈ z.cps.toList))) M := by
  show ((match (if (1 : Nat) = 1 then some (0, decide (c ∈ z.cps.toList)) else none : Option (Nat × Bool)) with | some (n, b) => Res.val (n ≤ mostDeep) (D.bl b) | none => Res.bad).run M Q) = _
  rw [if_pos rfl]
  simp [Res.run]
theorem notIn_sign {c : Nat} {z : Str} {M : Mem} {Q : DK} : (opNotIn (.str (S [c])) (.str z) M).run M Q = Q (.bl (!decide (c ∈ z.cps.toList))) M := by
  show ((match (if (1 : Nat) = 1 then some (0, decide (c ∈ z.cps.toList)) else none : Option (Nat × Bool)) with | some (n, b) => Res.val (n ≤ mostDeep) (D.bl !b) | none => Res.bad).run M Q) = _
  rw [if_pos rfl]
  simp [Res.run]
theorem zfill_S {l : List Nat} {n : Nat} (h1 : l.length ≤ n) (h2 : ∀ c ∈ l.head?, c ≠ 43 ∧ c ≠ 45) : Txt.zfill (S l) (n : Int) = S (List.replicate (n - l.length) 48 ++ l) := by
  unfold Txt.zfill
  rw [len_S]
  by_cases h : (n : Int) ≤ l.length
  · rw [if_pos h, show n - l.length = 0 by omega]
    rfl
  · rw [if_neg h]
    have e : zfilled (S l) ((n : Int).toNat - l.length) = Builtin.Str.padded (S l) ((n : Int).toNat - l.length) 0 48 := by
      unfold zfilled
      have : (S l).cps[0]? = l.head? := by cases l <;> rfl
      rw [this]
      split
      · rename_i z; exact absurd rfl (h2 43 (by rw [z]; rfl)).1
      · rename_i z; exact absurd rfl (h2 45 (by rw [z]; rfl)).2
      · rfl
    rw [e]
    apply TL.ext_tl
    simp [Builtin.Str.padded, TL.tl]
theorem at_one {l : List Nat} {c i : Nat} : StrLaws.At (S l) (S [c]) (S l).length i ↔ l[i]? = some c := StrLaws.subAt_one (S l) c i
/-- find of one sign -/
theorem find_one {l : List Nat} {c k : Nat} (hk : k ≤ l.length) : Txt.find3 (S l) (S [c]) (k : Int) = if c ∈ l.drop k then ((k + ((l.drop k).takeWhile fun x => decide (x ≠ c)).length : Nat) : Int) else -1 := by
  have ek : fromIndex (S l).length (k : Int) = k := by
    unfold fromIndex
    rw [if_neg (by omega)]
    omega
  unfold Txt.find3
  rw [ek]
  rcases StrLaws.occ_head_from (S l) (S [c]) k 1 (Nat.le_refl 1) with ⟨e, h⟩ | ⟨i, r, e, h1, h2, h3⟩
  · rw [e, if_neg]
    intro hm
    obtain ⟨j, hj, q⟩ := List.getElem_of_mem hm
    refine h (k + j) (by omega) (at_one.mpr ?_)
    rw [← q, List.getElem_drop]
    exact List.getElem?_eq_getElem _
  · rw [e]
    have q := at_one.mp h2
    obtain ⟨hi, q⟩ := List.getElem?_eq_some_iff.mp q
    have hd : (l.drop k)[i - k]? = some c := by
      rw [List.getElem?_drop, show k + (i - k) = i by omega, List.getElem?_eq_getElem hi, q]
    have hm : c ∈ l.drop k := List.mem_of_getElem? hd
    rw [if_pos hm]
    have el : ((l.drop k).takeWhile fun x => decide (x ≠ c)).length = i - k := by
      have h4 : ∀ j, j < i - k → (l.drop k)[j]? ≠ some c := fun j hj z => h3 (k + j) (by omega) (by omega) (at_one.mpr (by rw [List.getElem?_drop] at z; exact z))
      generalize l.drop k = m at hd h4
      generalize i - k = n at hd h4
      clear e h1 h2 h3 q hi hm hk ek r
      induction n generalizing m with
      | zero =>
        cases m with
        | nil => rfl
        | cons a r =>
          have : a = c := by simpa using hd
          simp [List.takeWhile, this]
      | succ n ih =>
        cases m with
        | nil => cases hd
        | cons a r =>
          have ha : a ≠ c := fun z => h4 0 (by omega) (by rw [z]; rfl)
          have := ih r (by simpa using hd) (fun j hj => by have := h4 (j + 1) (by omega); simpa using this)
          simp only [List.takeWhile, decide_eq_true ha, List.length_cons, this]
    rw [el]
    show (i : Int) = _
    omega
end PL

namespace PL
open PySem PySem.Spec PyProof.Rows L2

/-! dicts: plain facts -/
def dropD {κ : Type} [DecidableEq κ] (kvs : List (κ × D)) (k : κ) : List (κ × D) := kvs.filter fun kv => decide (kv.1 ≠ k)
def mergeD {κ : Type} [DecidableEq κ] (kvs more : List (κ × D)) : List (κ × D) := more.foldl (fun acc kv => putD acc kv.1 kv.2) kvs
theorem RepKV.drop {κ : Type} [DecidableEq κ] {K : PySem.W.Frag} {H : Hp} {k : κ} : ∀ {kvs : List (κ × D)} {us : List (κ × V)}, RepKV K H kvs us → RepKV K H (dropD kvs k) (dropK us k)
  | [], _, h => by unfold RepKV at h; subst h; exact rfl
  | (k', d) :: r, _, h => by
    obtain ⟨u, t, rfl, q, z⟩ := h
    have ih := RepKV.drop (k := k) z
    unfold dropD dropK at ih ⊢
    by_cases e : k' = k
    · rw [List.filter_cons_of_neg (by simp [e]), List.filter_cons_of_neg (by simp [e])]
      exact ih
    · rw [List.filter_cons_of_pos (by simp [e]), List.filter_cons_of_pos (by simp [e])]
      exact ⟨u, _, rfl, q, ih⟩
theorem RepKV.merge {K : PySem.W.Frag} {H : Hp} : ∀ {more : List (Key × D)} {ms : List (Key × V)}, RepKV K H more ms → ∀ {kvs : List (Key × D)} {us : List (Key × V)}, RepKV K H kvs us → RepKV K H (mergeD kvs more) (mergeK us ms)
  | [], _, h, _, _, g => by unfold RepKV at h; subst h; exact g
  | (k, d) :: r, _, h, _, _, g => by
    obtain ⟨u, t, rfl, q, z⟩ := h
    exact RepKV.merge z (RepKV.put q g)
theorem RepKV.keys {κ : Type} {K : PySem.W.Frag} {H : Hp} : ∀ {kvs : List (κ × D)} {us : List (κ × V)}, RepKV K H kvs us → us.map (·.1) = kvs.map (·.1)
  | [], _, h => by unfold RepKV at h; subst h; rfl
  | (k, d) :: r, _, h => by
    obtain ⟨u, t, rfl, q, z⟩ := h
    simp only [List.map_cons, RepKV.keys z]
theorem RepKV.getD {K : PySem.W.Frag} {H : Hp} {kvs : List (Key × D)} {us : List (Key × V)} (h : RepKV K H kvs us) (k : Key) {d : D} {u : V} (q : RepD K H d u) : RepD K H ((PL.look kvs k).getD d) ((valV us k).getD u) := by
  have l := h.look k
  cases e : PL.look kvs k with
  | none => cases f : valV us k with
    | none => exact q
    | some _ => rw [e, f] at l; exact l.elim
  | some _ => cases f : valV us k with
    | none => rw [e, f] at l; exact l.elim
    | some _ => rw [e, f] at l; exact l
/-! get, pop -/
def dgetR (M : Mem) (a : Addr) (y z : D) : Res := match M a with
  | some (.dk kvs) => match y.key with
    | some k => .val True ((look kvs k).getD z)
    | none => .bad
  | _ => .bad
def mGet : DMeth
  | .v (.ref a), [y], M => dgetR M a y .non
  | .v (.ref a), [y, z], M => dgetR M a y z
  | _, _, _ => .bad
def mDPop : DMeth
  | .v (.ref a), [y], M => match M a with
    | some (.dk kvs) => match y.key with
      | some k => match look kvs k with
        | some d => .put True a (.dk (dropD kvs k)) d
        | none => .bad
      | none => .bad
    | _ => .bad
  | _, _, _ => .bad
section
variable {X : Cx}
theorem m_get (hu : X.A.units + 200 < cLine) : MtR X "dict.get" (upMeth X.K mGet) := by
  rintro pins s σ H x xs v us Q I rx rxs ⟨d, ds, M, r1, rl, sm, h⟩
  unfold mGet at h
  split at h <;> first | exact h.elim | skip
  all_goals
    unfold dgetR at h
    split at h <;> first | exact h.elim | skip
    split at h <;> first | exact h.elim | skip
  · rename_i kvs hm _ k hk
    obtain ⟨u, rfl, q⟩ := rl1 rl
    rw [rep_v r1] at rx
    obtain rfl : v = Value.ref _ := rx
    obtain ⟨ws, e1, l1⟩ := sm _ _ hm
    have e := key_rep hk q
    subst e
    obtain ⟨w, rfl, rw'⟩ := vals1 rxs
    exact d_get1 (by omega) I (DGet.k e1) rw' fun w' s' I' r' => ⟨_, H, I', r', fin_rep h.2 sm (l1.getD k rep_of)⟩
  · rename_i kvs hm _ k hk
    obtain ⟨u, z, rfl, q, q2⟩ := rl2 rl
    rw [rep_v r1] at rx
    obtain rfl : v = Value.ref _ := rx
    obtain ⟨ws, e1, l1⟩ := sm _ _ hm
    have e := key_rep hk q
    subst e
    obtain ⟨w, w2, rfl, rw', rw2⟩ := vals2 rxs
    exact d_get2 (by omega) I (DGet.k e1) rw' rw2 fun w' s' I' r' => ⟨_, H, I', r', fin_rep h.2 sm (l1.getD k q2)⟩
theorem m_dpop : MtR X "dict.pop" (upMeth X.K mDPop) := by
  rintro pins s σ H x xs v us Q I rx rxs ⟨d, ds, M, r1, rl, sm, h⟩
  unfold mDPop at h
  split at h <;> first | exact h.elim | skip
  split at h <;> first | exact h.elim | skip
  split at h <;> first | exact h.elim | skip
  split at h <;> first | exact h.elim | skip
  rename_i kvs hm _ k hk _ d hd
  obtain ⟨u, rfl, q⟩ := rl1 rl
  rw [rep_v r1] at rx
  obtain rfl : v = Value.ref _ := rx
  obtain ⟨ws, e1, l1⟩ := sm _ _ hm
  have e := key_rep hk q
  subst e
  obtain ⟨w, rfl, rw'⟩ := vals1 rxs
  have l := l1.look k
  rw [hd] at l
  cases hv : valV ws k with
  | none => rw [hv] at l; exact l.elim
  | some x =>
    rw [hv] at l
    have ex : Ext X.K H (upd H _ (.dK (dropK ws k))) := Ext.mut e1 True.intro
    exact d_pop I e1 rw' hv (.inl rfl) fun w' s' I' r' => ⟨x, _, I', r', fin_put h.2 sm e1 True.intro ⟨_, upd_same, RepKV.mono ex l1.drop⟩ l⟩
end
/-! dict(d), dict(pairs) -/
def pairKV : D → Option (Key × D)
  | .tup [x, y] => match x.key with
    | some k => some (k, y)
    | none => none
  | _ => none
def pairsKV : List D → Option (List (Key × D))
  | [] => some []
  | d :: r => match pairKV d, pairsKV r with
    | some p, some ps => some (p :: ps)
    | _, _ => none
def bDict : DCall
  | [.tup ds], _ => match pairsKV ds with
    | some kvs => .new (ds.length ≤ sizeLine) (.dk (mergeD [] kvs))
    | none => .bad
  | [.v (.ref a)], M => match M a with
    | some (.dk kvs) => .new True (.dk kvs)
    | _ => .bad
  | _, _ => .bad
theorem key_kV {d : D} {k : Key} (h : d.key = some k) {K : PySem.W.Frag} {H : Hp} : RepD K H d (kV k) := by
  unfold D.key at h
  split at h <;> cases h <;> exact rep_of
theorem pairs_rep {K : PySem.W.Frag} {H : Hp} : ∀ {ds : List D} {kvs : List (Key × D)} {us : List V}, pairsKV ds = some kvs → RepL K H ds us → ∃ (ps : List Addr) (ws : List (Key × V)), us = ps.map V.ref ∧ Paired (fun p kv => SqT K H p [kV kv.1, kv.2]) ps ws ∧ RepKV K H kvs ws
  | [], kvs, us, h, r => by
    unfold RepL at r
    simp only [pairsKV, Option.some.injEq] at h
    subst h r
    exact ⟨[], [], rfl, .nil, rfl⟩
  | d :: ds, kvs, us, h, r => by
    unfold RepL at r
    obtain ⟨u, t, rfl, q, z⟩ := r
    unfold pairsKV at h
    split at h
    · rename_i p ps h1 h2
      cases h
      obtain ⟨qs, ws, rfl, g1, g2⟩ := pairs_rep h2 z
      unfold pairKV at h1
      split at h1
      · split at h1
        · rename_i x y _ k hk
          cases h1
          obtain ⟨a, vs, rfl, q1, l⟩ := rep_tup q
          obtain ⟨v1, v2, rfl, r1, r2⟩ := rl2 l
          have e := key_rep hk r1
          subst e
          exact ⟨a :: qs, (k, v2) :: ws, rfl, .cons q1 g1, ⟨v2, ws, rfl, r2, g2⟩⟩
        · cases h1
      · cases h1
    · cases h
section
variable {X : Cx}
theorem pairs_at {pins : List (Addr × Obj)} {σ : L2.St} {H : Hp} {s : Shared} (I : Inv X pins σ H s) : ∀ {ps : List Addr} {kvs : List (Key × V)}, Paired (fun p kv => SqT X.K H p [kV kv.1, kv.2]) ps kvs →
    ∃ (prs : List (Key × Value)) (vv : List (Value × Value)), KV kvs prs ∧ prs.length = ps.length ∧ vv.length = ps.length ∧ (∀ (j : Nat) (k v : Value), vv[j]? = some (k, v) → PairAt s.heap (ps.getD j 0) k v ∧ ∃ q, prs[j]? = some q ∧ q.2 = v ∧ (mixKind X.prog X.w).is q.1 k = true)
  | _, _, .nil => ⟨[], [], .nil, rfl, rfl, fun j k v e => by simp at e⟩
  | _, _, .cons (a := p) (b := kv) h t => by
    obtain ⟨prs, vv, r, hl, hl2, hp⟩ := pairs_at I t
    obtain ⟨its, rv, ht, _⟩ := I.tuple h
    obtain ⟨u, y, ei, ru, ry⟩ := vals2 rv
    subst ei
    refine ⟨(kv.1, y) :: prs, (u, y) :: vv, .cons ⟨rfl, ry⟩ r, by rw [List.length_cons, List.length_cons, hl], by rw [List.length_cons, List.length_cons, hl2], fun j k v e => ?_⟩
    cases j with
    | zero =>
      have e' : (u, y) = (k, v) := Option.some.inj e
      cases e'
      exact ⟨.inl ht, (kv.1, y), rfl, rfl, kV_is ru⟩
    | succ j =>
      obtain ⟨g1, g2⟩ := hp j k v (by simpa using e)
      exact ⟨by simpa using g1, by simpa using g2⟩
/-- dict(xs) of a tuple of pairs that has no attributes -/
theorem call_dictPT (hcalm : X.calm = true) : CallR X (.type "dict") (fun xs H Q => ∃ (a : Addr) (o : Obj) (ps : List Addr) (kvs : List (Key × V)), xs = [.ref a] ∧ H a = some (.frz o (.tup (ps.map V.ref))) ∧ o.dict = none ∧ Paired (fun p kv => SqT X.K H p [kV kv.1, kv.2]) ps kvs ∧
    ∀ p, H p = none → Q (.ref p) (upd H p (.dK (mergeK [] kvs)))) := by
  intro pins s σ H xs us Q I r q
  obtain ⟨a, o, ps, kvs, ex, hq, hd, hp, q⟩ := q
  subst ex
  obtain ⟨u, eu, rx⟩ := vals1 r
  subst eu
  cases rx
  obtain ⟨ho, hz, its, rv, o', ho', hc, n, hdat⟩ := I.hok _ _ hq
  rw [ho] at ho'
  cases ho'
  have ei := refs_at rv
  subst ei
  rw [List.length_map] at hz
  obtain ⟨prs, vv, rel, hl, hl2, hpr⟩ := pairs_at I hp
  refine PySem.call_dict_pairs (knd := mixKind X.prog X.w) (kvs := prs) (PairArg.tuple a (ps.map Value.ref).toArray (fun j => ps.getD j 0) vv) (I.ok.hd hcalm) ⟨⟨o, n, ho, hc, hd, hdat⟩, by simp [hl2], fun j k v e => ⟨?_, (hpr j k v e).1⟩⟩ ⟨by rw [hl, hl2], fun i key v e => ?_⟩ (by rw [hl2]; exact hz) fun h' tk hd' k => ?_
  · have hj : j < ps.length := by rw [← hl2]; exact (List.getElem?_eq_some_iff.mp e).1
    simp [List.getElem?_eq_getElem hj]
  · obtain ⟨q', g1, g2, g3⟩ := (hpr i key v e).2
    exact ⟨q'.1, by rw [g1, ← g2], g3⟩
  · have hm : (s.heap.objs.size == sysModules) = false := beq_eq_false_iff_ne.mpr (Nat.ne_of_gt I.big)
    have hlen : (mergeK [] kvs).length ≤ sizeLine := by
      refine Nat.le_trans (length_mergeK kvs []) ?_
      rw [List.length_nil, Nat.zero_add, rel.length, hl]
      exact hz
    exact ⟨.ref s.heap.objs.size, upd H s.heap.objs.size (.dK (mergeK [] kvs)), I.laid (t' := tk) (fun b o e => k b o (by simp) e) (Nat.le_refl _) (show ObjOk X.prog X.w _ _ _ (.dK (mergeK [] kvs)) from ⟨hlen, hm, merged [] prs, KV.merge rel .nil, hd'⟩), rfl, q _ (I.hok.fresh (Nat.le_refl _))⟩
/-- tuple(xs), xs a list: the new tuple has no attributes -/
theorem call_tupleC : CallR X (.type "tuple") (fun xs H Q => ∃ p ys, xs = [.ref p] ∧ SqL X.K H p ys ∧ ∀ l o, o.dict = none → H l = none → Q (.ref l) (upd H l (.frz o (.tup ys)))) := by
  intro pins s σ H xs us Q I r h
  obtain ⟨p, ys, rfl, hq, q⟩ := h
  obtain ⟨u, rfl, rx⟩ := vals1 r
  cases rx
  obtain ⟨its, r', pl, hz⟩ := I.list hq
  have hlen := r'.length
  refine call_tuple_list pl.isList (fun h' kp => ?_) (by simp only [List.size_toArray] <;> omega)
  have I1 : Inv X pins σ H { s with heap := h' } := I.kept (t' := s.toks) kp
  have I2 : Inv X pins σ (upd H h'.objs.size (.frz { cls := .type "tuple", data := .seq its.toArray } (.tup ys))) { s with heap := h'.push { cls := .type "tuple", data := .seq its.toArray } } :=
    I1.laid (t' := s.toks) (fun b o e => Heap.get?_push_of_some _ e) (Nat.le_refl _) ⟨Heap.get?_push_size _ rfl, hz, its, r', IsTup.new _ _⟩
  exact ⟨.ref h'.objs.size, _, I2, rfl, q _ { cls := .type "tuple", data := .seq its.toArray } rfl (I1.hok.fresh (Nat.le_refl _))⟩
end
/-- tuple(list), told as a thing -/
def bTupC : DCall
  | [.v (.ref a)], M => match M a with
    | some (.lst ds) => .new True (.ctp ds)
    | some (.rol ds) => .new True (.ctp ds)
    | _ => .bad
  | _, _ => .bad
def bDictC : DCall
  | [.v (.ref a)], M => match M a with
    | some (.dk kvs) => .new True (.dk kvs)
    | some (.rdk kvs) => .new True (.dk kvs)
    | some (.ctp ds) => match pairsKV ds with
      | some kvs => .new True (.dk (mergeD [] kvs))
      | none => .bad
    | some (.lst ds) => match pairsKV ds with
      | some kvs => .new True (.dk (mergeD [] kvs))
      | none => .bad
    | _ => .bad
  | _, _ => .bad
section
variable {X : Cx}
theorem repO_ctp {K : PySem.W.Frag} {H : Hp} {p : Addr} {o : Obj} {ds : List D} {us : List V} (ex : Ext K H (upd H p (.frz o (.tup us)))) (n : o.dict = none) (l : RepL K H ds us) : RepO K (upd H p (.frz o (.tup us))) p (.ctp ds) := ⟨o, us, upd_same, n, RepL.mono ex _ l⟩
theorem c_tupC : CallR X (.type "tuple") (upCall X.K bTupC) := by
  rintro pins s σ H xs us Q I r ⟨ds, M, rl, sm, h⟩
  unfold bTupC at h
  split at h <;> first | exact h.elim | skip
  obtain ⟨u, rfl, q⟩ := rl1 rl
  rw [rep_v q] at r
  split at h <;> first | exact h.elim | skip
  · rename_i hm
    obtain ⟨ws, q1, l1⟩ := sm.seq (.inl hm)
    exact call_tupleC pins s σ H _ us Q I r ⟨_, _, rfl, q1, fun l o n hl => fin_new h.2 sm hl (repO_ctp (Ext.new hl) n l1)⟩
  · rename_i hm
    obtain ⟨ws, q1, l1⟩ := sm.seq (.inr hm)
    exact call_tupleC pins s σ H _ us Q I r ⟨_, _, rfl, q1, fun l o n hl => fin_new h.2 sm hl (repO_ctp (Ext.new hl) n l1)⟩
theorem repO_dk {K : PySem.W.Frag} {H : Hp} {p : Addr} {kvs : List (Key × D)} {us : List (Key × V)} (ex : Ext K H (upd H p (.dK us))) (l : RepKV K H kvs us) : RepO K (upd H p (.dK us)) p (.dk kvs) := ⟨us, upd_same, RepKV.mono ex l⟩
theorem c_dictC (hcalm : X.calm = true) : CallR X (.type "dict") (upCall X.K bDictC) := by
  rintro pins s σ H xs us Q I r ⟨ds, M, rl, sm, h⟩
  unfold bDictC at h
  split at h <;> first | exact h.elim | skip
  obtain ⟨u, rfl, q⟩ := rl1 rl
  rw [rep_v q] at r
  split at h <;> first | exact h.elim | skip
  · rename_i hm
    obtain ⟨ws, q1, l1⟩ := sm _ _ hm
    exact call_dictD pins s σ H _ us Q I r ⟨_, _, rfl, .inl q1, fun l hl => fin_new h.2 sm hl (repO_dk (Ext.new hl) l1)⟩
  · rename_i hm
    obtain ⟨o, ws, q1, l1⟩ := sm _ _ hm
    exact call_dictD pins s σ H _ us Q I r ⟨_, _, rfl, .inr ⟨o, q1⟩, fun l hl => fin_new h.2 sm hl (repO_dk (Ext.new hl) l1)⟩
  · split at h <;> first | exact h.elim | skip
    rename_i hm _ kvs hk
    obtain ⟨o, ws, q1, n, l1⟩ := sm _ _ hm
    obtain ⟨ps, vs, rfl, g1, g2⟩ := pairs_rep hk l1
    exact call_dictPT hcalm pins s σ H _ us Q I r ⟨_, o, _, _, rfl, q1, n, g1, fun l hl => fin_new h.2 sm hl (repO_dk (Ext.new hl) (RepKV.merge g2 rfl))⟩
  · split at h <;> first | exact h.elim | skip
    rename_i hm _ kvs hk
    obtain ⟨ws, q1, l1⟩ := sm.seq (.inl hm)
    obtain ⟨ps, vs, rfl, g1, g2⟩ := pairs_rep hk l1
    exact call_dictP hcalm pins s σ H _ us Q I r ⟨_, _, _, rfl, q1, g1, fun l hl => fin_new h.2 sm hl (repO_dk (Ext.new hl) (RepKV.merge g2 rfl))⟩
end
/-! == of two dicts, one of them empty -/
def eqDR (M : Mem) (x y : D) (f : Bool → Bool) : Res := match x, y with
  | .v (.ref a), .v (.ref b) => match M a, M b with
    | some (.dk ks), some (.dk ls) => .val (ks = [] ∨ ks.length ≠ ls.length) (.bl (f (decide (ks.length = ls.length))))
    | _, _ => .bad
  | _, _ => .bad
def opEqD : DOp2 := fun x y M => eqDR M x y id
def opNeD : DOp2 := fun x y M => eqDR M x y (!·)
section
variable {X : Cx}
theorem bl_eqD : ∀ x y M Q, (opEqD x y M).run M Q → (opEqD x y M).run M fun d M' => (∃ k, d = .bl k) ∧ Q d M' := fun x y M Q h => by
  unfold opEqD eqDR at h ⊢
  split at h <;> first | exact h.elim | skip
  split at h <;> first | exact h.elim | skip
  exact ⟨h.1, ⟨_, rfl⟩, h.2⟩
theorem bl_neD : ∀ x y M Q, (opNeD x y M).run M Q → (opNeD x y M).run M fun d M' => (∃ k, d = .bl k) ∧ Q d M' := fun x y M Q h => by
  unfold opNeD eqDR at h ⊢
  split at h <;> first | exact h.elim | skip
  split at h <;> first | exact h.elim | skip
  exact ⟨h.1, ⟨_, rfl⟩, h.2⟩
theorem x_eqD (hu : X.A.units + 200 < cLine) : XOp X (compareOp .Eq) opEqD := by
  rintro pins s σ H x y v u Q I rx ry ⟨dx, dy, M, r1, r2, sm, h⟩
  unfold opEqD eqDR at h
  split at h <;> first | exact h.elim | skip
  split at h <;> first | exact h.elim | skip
  rename_i a b _ _ ks ls hm1 hm2
  rw [rep_v r1] at rx
  rw [rep_v r2] at ry
  obtain rfl : v = Value.ref _ := rx
  obtain rfl : u = Value.ref _ := ry
  obtain ⟨us, ea, la⟩ := sm _ _ hm1
  obtain ⟨ws, eb, lb⟩ := sm _ _ hm2
  obtain ⟨_, ya, va, ra, da⟩ := (show ObjOk X.prog X.w H s.heap _ (.dK us) from I.hok _ _ ea)
  obtain ⟨_, yb, vb, rb, db⟩ := (show ObjOk X.prog X.w H s.heap _ (.dK ws) from I.hok _ _ eb)
  have l1 : va.length = ks.length := by rw [← ra.length]; exact la.length
  have l2 : vb.length = ls.length := by rw [← rb.length]; exact lb.length
  refine PySem.W.keq_eq (knd := mixKind X.prog X.w) (r := true) ya yb da db (by omega) (fun e => ?_) ?_
  · rcases h.1 with z | z
    · have : us = [] := List.eq_nil_of_length_eq_zero (by rw [la.length, z]; rfl)
      subst this
      exact hits_all rb ra fun p hp => by cases hp
    · exact absurd (by rw [← l1, ← l2]; exact e) z
  · exact ⟨.bl (decide (ks.length = ls.length)), H, I, by rw [l1, l2, Bool.and_true]; rfl, fin_val h.2 sm⟩
theorem x_neD (hu : X.A.units + 200 < cLine) : XOp X (compareOp .NotEq) opNeD := by
  rintro pins s σ H x y v u Q I rx ry ⟨dx, dy, M, r1, r2, sm, h⟩
  unfold opNeD eqDR at h
  split at h <;> first | exact h.elim | skip
  split at h <;> first | exact h.elim | skip
  rename_i a b _ _ ks ls hm1 hm2
  rw [rep_v r1] at rx
  rw [rep_v r2] at ry
  obtain rfl : v = Value.ref _ := rx
  obtain rfl : u = Value.ref _ := ry
  obtain ⟨us, ea, la⟩ := sm _ _ hm1
  obtain ⟨ws, eb, lb⟩ := sm _ _ hm2
  obtain ⟨_, ya, va, ra, da⟩ := (show ObjOk X.prog X.w H s.heap _ (.dK us) from I.hok _ _ ea)
  obtain ⟨_, yb, vb, rb, db⟩ := (show ObjOk X.prog X.w H s.heap _ (.dK ws) from I.hok _ _ eb)
  have l1 : va.length = ks.length := by rw [← ra.length]; exact la.length
  have l2 : vb.length = ls.length := by rw [← rb.length]; exact lb.length
  refine PySem.W.keq_ne (knd := mixKind X.prog X.w) (r := true) ya yb da db (by omega) (fun e => ?_) ?_
  · rcases h.1 with z | z
    · have : us = [] := List.eq_nil_of_length_eq_zero (by rw [la.length, z]; rfl)
      subst this
      exact hits_all rb ra fun p hp => by cases hp
    · exact absurd (by rw [← l1, ← l2]; exact e) z
  · exact ⟨.bl (!decide (ks.length = ls.length)), H, I, by rw [l1, l2, Bool.and_true]; rfl, fin_val h.2 sm⟩
end
/-! sorted of a dict's keys -/
def sKeys (kvs : List (Key × D)) (ss : List Str) : Prop := kvs.map (·.1) = ss.map Sum.inr
def iKeysD (kvs : List (Key × D)) (ss : List Int) : Prop := kvs.map (·.1) = ss.map Sum.inl
def dkAt (M : Mem) (a : Addr) (kvs : List (Key × D)) : Prop := M a = some (.dk kvs) ∨ M a = some (.rdk kvs)
theorem dkAt.rep {K : PySem.W.Frag} {H : Hp} {M : Mem} {a : Addr} {kvs : List (Key × D)} (h : dkAt M a kvs) (s : Sim K H M) : ∃ us, Rd H a (.dK us) ∧ RepKV K H kvs us := by
  rcases h with h | h
  · obtain ⟨us, q, l⟩ := s _ _ h; exact ⟨us, .inl q, l⟩
  · obtain ⟨o, us, q, l⟩ := s _ _ h; exact ⟨us, .inr ⟨o, q⟩, l⟩
def bSortD : DCallG := fun ds M Q => ∃ a kvs, ds = [.ob a] ∧ dkAt M a kvs ∧ ((∃ ss, sKeys kvs ss ∧ ss.length < 64 ∧ ∀ ys p, sortedS ys = true → ys.Perm ss → M p = none → Q (.ob p) (mupd M p (.lst (ys.map D.str)))) ∨
  ∃ ss, iKeysD kvs ss ∧ ss.length < 64 ∧ ∀ (ys : List Int) p, ys.Perm ss → ys.Pairwise (· ≤ ·) → M p = none → Q (.ob p) (mupd M p (.lst (ys.map D.int))))
theorem bSortD_mono : MonoC bSortD := by
  rintro ds M Q Q' hQ ⟨a, kvs, h1, h2, (⟨ss, h3, h4, h⟩ | ⟨ss, h3, h4, h⟩)⟩
  · exact ⟨a, kvs, h1, h2, .inl ⟨ss, h3, h4, fun ys p a b c => hQ _ _ (h ys p a b c)⟩⟩
  · exact ⟨a, kvs, h1, h2, .inr ⟨ss, h3, h4, fun ys p a b c => hQ _ _ (h ys p a b c)⟩⟩
section
variable {X : Cx}
theorem c_sortD (hcalm : X.calm = true) : CallR X (.builtin "sorted") (upCallG X.K bSortD) := by
  rintro pins s σ H xs us Q I r ⟨ds, M, rl, sm, a, kvs, rfl, hd, h⟩
  obtain ⟨u, rfl, q⟩ := rl1 rl
  rw [rep_v q] at r
  obtain ⟨ws, e1, l1⟩ := hd.rep sm
  rcases h with ⟨ss, h3, h4, h⟩ | ⟨ss, h3, h4, h⟩
  · exact call_sortedD hcalm pins s σ H _ us Q I r ⟨a, ws, ss, rfl, e1, by rw [l1.keys]; exact h3, h4, fun ys p z1 z2 hp => fin_lst (fun p hp => h ys p z2 z1 hp) sm hp .of_strs⟩
  · exact call_sortedDI hcalm pins s σ H _ us Q I r ⟨a, ws, ss, rfl, e1, by rw [l1.keys]; exact h3, h4, fun ys p z1 z2 hp => fin_lst (fun p hp => h ys p z1 z2 hp) sm hp .of_ints⟩
end
/-! a dict is walked by its keys, while it is locked -/
def keyD : Key → D
  | .inl i => .int i
  | .inr x => .str x
theorem keyD_key (k : Key) : (keyD k).key = some k := by cases k <;> rfl
theorem keyD_rep {K : PySem.W.Frag} {H : Hp} (k : Key) : RepD K H (keyD k) (kV k) := key_kV (keyD_key k)
theorem rep_keys {K : PySem.W.Frag} {H0 : Hp} {a : Addr} {o : Obj} {kvs : List (Key × D)} {us : List (Key × V)} (h0 : H0 a = some (.frz o (.dK us))) (l0 : RepKV K H0 kvs us) : ItRep K H0 (Itk a o us) ⟨kvs.map fun kv => keyD kv.1, fun _ => True⟩ where
  go := fun i H M e s _ hi => ⟨e.fz _ _ _ h0, by rw [l0.length]; simpa using hi⟩
  yld := fun i H M x H' e s _ hi y => by
    obtain ⟨rfl, k, v, hk, rfl⟩ := y
    refine ⟨keyD k, ?_, keyD_rep k, Ext.refl, s⟩
    have := congrArg (fun l => l[i]?) l0.keys
    simp only [List.getElem?_map, hk, Option.map_some] at this
    rw [List.getElem?_map]
    cases e2 : kvs[i]? with
    | none => rw [e2] at this; cases this
    | some p => rw [e2] at this; simp only [Option.map_some, Option.some.injEq] at this ⊢; rw [← this]
  stop := fun H M e s _ => ⟨e.fz _ _ _ h0, by rw [l0.length]; simp⟩
def keysR (R : DIt → Mem → Prop) : DK := fun d M => ∃ a kvs, d = .ob a ∧ M a = some (.rdk kvs) ∧ R ⟨kvs.map fun kv => keyD kv.1, fun _ => True⟩ M
def dKeys (te : DE) : DI := fun env M R E => te env M (keysR R) E
theorem s_keys {te env M R E} : dKeys te env M R E = te env M (keysR R) E := id rfl
section
variable {X : Cx} {W : WX} {tg e : Expr} {te : DE}
theorem xi_keys (he : XE X W e te) : XI X W tg e (dKeys te) := by
  refine ⟨fun env M Q Q' E E' hQ hE => he.mono env M _ _ _ _ (fun d M1 ⟨a, kvs, h1, h2, h⟩ => ⟨a, kvs, h1, h2, hQ _ _ h⟩) hE, PIw (pi_keys he.pe) ?_⟩
  rintro σ H R ⟨env, M, re, sm, h⟩
  refine stepE he.mono re sm h (fun d M1 u H1 e1 s1 re1 r1 q => ?_) fun _ _ _ z => z
  obtain ⟨a, kvs, rfl, hm, q⟩ := q
  obtain ⟨o, us, q1, l1⟩ := s1 _ _ hm
  exact ⟨a, o, rep_v r1, .inl ⟨us, q1, q _ H1 e1 s1 (rep_keys q1 l1)⟩⟩
abbrev SqTo (K : PySem.W.Frag) (H H' : Hp) : Prop := ∀ a xs, SqT K H a xs → SqT K H' a xs
mutual
theorem RepD.monoS {K : PySem.W.Frag} {H H' : Hp} (e : SqTo K H H') : ∀ (d : D) {u : V}, RepD K H d u → RepD K H' d u
  | .v _, _, h => by unfold RepD at h ⊢; exact h
  | .tup ds, _, h => by
    unfold RepD at h ⊢
    obtain ⟨a, us, e1, q, r⟩ := h
    exact ⟨a, us, e1, e _ _ q, RepL.monoS e ds r⟩
theorem RepL.monoS {K : PySem.W.Frag} {H H' : Hp} (e : SqTo K H H') : ∀ (ds : List D) {us : List V}, RepL K H ds us → RepL K H' ds us
  | [], _, h => by unfold RepL at h ⊢; exact h
  | d :: ds, _, h => by
    unfold RepL at h ⊢
    obtain ⟨u, r, e1, q, t⟩ := h
    exact ⟨u, r, e1, RepD.monoS e d q, RepL.monoS e ds t⟩
end
theorem RepKV.monoS {κ : Type} {K : PySem.W.Frag} {H H' : Hp} (e : SqTo K H H') : ∀ {kvs : List (κ × D)} {us : List (κ × V)}, RepKV K H kvs us → RepKV K H' kvs us
  | [], _, h => h
  | (k, d) :: r, _, h => by
    obtain ⟨u, t, e1, q, z⟩ := h
    exact ⟨u, t, e1, RepD.monoS e d q, RepKV.monoS e z⟩
theorem RepO.monoS {K : PySem.W.Frag} {H H' : Hp} {a : Addr} (e : SqTo K H H') (h : H' a = H a) : ∀ {o : Ob}, RepO K H a o → RepO K H' a o
  | .lst _, ⟨us, q, r⟩ => ⟨us, by rw [h]; exact q, RepL.monoS e _ r⟩
  | .rol _, ⟨o, us, q, r⟩ => ⟨o, us, by rw [h]; exact q, RepL.monoS e _ r⟩
  | .dk _, ⟨us, q, r⟩ => ⟨us, by rw [h]; exact q, RepKV.monoS e r⟩
  | .rdk _, ⟨o, us, q, r⟩ => ⟨o, us, by rw [h]; exact q, RepKV.monoS e r⟩
  | .ctp _, ⟨o, us, q, n, r⟩ => ⟨o, us, by rw [h]; exact q, n, RepL.monoS e _ r⟩
  | .ins _ _, ⟨dx, us, q, r⟩ => ⟨dx, us, by rw [h]; exact q, RepKV.monoS e r⟩
/-- while e runs, the dict that te gives is locked -/
def lockK (a : Addr) (kvs : List (Key × D)) (Q : DK) : DK := fun d M => M a = some (.rdk kvs) ∧ Q d (mupd M a (.dk kvs))
def dLock (t : DE) : DE := fun env M Q E => ∃ a kvs, M a = some (.dk kvs) ∧ t env (mupd M a (.rdk kvs)) (lockK a kvs Q) noX
theorem s_lockK {a kvs Q d M} : lockK a kvs Q d M = (M a = some (.rdk kvs) ∧ Q d (mupd M a (.dk kvs))) := id rfl
theorem xe_lock {t : DE} (he : XE X W e t) : XE X W e (dLock t) := by
  refine ⟨fun env M Q Q' E E' hQ hE ⟨a, kvs, h1, h⟩ => ⟨a, kvs, h1, he.mono _ _ _ _ _ _ (fun d M1 z => ⟨z.1, hQ _ _ z.2⟩) (fun _ _ _ z => z) h⟩, PEw (pe_lock he.pe) ?_⟩
  rintro σ H Q ⟨env, M, re, sm, a, kvs, hm, h⟩
  obtain ⟨us, q1, l1⟩ := sm _ _ hm
  refine ⟨a, _, q1, True.intro, fun od => ?_⟩
  have ex : Ext X.K H (upd H a (.frz od (.dK us))) := Ext.mut q1 True.intro
  have sm1 : Sim X.K (upd H a (.frz od (.dK us))) (mupd M a (.rdk kvs)) := sm.put q1 True.intro ⟨od, us, upd_same, RepKV.mono ex l1⟩
  refine stepE he.mono (re.mono ex) sm1 h (fun d M1 u H1 e1 s1 re1 r1 q => ?_) fun _ _ _ z => z.elim
  have hf : H1 a = some (.frz od (.dK us)) := e1.fz _ _ _ upd_same
  refine ⟨hf, ?_⟩
  have sq : ∀ b xs, SqT X.K H1 b xs → SqT X.K (upd H1 a (.dK us)) b xs := fun b xs g => by
    rcases g with (g | ⟨ob, g⟩) | g
    · exact .inl (.inl (by rw [upd_ne (fun z => by rw [z, hf] at g; cases g)]; exact g))
    · exact .inl (.inr ⟨ob, by rw [upd_ne (fun z => by rw [z, hf] at g; cases g)]; exact g⟩)
    · exact .inr g
  have ex2 : Ext X.K H (upd H1 a (.dK us)) := ⟨fun b xs g => sq b xs (e1.sq b xs (ex.sq b xs g)), fun b o v g => by
    have hb : b ≠ a := fun z => by rw [z, q1] at g; cases g
    rw [upd_ne hb]
    exact e1.fz _ _ _ (by rw [upd_ne hb]; exact g)⟩
  refine q.2 u _ ex2 (fun b ob g => ?_) (RepD.monoS sq d r1)
  by_cases hb : b = a
  · subst hb
    rw [mupd_same] at g
    cases g
    exact ⟨us, upd_same, RepKV.monoS sq (RepKV.mono e1 (RepKV.mono ex l1))⟩
  · rw [mupd_ne hb] at g
    exact (s1 b ob g).monoS sq (upd_ne hb)
end
/-! dict comprehensions -/
/-- a: the new dict; the items, what is made so far -/
def dDcGo (keep : Mem → Prop) (p : Pat) (tt : DT) (tk tv : DE) (env : DEnv) (a : Addr) (Q : DK) : List D → List (Key × D) → Mem → Prop
  | [], acc, M => keep M ∧ M a = some (.dk acc) ∧ Q (.ob a) M
  | x :: r, acc, M => keep M ∧ match p.bind M x env with
    | some env1 => tt env1 M (fun b M2 => if b = true then tk env1 M2 (fun y M3 => tv env1 M3 (fun z M4 => ∃ k, y.key = some k ∧ M4 a = some (.dk acc) ∧ acc.length < sizeLine ∧ dDcGo keep p tt tk tv env a Q r (putD acc k z) (mupd M4 a (.dk (putD acc k z)))) noX) noX else dDcGo keep p tt tk tv env a Q r acc M2) noX
    | none => False
def dcK (p : Pat) (tt : DT) (tk tv : DE) (vs : List Nat) (env : DEnv) (Q : DK) : DIt → Mem → Prop := fun J M => ∀ a, M a = none → dDcGo J.keep p tt tk tv (wipeD env vs) a Q J.items [] (mupd M a (.dk []))
def dDc (ti : DI) (p : Pat) (tt : DT) (tk tv : DE) (vs : List Nat) : DE := fun env M Q E => ti env M (dcK p tt tk tv vs env Q) E
theorem dDcGo_mono {keep : Mem → Prop} {p : Pat} {tt : DT} {tk tv : DE} (ht : MonoT tt) (hk : MonoE tk) (he : MonoE tv) {env : DEnv} {a : Addr} {Q Q' : DK} (hQ : ∀ d M, Q d M → Q' d M) : ∀ (xs : List D) (acc : List (Key × D)) (M : Mem), dDcGo keep p tt tk tv env a Q xs acc M → dDcGo keep p tt tk tv env a Q' xs acc M
  | [], acc, M, h => ⟨h.1, h.2.1, hQ _ _ h.2.2⟩
  | x :: r, acc, M, h => by
    refine ⟨h.1, ?_⟩
    have h2 := h.2
    split
    · rename_i env1 hb1
      rw [hb1] at h2
      refine ht _ _ _ _ _ _ (fun b M2 => ?_) (fun _ _ _ z => z) h2
      cases b with
      | true =>
        rw [if_pos rfl, if_pos rfl]
        exact hk _ _ _ _ _ _ (fun y M3 => he _ _ _ _ _ _ (fun z M4 ⟨k, z1, z2, z3, z4⟩ => ⟨k, z1, z2, z3, dDcGo_mono ht hk he hQ r _ _ z4⟩) (fun _ _ _ z => z)) (fun _ _ _ z => z)
      | false =>
        rw [if_neg Bool.false_ne_true, if_neg Bool.false_ne_true]
        exact dDcGo_mono ht hk he hQ r _ _
    · rename_i hb1
      rw [hb1] at h2
      exact h2
section
variable {X : Cx} {W : WX} {kx vx tg iter : Expr} {ifs : List Expr} {scope : Scope} {own : List (Str × Nat)} {pos : Pos} {ti : DI} {p : Pat} {tt : DT} {tk tv : DE}
theorem dc_up (hi : XI X W tg iter ti) (mt : MonoT tt) (mk : MonoE tk) (me : MonoE tv) (vs : List Nat) (hv : ∀ i ∈ p.slots, i ∈ vs) : ∀ σ H Q, liftE X.K W (dDc ti p tt tk tv vs) σ H Q → tDc (liftI X.K W ti) (p.tg X.K) (liftT X.K W0 tt) (liftE X.K W0 tk) (liftE X.K W0 tv) vs σ H Q := by
  rintro σ H Q ⟨env, M, re, s, h⟩
  refine ⟨env, M, re, s, hi.mono _ _ _ _ _ _ (fun J M1 q J' H1 e1 s1 ir => ?_) (fun _ _ _ z => z) h⟩
  intro a ha
  have q := q a (s1.free ha)
  have sA : Sim X.K (upd H1 a (.dK [])) (mupd M1 a (.dk [])) := s1.new ha (repO_dk (us := []) (Ext.new ha) rfl)
  have eA : Ext X.K H1 (upd H1 a (.dK [])) := Ext.new ha
  refine ⟨fun i m H' => m = J.items.length - i ∧ i ≤ J.items.length ∧ Ext X.K H1 H' ∧ ∃ M acc, Sim X.K H' M ∧ dDcGo J.keep p tt tk tv (wipeD env vs) a (upK X.K H Q) (J.items.drop i) acc M,
    ⟨J.items.length, by simp, Nat.zero_le _, eA, _, [], sA, by simpa using q⟩, ?_⟩
  rintro i m H2 ⟨rfl, hi2, e2, M2, acc, s2, q2⟩
  by_cases hlt : i < J.items.length
  · rw [List.drop_eq_getElem_cons hlt] at q2
    obtain ⟨kp, q2⟩ := q2
    refine .inr ⟨ir.go i H2 M2 e2 s2 kp hlt, fun H' => Ext X.K H1 H' ∧ ∃ M acc, Sim X.K H' M ∧ dDcGo J.keep p tt tk tv (wipeD env vs) a (upK X.K H Q) (J.items.drop (i + 1)) acc M, fun H' n => ⟨_, by omega, rfl, hlt, n⟩, fun x H3 y => ?_⟩
    obtain ⟨d, hd, r3, e3, s3⟩ := ir.yld i H2 M2 x H3 e2 s2 kp hlt y
    rw [List.getElem?_eq_getElem hlt] at hd
    obtain rfl := Option.some.inj hd
    split at q2
    · rename_i env3 hb3
      have re3 : RepE X.K H3 (wipeD env vs) (L2.wipe σ vs) := (re.mono ((e1.trans e2).trans e3)).wipe vs
      obtain ⟨σ3, h1, hw, h3⟩ := Pat.rep s3 vs p r3 re3 hb3 hv
      refine h3 _ ⟨hw.trans (wipe_wipe vs), ?_⟩
      refine stepT mt h1 s3 q2 (fun b M4 H4 e4 s4 re4 q4 => ?_) fun _ _ _ z => z.elim
      cases b with
      | true =>
        rw [if_pos rfl] at q4 ⊢
        refine stepE mk re4 s4 q4 (fun y M5 u H5 e5 s5 re5 r5 q5 => ?_) fun _ _ _ z => z.elim
        refine stepE me re5 s5 q5 (fun z M6 v H6 e6 s6 re6 r6 q6 => ?_) fun _ _ _ z => z.elim
        obtain ⟨k, hk, ma6, lz, q6⟩ := q6
        obtain ⟨us, h6, l6⟩ := s6 _ _ ma6
        have ey := key_rep hk r5
        have ex : Ext X.K H6 (upd H6 a (.dK (putK us k v))) := Ext.mut h6 True.intro
        refine ⟨us, k, ey, h6, by rw [l6.length]; exact lz, ((((e2.trans e3).trans e4).trans e5).trans e6).trans ex, _, _, s6.put h6 True.intro (repO_dk ex (RepKV.put r6 l6)), q6⟩
      | false =>
        rw [if_neg Bool.false_ne_true] at q4 ⊢
        exact ⟨(e2.trans e3).trans e4, M4, acc, s4, q4⟩
    · exact q2.elim
  · have e : i = J.items.length := by omega
    subst e
    rw [List.drop_length] at q2
    exact .inl ⟨ir.stop H2 M2 e2 s2 q2.1, q2.2.2 (.ref a) H2 (e1.trans e2) s2 rep_of⟩
theorem xe_dc (hc : X.calm = true) (hN : X.N.Nodup) (hi : XI X W tg iter ti) (ok : BlkOk X.N X.env.scope scope own) (hg : BlkAll X scope fun Y => PG Y tg (p.tg X.K)) (ht : BlkAll X scope fun Y => XTs Y W0 ifs tt) (hk : BlkAll X scope fun Y => XE Y W0 kx tk) (he : BlkAll X scope fun Y => XE Y W0 vx tv)
    (hv : p.slots.all (fun i => decide (i ∈ own.map (·.2))) = true := by decide) (hs : ∀ x, foldedSetIterable iter X.env x = pure x := by intro _; rfl) : XE X W (.DictComp kx vx [⟨tg, iter, ifs, 0⟩] scope pos) (dDc ti p tt tk tv (own.map (·.2))) := by
  have mt := (ht X.s_0 X.H_0 0 [] []).mono
  have mk := (hk X.s_0 X.H_0 0 [] []).mono
  have me := (he X.s_0 X.H_0 0 [] []).mono
  refine ⟨fun env M Q Q' E E' hQ hE => hi.mono _ _ _ _ _ _ (fun J M1 q a ha => dDcGo_mono mt mk me hQ _ _ _ (q a ha)) hE, PEw (pe_dc (g := p.tg X.K) (tt := liftT X.K W0 tt) (tk := liftE X.K W0 tk) (tv := liftE X.K W0 tv) hc hN hi.pi ok hg (fun s H C cl fp => (ht s H C cl fp).pts) (fun s H C cl fp => (hk s H C cl fp).pe) (fun s H C cl fp => (he s H C cl fp).pe) hs) (dc_up hi mt mk me _ fun i h => ?_)⟩
  exact of_decide_eq_true (List.all_eq_true.mp hv i h)
end
end PL

namespace PL
open PySem PySem.Spec PyProof.Rows L2
/-! dict displays -/
abbrev DPs := DEnv → Mem → (List (D × D) → Mem → Prop) → DX → Prop
def dpNil : DPs := fun _ M R _ => R [] M
def dpK3 (x y : D) (R : List (D × D) → Mem → Prop) : List (D × D) → Mem → Prop := fun ps M => R ((x, y) :: ps) M
def dpK2 (x : D) (r : DPs) (env : DEnv) (R : List (D × D) → Mem → Prop) (E : DX) : DK := fun y M => r env M (dpK3 x y R) E
def dpK1 (tv : DE) (r : DPs) (env : DEnv) (R : List (D × D) → Mem → Prop) (E : DX) : DK := fun x M => tv env M (dpK2 x r env R E) E
def dpCons (tk tv : DE) (r : DPs) : DPs := fun env M R E => tk env M (dpK1 tv r env R E) E
def kvOf : List (D × D) → Option (List (Key × D))
  | [] => some []
  | (x, y) :: r => match x.key, kvOf r with
    | some k, some kvs => some ((k, y) :: kvs)
    | _, _ => none
def optKV (o : Option (List (Key × D))) (f : List (Key × D) → Prop) : Prop := match o with
  | some kvs => f kvs
  | none => False
def dispK (p : Addr) (Q : DK) : List (D × D) → Mem → Prop := fun ps M => M p = some (.dk []) ∧ optKV (kvOf ps) fun kvs => kvs.length ≤ 15 ∧ Q (.ob p) (mupd M p (.dk (mergeD [] kvs)))
def dDisp (r : DPs) : DE := fun env M Q E => ∀ p, M p = none → r env (mupd M p (.dk [])) (dispK p Q) E
section
variable {env : DEnv} {M : Mem} {Q : DK} {E : DX} {R : List (D × D) → Mem → Prop}
theorem s_dpNil : dpNil env M R E = R [] M := id rfl
theorem s_dpCons {tk tv r} : dpCons tk tv r env M R E = tk env M (dpK1 tv r env R E) E := id rfl
theorem s_dpK1 {tv r x} : dpK1 tv r env R E x M = tv env M (dpK2 x r env R E) E := id rfl
theorem s_dpK2 {x r y} : dpK2 x r env R E y M = r env M (dpK3 x y R) E := id rfl
theorem s_dpK3 {x y ps} : dpK3 x y R ps M = R ((x, y) :: ps) M := id rfl
theorem s_disp {r} : dDisp r env M Q E = ∀ p, M p = none → r env (mupd M p (.dk [])) (dispK p Q) E := id rfl
theorem s_dispK {p ps} : dispK p Q ps M = (M p = some (.dk []) ∧ optKV (kvOf ps) fun kvs => kvs.length ≤ 15 ∧ Q (.ob p) (mupd M p (.dk (mergeD [] kvs)))) := id rfl
theorem s_optKV {kvs} {f : List (Key × D) → Prop} : optKV (some kvs) f = f kvs := id rfl
theorem kv_nil : kvOf [] = some [] := id rfl
theorem kv_str {x : Str} {y : D} {r kvs} (h : kvOf r = some kvs) : kvOf ((.str x, y) :: r) = some ((.inr x, y) :: kvs) := by
  unfold kvOf
  rw [h]
  rfl
end
def RepPs (K : PySem.W.Frag) (H : Hp) : List (D × D) → List (V × V) → Prop
  | [], us => us = []
  | (x, y) :: r, us => ∃ u v t, us = (u, v) :: t ∧ RepD K H x u ∧ RepD K H y v ∧ RepPs K H r t
theorem kv_rep {K : PySem.W.Frag} {H : Hp} : ∀ {ps : List (D × D)} {kvs : List (Key × D)} {us : List (V × V)}, kvOf ps = some kvs → RepPs K H ps us → ∃ ws : List (Key × V), us = ws.map (fun kv => (kV kv.1, kv.2)) ∧ RepKV K H kvs ws
  | [], kvs, us, h, r => by
    unfold kvOf at h
    unfold RepPs at r
    cases h
    subst r
    exact ⟨[], rfl, rfl⟩
  | (x, y) :: ps, kvs, us, h, r => by
    obtain ⟨u, v, t, rfl, q1, q2, z⟩ := r
    unfold kvOf at h
    split at h
    · rename_i k kvs' hk h2
      cases h
      obtain ⟨ws, rfl, l⟩ := kv_rep h2 z
      have e := key_rep hk q1
      subst e
      exact ⟨(k, v) :: ws, rfl, ⟨v, ws, rfl, q2, l⟩⟩
    · cases h
def MonoPs (t : DPs) : Prop := ∀ env M (Q Q' : List (D × D) → Mem → Prop) (E E' : DX), (∀ d M, Q d M → Q' d M) → (∀ c f M, E c f M → E' c f M) → t env M Q E → t env M Q' E'
def liftPs (K : PySem.W.Frag) (W : WX) (t : DPs) (σ : L2.St) (H : Hp) (Q : List (V × V) → Hp → Prop) : Prop := ∃ env M, RepE K H env σ ∧ Sim K H M ∧ t env M (fun ps M' => ∀ us H', Ext K H H' → Sim K H' M' → RepPs K H' ps us → Q us H') (upX K W H σ)
structure XPs (X : Cx) (W : WX) (pos : Pos) (keys : List (Option Expr)) (values : List Expr) (t : DPs) : Prop where
  mono : MonoPs t
  run : ∀ (pins : List (Addr × Obj)) (s : Shared) (σ : L2.St) (H : Hp) (Q : List (V × V) → Hp → Prop), Inv X pins σ H s → liftPs X.K W t σ H Q →
    wpAny (model X.prog X.w) X.A (evalPairs (pairTrees keys values X.env pos)) (fun vs s' => ∃ ps H', Inv X pins σ H' s' ∧ VV ps vs ∧ Q ps H') X.xe s
section
variable {X : Cx} {W : WX} {pos : Pos} {k v : Expr} {ks : List (Option Expr)} {vs : List Expr} {tk tv : DE} {t : DPs}
theorem xps_nil : XPs X W pos [] [] dpNil := by
  refine ⟨fun env M Q Q' E E' hQ hE h => hQ _ _ h, fun pins s σ H Q I h => ?_⟩
  obtain ⟨env, M, re, sm, h⟩ := h
  exact pairTrees_nil_walk ⟨[], H, I, .nil, h [] H Ext.refl sm rfl⟩
theorem xps_cons (hk : XE X W k tk) (hv : XE X W v tv) (hr : XPs X W pos ks vs t) : XPs X W pos (some k :: ks) (v :: vs) (dpCons tk tv t) := by
  refine ⟨fun env M Q Q' E E' hQ hE => hk.mono _ _ _ _ _ _ (fun x M1 => hv.mono _ _ _ _ _ _ (fun y M2 => hr.mono _ _ _ _ _ _ (fun ps M3 => hQ _ _) hE) hE) hE, fun pins s σ H Q I h => ?_⟩
  obtain ⟨env, M, re, sm, h⟩ := h
  have q : liftE X.K W tk σ H fun u H1 => liftE X.K W tv σ H1 fun v H2 => liftPs X.K W t σ H2 fun us H3 => Q ((u, v) :: us) H3 := by
    refine stepE hk.mono re sm h (fun x M1 u H1 e1 s1 re1 r1 q => ?_) fun _ _ _ z => z
    refine stepE hv.mono re1 s1 q (fun y M2 v H2 e2 s2 re2 r2 q2 => ?_) (upX_mono e1)
    refine ⟨env, M2, re2, s2, hr.mono _ _ _ _ _ _ (fun ps M3 q3 us H3 e3 s3 r3 => ?_) (upX_mono (e1.trans e2)) q2⟩
    exact q3 ((u, v) :: us) H3 ((e1.trans e2).trans e3) s3 ⟨u, v, us, rfl, RepD.mono (e2.trans e3) _ r1, RepD.mono e3 _ r2, r3⟩
  exact pairTrees_cons_walk (thn (hk.pe.run pins s σ H _ I q) fun u s1 ⟨x, H1, I1, rx, q1⟩ => thn (hv.pe.run pins s1 σ H1 _ I1 q1) fun w2 s2 ⟨y, H2, I2, ry, q2⟩ =>
    thn (hr.run pins s2 σ H2 _ I2 q2) fun ws s3 ⟨ps, H3, I3, rel, q3⟩ => ⟨(x, y) :: ps, H3, I3, .cons ⟨rx, ry⟩ rel, q3⟩)
theorem RepKV.len {K : PySem.W.Frag} {H : Hp} {kvs : List (Key × D)} {us : List (Key × V)} (h : RepKV K H kvs us) : us.length = kvs.length := h.length
theorem xe_disp (h : XPs X W pos ks vs t) (hall : ks.all (·.isSome) = true := by rfl) (hl : ks.length = vs.length := by rfl) (h0 : ks ≠ [] := by decide) (h15 : ks.length ≤ 15 := by decide) : XE X W (.Dict ks vs pos) (dDisp t) := by
  have mono : MonoE (dDisp t) := by
    intro env M Q Q' E E' hQ hE z p hp
    refine h.mono _ _ _ _ _ _ ?_ hE (z p hp)
    rintro ps M1 ⟨z1, z2⟩
    refine ⟨z1, ?_⟩
    cases e : kvOf ps with
    | none => rw [e] at z2; exact z2
    | some kvs => rw [e] at z2; exact ⟨z2.1, hQ _ _ z2.2⟩
  refine ⟨mono, ⟨fun pins s σ H Q I q => ?_⟩⟩
  obtain ⟨env, M, re, sm, q⟩ := q
  have hn := I.hok.fresh (Nat.le_refl s.heap.objs.size)
  have I1 := I.laid (a := s.heap.objs.size) (o := .dK []) (h' := s.heap.push { cls := .type "dict", data := .dict #[] }) (t' := s.toks) (fun _ _ q => Heap.get?_push_of_some _ q) (Nat.le_refl _) (dk_empty s.heap I.big)
  have ex : Ext X.K H (upd H s.heap.objs.size (.dK [])) := Ext.new hn
  have q1 : liftPs X.K W t σ (upd H s.heap.objs.size (.dK [])) fun us H2 => H2 s.heap.objs.size = some (.dK []) ∧ ∃ kvs : List (Key × V), us = kvs.map (fun kv => (kV kv.1, kv.2)) ∧ kvs.length ≤ 15 ∧ Q (.ref s.heap.objs.size) (upd H2 s.heap.objs.size (.dK (mergeK [] kvs))) := by
    refine ⟨env, _, re.mono ex, sm.new hn (repO_dk (kvs := []) (us := []) ex rfl), h.mono _ _ _ _ _ _ (fun ps M2 z us H2 e2 s2 r2 => ?_) (upX_mono ex) (q _ (sm.free hn))⟩
    obtain ⟨z1, z2⟩ := z
    cases e : kvOf ps with
    | none => rw [e] at z2; exact z2.elim
    | some kvs =>
      rw [e] at z2
      obtain ⟨z2, z3⟩ := z2
      obtain ⟨ws, rfl, l⟩ := kv_rep e r2
      obtain ⟨xs, hx, lx⟩ := s2 _ _ z1
      unfold RepKV at lx
      subst lx
      refine ⟨hx, ws, rfl, by rw [l.length]; exact z2, ?_⟩
      have ex3 : Ext X.K H2 (upd H2 s.heap.objs.size (.dK (mergeK [] ws))) := Ext.mut hx True.intro
      exact z3 _ _ ((ex.trans e2).trans ex3) (s2.put hx True.intro (repO_dk ex3 (RepKV.merge l rfl))) rep_of
  refine wpAny_Dict_walk (knd := mixKind X.prog X.w) hall hl h0 h15 (thn (h.run pins _ σ _ _ I1 q1) fun ws s2 ⟨ps, H2, I2, rel, e, kvs, ep, lk, q2⟩ => ?_)
  subst ep
  obtain ⟨rs, c, rk⟩ := carries_of (P := X.prog) (w := X.w) rel
  obtain ⟨z, hd, vs0, r0, dd⟩ := dk_of I2.hok e
  cases r0
  refine ⟨rs, c, dd, fun h' dd' hs => ⟨.ref s.heap.objs.size, _, ?_, rfl, q2⟩⟩
  have hz : (mergeK [] kvs).length ≤ sizeLine := by
    have h1 := length_mergeK kvs []
    simp only [List.length_nil, Nat.zero_add] at h1
    rw [sizeLine_eq]; omega
  have he : ∃ q, h'.get? s.heap.objs.size = some q := let ⟨q, _, _, hq, _⟩ := dd'; ⟨q, hq⟩
  exact d_write I2 (by rw [e]; exact True.intro) hs he (dk_new hz hd (rk.merge .nil) dd')
end
section
variable {env : DEnv} {M : Mem} {Q : DK} {E : DX}
theorem s_dc {ti p tt tk tv vs} : dDc ti p tt tk tv vs env M Q E = ti env M (dcK p tt tk tv vs env Q) E := id rfl
theorem s_dcK {p tt tk tv vs its kp} : dcK p tt tk tv vs env Q ⟨its, kp⟩ M = ∀ a, M a = none → dDcGo kp p tt tk tv (wipeD env vs) a Q its [] (mupd M a (.dk [])) := id rfl
end
end PL
namespace PL
open PySem PySem.Spec PyProof.Rows L2
theorem xe_globTE {X : Cx} {W : WX} {x : Str} {ds : List D} {pos : Pos} (hg : Gl X x) (h : ∃ a : Addr, X.mg x = some (.ref a) ∧ ∀ H : Hp, RepD X.K H (.tup ds) (.ref a)) (hd : (x == ("__debug__" : Str)) = false := by decide) : XE X W (.Name x pos) (dC (.tup ds)) := by
  obtain ⟨a, h1, h2⟩ := h
  exact xe_globT hg h1 h2 hd
theorem rep_globT {K : PySem.W.Frag} {H : Hp} {a : Addr} {d : Option Addr} {t : Array Value} {n : Nat} {s : Array (Option Value)} {xs : List Str} (h : K.lookup a = some ⟨.type "tuple", d, .seq t n, s⟩) (hz : t.size ≤ sizeLine) (r : Vals (xs.map V.str) t.toList) : RepD K H (.tup (xs.map D.str)) (.ref a) := by
  unfold RepD
  exact ⟨a, xs.map V.str, rfl, .inr ⟨_, t, n, h, rfl, rfl, hz, r⟩, .of_strs⟩
end PL
namespace PL
theorem merge_nil {κ : Type} [DecidableEq κ] {kvs : List (κ × D)} : mergeD kvs [] = kvs := id rfl
theorem merge_one {k : L2.Key} {d : D} : mergeD [] [(k, d)] = [(k, d)] := id rfl
end PL
namespace PL
open PySem PySem.Spec PyProof.Rows L2
theorem Keep.putN {M M' : Mem} {p : Addr} {o : Ob} (k : Keep [] M M') (h : M p = none) : Keep [] M (mupd M' p o) := (k.weaken (T := [p]) (by simp)).trans (Keep.put (by simp)) |>.drop h
def dcZ (y : D) (N : D → D → Mem → Prop) : DK := fun z M => N y z M
def dcY (tv : DE) (env : DEnv) (N : D → D → Mem → Prop) : DK := fun y M => tv env M (dcZ y N) noX
def dcB (tk tv : DE) (env : DEnv) (N : D → D → Mem → Prop) (sk : Mem → Prop) : Bool → Mem → Prop := fun b M => bifM b (eK tk env (dcY tv env N) noX) sk M
def dcS (tt : DT) (tk tv : DE) (N : D → D → Mem → Prop) (sk : Mem → Prop) (env : DEnv) (M : Mem) : Prop := tt env M (dcB tk tv env N sk) noX
section
variable {tt : DT} {tk tv : DE} {N : D → D → Mem → Prop} {sk : Mem → Prop} {env : DEnv} {M : Mem} {y z : D} {b : Bool}
theorem s_dcZ : dcZ y N z M = N y z M := id rfl
theorem s_dcY : dcY tv env N y M = tv env M (dcZ y N) noX := id rfl
theorem s_dcB : dcB tk tv env N sk b M = bifM b (eK tk env (dcY tv env N) noX) sk M := id rfl
theorem s_dcS : dcS tt tk tv N sk env M = tt env M (dcB tk tv env N sk) noX := id rfl
end
theorem mergeD_snoc {κ : Type} [DecidableEq κ] (acc : List (κ × D)) (xs : List (κ × D)) (p : κ × D) : mergeD acc (xs ++ [p]) = putD (mergeD acc xs) p.1 p.2 := by
  unfold mergeD
  rw [List.foldl_append]
  rfl
theorem putD_len {κ : Type} [DecidableEq κ] (kvs : List (κ × D)) (k : κ) (d : D) : (putD kvs k d).length ≤ kvs.length + 1 := by
  unfold putD
  split
  · rw [List.length_map]; omega
  · simp
theorem mergeD_len {κ : Type} [DecidableEq κ] : ∀ (xs acc : List (κ × D)), (mergeD acc xs).length ≤ acc.length + xs.length
  | [], acc => Nat.le_refl _
  | p :: r, acc => by
    have h1 := mergeD_len r (putD acc p.1 p.2)
    have h2 := putD_len acc p.1 p.2
    show (mergeD (putD acc p.1 p.2) r).length ≤ _
    rw [List.length_cons]; omega
theorem dc_pure {α : Type} (f : α → D) (k : α → Key) (kd g : α → D) (b : α → Bool) {M0 : Mem} {a : Addr} {kp : Mem → Prop} {p : Pat} {tt : DT} {tk tv : DE} {env : DEnv} {Q : DK} (xs : List α) (hkd : ∀ x ∈ xs, (kd x).key = some (k x)) (ha : M0 a = none) (hk : ∀ M', Keep [] M0 M' → kp M') (hlen : xs.length ≤ sizeLine)
    (step : ∀ x ∈ xs, ∀ M' (N : D → D → Mem → Prop) (sk : Mem → Prop), Keep [] M0 M' → (b x = true → ∀ M'', Keep [] M' M'' → N (kd x) (g x) M'') → (b x = false → ∀ M'', Keep [] M' M'' → sk M'') → optE (p.bind M' (f x) env) (dcS tt tk tv N sk) M')
    (done : ∀ M', Keep [] M0 M' → M' a = some (.dk (mergeD [] ((xs.filter b).map fun x => (k x, g x)))) → Q (.ob a) M') : dDcGo kp p tt tk tv env a Q (xs.map f) [] (mupd M0 a (.dk [])) := by
  have go : ∀ (r pre : List α) (M' : Mem), xs = pre ++ r → Keep [] M0 M' → M' a = some (.dk (mergeD [] ((pre.filter b).map fun x => (k x, g x)))) → dDcGo kp p tt tk tv env a Q (r.map f) (mergeD [] ((pre.filter b).map fun x => (k x, g x))) M' := by
    intro r
    induction r with
    | nil =>
      intro pre M' e1 kk e
      rw [List.append_nil] at e1
      subst e1
      exact ⟨hk _ kk, e, done _ kk e⟩
    | cons x r ih =>
      intro pre M' e1 kk e
      refine ⟨hk _ kk, ?_⟩
      have hx : x ∈ xs := by rw [e1]; simp
      have small : (mergeD [] ((pre.filter b).map fun x => (k x, g x))).length < sizeLine := by
        have h1 := mergeD_len ((pre.filter b).map fun x => (k x, g x)) ([] : List (Key × D))
        have h2 := List.length_filter_le b pre
        have h3 : xs.length = pre.length + (r.length + 1) := by rw [e1]; simp
        simp only [List.length_map, List.length_nil] at h1
        omega
      have q := step x hx M' (fun y z M4 => ∃ k', y.key = some k' ∧ M4 a = some (.dk (mergeD [] ((pre.filter b).map fun x => (k x, g x)))) ∧ (mergeD [] ((pre.filter b).map fun x => (k x, g x))).length < sizeLine ∧ dDcGo kp p tt tk tv env a Q (r.map f) (putD (mergeD [] ((pre.filter b).map fun x => (k x, g x))) k' z) (mupd M4 a (.dk (putD (mergeD [] ((pre.filter b).map fun x => (k x, g x))) k' z))))
        (fun M2 => dDcGo kp p tt tk tv env a Q (r.map f) (mergeD [] ((pre.filter b).map fun x => (k x, g x))) M2) kk (fun hb M2 k2 => ?_) (fun hb M2 k2 => ?_)
      · unfold optE at q
        split at q
        · rename_i env1 hb
          first | exact q | (rw [hb]; exact q)
        · exact q.elim
      · have e2 : (((pre ++ [x]).filter b).map fun x => (k x, g x)) = ((pre.filter b).map fun x => (k x, g x)) ++ [(k x, g x)] := by
          rw [List.filter_append, List.map_append]
          simp [hb]
        have e3 : mergeD [] (((pre ++ [x]).filter b).map fun x => (k x, g x)) = putD (mergeD [] ((pre.filter b).map fun x => (k x, g x))) (k x) (g x) := by rw [e2, mergeD_snoc]
        refine ⟨k x, hkd x hx, k2 _ _ e (by simp), small, ?_⟩
        rw [← e3]
        exact ih (pre ++ [x]) _ (by rw [e1]; simp) (Keep.putN (kk.trans k2) ha) mupd_same
      · have e2 : (((pre ++ [x]).filter b).map fun x => (k x, g x)) = ((pre.filter b).map fun x => (k x, g x)) := by
          rw [List.filter_append, List.map_append]
          simp [hb]
        rw [← e2]
        exact ih (pre ++ [x]) _ (by rw [e1]; simp) (kk.trans k2) (by rw [e2]; exact k2 _ _ e (by simp))
  exact go xs [] _ rfl (Keep.new ha) mupd_same
end PL
namespace PL
open PySem PySem.Spec PyProof.Rows L2
theorem in_dkI {i : Int} {a : Addr} {kvs : List (Key × D)} {M : Mem} {Q : DK} (h : M a = some (.dk kvs)) : (opIn (.int i) (.ob a) M).run M Q = Q (.bl (look kvs (.inl i)).isSome) M := by
  simp [opIn, isIn, h, D.key, Res.run, mostDeep]
theorem notIn_dkI {i : Int} {a : Addr} {kvs : List (Key × D)} {M : Mem} {Q : DK} (h : M a = some (.dk kvs)) : (opNotIn (.int i) (.ob a) M).run M Q = Q (.bl (!(look kvs (.inl i)).isSome)) M := by
  simp [opNotIn, isIn, h, D.key, Res.run, mostDeep]
theorem in_dkS {x : Str} {a : Addr} {kvs : List (Key × D)} {M : Mem} {Q : DK} (h : M a = some (.dk kvs)) : (opIn (.str x) (.ob a) M).run M Q = Q (.bl (look kvs (.inr x)).isSome) M := by
  simp [opIn, isIn, h, D.key, Res.run, mostDeep]
theorem notIn_dkS {x : Str} {a : Addr} {kvs : List (Key × D)} {M : Mem} {Q : DK} (h : M a = some (.dk kvs)) : (opNotIn (.str x) (.ob a) M).run M Q = Q (.bl (!(look kvs (.inr x)).isSome)) M := by
  simp [opNotIn, isIn, h, D.key, Res.run, mostDeep]
end PL
namespace PL
open PySem PySem.Spec PyProof.Rows L2
/-! == of two lists, one of them empty -/
def eqLR (M : Mem) (x y : D) (f : Bool → Bool) : Res := match x, y with
  | .v (.ref a), .v (.ref b) => match M a, M b with
    | some (.lst xs), some (.lst ys) => .val (xs = [] ∨ ys = []) (.bl (f (decide (xs.length = ys.length))))
    | _, _ => .bad
  | _, _ => .bad
def opEqL : DOp2 := fun x y M => eqLR M x y id
def opNeL : DOp2 := fun x y M => eqLR M x y (!·)
section
variable {X : Cx}
theorem bl_eqL : ∀ x y M Q, (opEqL x y M).run M Q → (opEqL x y M).run M fun d M' => (∃ k, d = .bl k) ∧ Q d M' := fun x y M Q h => by
  unfold opEqL eqLR at h ⊢
  split at h <;> first | exact h.elim | skip
  split at h <;> first | exact h.elim | skip
  exact ⟨h.1, ⟨_, rfl⟩, h.2⟩
theorem bl_neL : ∀ x y M Q, (opNeL x y M).run M Q → (opNeL x y M).run M fun d M' => (∃ k, d = .bl k) ∧ Q d M' := fun x y M Q h => by
  unfold opNeL eqLR at h ⊢
  split at h <;> first | exact h.elim | skip
  split at h <;> first | exact h.elim | skip
  exact ⟨h.1, ⟨_, rfl⟩, h.2⟩
theorem x_eqL (hu : X.A.units + 200 < cLine) : XOp X (compareOp .Eq) opEqL := by
  rintro pins s σ H x y v u Q I rx ry ⟨dx, dy, M, r1, r2, sm, h⟩
  unfold opEqL eqLR at h
  split at h <;> first | exact h.elim | skip
  split at h <;> first | exact h.elim | skip
  rename_i a b _ _ xs ys hm1 hm2
  rw [rep_v r1] at rx
  rw [rep_v r2] at ry
  obtain rfl : v = Value.ref _ := rx
  obtain rfl : u = Value.ref _ := ry
  obtain ⟨us, ea, la⟩ := sm.seq (.inl hm1)
  obtain ⟨ws, eb, lb⟩ := sm.seq (.inl hm2)
  obtain ⟨i1, v1, p1, z1⟩ := I.list ea
  obtain ⟨i2, v2, p2, z2⟩ := I.list eb
  have l1 : i1.toArray.size = xs.length := by rw [List.size_toArray, ← v1.length, la.length]
  have l2 : i2.toArray.size = ys.length := by rw [List.size_toArray, ← v2.length, lb.length]
  by_cases e : xs.length = ys.length
  · have n1 : xs.length = 0 := by rcases h.1 with z | z <;> simp [z] at e <;> simp_all
    have q := h.2
    rw [decide_eq_true e] at q
    refine SeqAt.RcAt.lists (e := fun _ => true) p1.isList p2.isList (by rw [l1, l2, e]) (by omega) (fun j h1 _ => by rw [l1, n1] at h1; omega) X.prog X.w _ _ ?_
    rw [l1, n1]
    exact ⟨.bl true, H, I, rfl, fin_val q sm⟩
  · have q := h.2
    rw [decide_eq_false e] at q
    exact SeqAt.RcAt.lists_lengths p1.isList p2.isList (by rw [l1, l2]; simpa using e) (by omega) X.prog X.w _ _ ⟨.bl false, H, I, rfl, fin_val q sm⟩
theorem x_neL (hu : X.A.units + 200 < cLine) : XOp X (compareOp .NotEq) opNeL := by
  rintro pins s σ H x y v u Q I rx ry ⟨dx, dy, M, r1, r2, sm, h⟩
  unfold opNeL eqLR at h
  split at h <;> first | exact h.elim | skip
  split at h <;> first | exact h.elim | skip
  rename_i a b _ _ xs ys hm1 hm2
  rw [rep_v r1] at rx
  rw [rep_v r2] at ry
  obtain rfl : v = Value.ref _ := rx
  obtain rfl : u = Value.ref _ := ry
  obtain ⟨us, ea, la⟩ := sm.seq (.inl hm1)
  obtain ⟨ws, eb, lb⟩ := sm.seq (.inl hm2)
  obtain ⟨i1, v1, p1, z1⟩ := I.list ea
  obtain ⟨i2, v2, p2, z2⟩ := I.list eb
  have l1 : i1.toArray.size = xs.length := by rw [List.size_toArray, ← v1.length, la.length]
  have l2 : i2.toArray.size = ys.length := by rw [List.size_toArray, ← v2.length, lb.length]
  by_cases e : xs.length = ys.length
  · have n1 : xs.length = 0 := by rcases h.1 with z | z <;> simp [z] at e <;> simp_all
    have q := h.2
    rw [decide_eq_true e] at q
    refine SeqAt.RcNeAt.lists (e := fun _ => true) p1.isList p2.isList (by rw [l1, l2, e]) (by omega) (fun j h1 _ => by rw [l1, n1] at h1; omega) X.prog X.w _ _ ?_
    rw [l1, n1]
    exact ⟨.bl false, H, I, rfl, fin_val q sm⟩
  · have q := h.2
    rw [decide_eq_false e] at q
    exact SeqAt.RcNeAt.lists_lengths p1.isList p2.isList (by rw [l1, l2]; simpa using e) (by omega) X.prog X.w _ _ ⟨.bl true, H, I, rfl, fin_val q sm⟩
end
end PL

set_option maxHeartbeats 4000000
namespace PL
open PySem PySem.Spec PyProof.Rows L2
/-! sorted(d.items()), keys and values ints -/
abbrev entI (p : Int × Int) : Key × V := (Sum.inl p.1, V.int p.2)
def tSortIt (te : TE) : TE := fun σ H Q => te σ H fun x H1 => ∃ (a : Addr) (ms : List (Int × Int)), x = .ref a ∧ Rd H1 a (.dK (ms.map entI)) ∧ ∀ (H' : Hp) (l : Addr) (ps : List (Addr × Int × Int)), (∀ b o, H1 b = some o → H' b = some o) → H1 l = none → (ps.map (·.2)).Perm ms → (ps.map (·.2)).Pairwise (fun p q => p.1 ≤ q.1) →
  H' l = some (.lst (ps.map fun z => V.ref z.1)) → (∀ z ∈ ps, H' z.1 = some (.tup [.int z.2.1, .int z.2.2])) → Q (.ref l) H'
def backA : Value → Addr
  | .ref a => a
  | _ => 0
def kAt (as : List Addr) (ms : List (Int × Int)) (v : Value) : Int × Int := ((as.zip ms).lookup (backA v)).getD (0, 0)
theorem lookup_zip {β : Type} : ∀ {as : List Addr} {ms : List β} {j : Nat} {b : Addr} {m : β}, as.Nodup → as[j]? = some b → ms[j]? = some m → (as.zip ms).lookup b = some m
  | [], _, _, _, _, _, h, _ => by simp at h
  | _ :: _, [], _, _, _, _, _, h => by simp at h
  | a :: as, m :: ms, 0, b, m', nd, h1, h2 => by
    simp only [List.getElem?_cons_zero, Option.some.injEq] at h1 h2
    subst h1 h2
    simp
  | a :: as, m :: ms, j + 1, b, m', nd, h1, h2 => by
    simp only [List.getElem?_cons_succ] at h1 h2
    rw [List.nodup_cons] at nd
    have ne : b ≠ a := fun z => nd.1 (z ▸ List.mem_of_getElem? h1)
    rw [List.zip_cons_cons, List.lookup_cons]
    have : (b == a) = false := by simpa using ne
    rw [this]
    exact lookup_zip nd.2 h1 h2
section
variable {X : Cx} {e : Expr} {te : TE} {p apos cpos pos : Pos}
theorem pe_sortIt (hc : X.calm = true) (he : PE X e te) (hg : Gl X "sorted") (hm : X.mg "sorted" = none) (hv : bootBuiltins "sorted" = some (.builtin "sorted")) (hbase : attributeBase e "items" X.env (eval e X.env) = eval e X.env := by rfl) (hline : (apos.endLine == cpos.line) = true := by rfl)
    (hs : starEach [.Call (.Attribute e "items" apos) [] [] cpos] X.env = (false, eval (.Call (.Attribute e "items" apos) [] [] cpos) X.env) :: starEach [] X.env := by rfl) :
    PE X (.Call (.Name "sorted" p) [.Call (.Attribute e "items" apos) [] [] cpos] [] pos) (tSortIt te) := by
  refine ⟨fun pins s σ H Q I hq => ?_⟩
  refine wpAny_Call_Name_kw (ld_blt I hg hm hv ?_)
  refine PyProof.Rows.callWith_builtin1 ?_ hs rfl
  rw [hs]
  show wpAny _ _ (spliced ((false, eval (.Call (.Attribute e "items" apos) [] [] cpos) X.env) :: backTo pos (starEach [] X.env))) _ _ s
  refine Calls.spliced_cons ?_
  refine wpAny_Call_method (T := "dict") (id := "dict.items") hbase rfl hline F.plainAttrs_dict F.slot_dict_items F.type_dict_items (thn (he.run pins s σ H _ I hq) fun u s1 ⟨x, H1, I1, rx, d, ms, ex, hd, q⟩ => ?_)
  subst ex
  obtain rfl : u = Value.ref d := rx
  obtain ⟨hz, hs0, vs, kv, hdo⟩ := dk_rd I1.hok hd
  have lk : (ms.map entI).length = vs.length := Paired.length kv
  refine ⟨hdo.typeIs, hdo.mapOf.noDict, ?_⟩
  show wpAny _ _ (callWith cpos (.builtin "dict.items") [.ref d] [] []) _ X.xe s1
  refine method_meetsIn F.slot_dict_items F.entry_dict_items rfl (PySem.evalArgs_none ⟨rfl, hdo.typeIs, F.args_dict_items_1 _, _, meets_dict_items (mixKind X.prog X.w) d hs0, ⟨vs, hdo⟩, ?_⟩)
  refine Calls.spliced_nil ?_
  obtain ⟨es, ep, raw, hsz, hent⟩ := hdo.raw
  have hh : X.A.handled = none := I1.ok.hd hc
  have I2 : Inv X pins σ H1 { s1 with heap := s1.heap.push { cls := .type "dict_items", data := .fields #[.ref d] } } := I1.kept (t' := s1.toks) fun b ob q => Heap.get?_push_of_some _ q
  have view : (s1.heap.push { cls := .type "dict_items", data := .fields #[.ref d] }).IsItemsView s1.heap.objs.size d := ⟨_, Heap.get?_push_size _ rfl, rfl, rfl⟩
  refine DT.sortedI (s := { s1 with heap := s1.heap.push { cls := .type "dict_items", data := .fields #[.ref d] } }) (es := es) (ep := ep) hh view (raw.at fun o e => Heap.get?_push_of_some _ e) (by omega) fun h' tk as hk hlt hl hG => ?_
  have lak : as.length = ms.length := by rw [hl, hsz, ← lk, List.length_map]
  have nd : as.Nodup := List.Pairwise.imp (fun h => Nat.ne_of_lt h) hG.rise
  have hmz : ms.length ≤ sizeLine := by rw [List.length_map] at hz; exact hz
  have kb : ∀ b o, s1.heap.get? b = some o → h'.get? b = some o := fun b o e => hk b o (Heap.get?_push_of_some _ e)
  have low : s1.heap.objs.size < h'.objs.size := by
    have : (s1.heap.push { cls := .type "dict_items", data := .fields #[.ref d] }).objs.size = s1.heap.objs.size + 1 := Heap.size_push _ _
    have h3 : (s1.heap.push { cls := .type "dict_items", data := .fields #[.ref d] }).objs.size < h'.objs.size := hlt
    omega
  -- the pairs
  have pr : ∀ (j : Nat) (b : Addr), as[j]? = some b → ∃ (m : Int × Int) (t t' : Tok), ms[j]? = some m ∧ h'.get? b = some { cls := .type "tuple", data := .seq #[Value.int m.1 t, Value.int m.2 t'] } := by
    intro j b hj
    obtain ⟨en, he, hg⟩ := hG.pairs j b hj
    have hj2 : j < as.length := (List.getElem?_eq_some_iff.mp hj).1
    have hjm : j < ms.length := by omega
    obtain ⟨v, hv', f1, f2⟩ := L2.paired_get kv (i := j) (a := entI ms[j]) (by simp [hjm])
    obtain ⟨k1, k2⟩ := hent j (by omega) v.1 v.2 hv'
    have he2 : es[j]'(by omega) = en := by
      have : es[j]? = some en := he
      rw [Array.getElem?_eq_getElem (by omega)] at this
      exact Option.some.inj this
    rw [he2] at k1 k2
    rw [← f1] at k1
    obtain ⟨t, ht⟩ := relV_key (k := Sum.inl ms[j].1) (show keyIs (Sum.inl ms[j].1) en.key = true from k1)
    obtain ⟨t', ht'⟩ : ∃ t', v.2 = Value.int ms[j].2 t' := f2
    refine ⟨ms[j], t, t', by simp [hjm], ?_⟩
    rw [hg, ht, k2, ht']
  have hkey : ∀ (j : Nat) (b : Addr) (m : Int × Int), as[j]? = some b → ms[j]? = some m → kAt as ms (.ref b) = m := fun j b m h1 h2 => by
    unfold kAt backA
    rw [lookup_zip nd h1 h2]
    rfl
  have hob : (h'.push { cls := .type "list", data := .seq (as.map Value.ref).toArray }).get? h'.objs.size = some (seqObj "list" (as.map Value.ref).toArray 0) := Heap.get?_push_size _ rfl
  have ne0 : ∀ b o, h'.get? b = some o → b ≠ h'.objs.size := fun b o e => Nat.ne_of_lt (Heap.lt_size e)
  generalize hh2 : h'.push { cls := .type "list", data := .seq (as.map Value.ref).toArray } = h2 at hob ⊢
  have ka : ∀ b o, h'.get? b = some o → h2.get? b = some o := fun b o e => by rw [← hh2]; exact Heap.get?_push_of_some _ e
  have vat : ∀ v ∈ as.map Value.ref, ∃ (j : Nat) (b : Addr), v = .ref b ∧ as[j]? = some b := fun v hv' => by
    obtain ⟨b, hb, rfl⟩ := List.mem_map.mp hv'
    obtain ⟨j, hj⟩ := List.mem_iff_getElem?.mp hb
    exact ⟨j, b, rfl, hj⟩
  have vz : (as.map Value.ref).length ≤ sizeLine := by rw [List.length_map, lak]; exact hmz
  have sortable : 2 ≤ (as.map Value.ref).length → SrtO.SortableO X.prog X.w X.A.in1.in1 { s1 with heap := h2, toks := tk } h'.objs.size (as.map Value.ref) (fun v u => SrtO.lexB (kAt as ms v) (kAt as ms u)) := fun h2' => by
    refine SrtO.pairs_sortableO (by omega) (fun v hv' => ?_) fun o e => ?_
    · obtain ⟨j, b, rfl, hj⟩ := vat v hv'
      obtain ⟨m, t, t', hm', hg⟩ := pr j b hj
      rw [hkey j b m hj hm']
      exact ⟨b, _, t, t', 0, rfl, ka _ _ hg, rfl, rfl⟩
    · have e' : some o = some (seqObj "list" (as.map Value.ref).toArray 0) := e.symm.trans hob
      cases e'
      intro c
      exact absurd (Value.type.inj c) (by decide)
  refine wpAny_call_entry PyProof.Rows.slot_list_sort ⟨_, hob, rfl⟩ PyProof.Rows.entry_list_sort ?_ (PyProof.Rows.args_list_sort _)
  refine SrtO.list_sort_ord (s := { s1 with heap := h2, toks := tk }) (SrtO.swo_lex (kAt as ms)) hob vz sortable fun out o1 o2 => ?_
  refine ⟨.none, rfl, ?_⟩
  · obtain ⟨zs, pz, ez⟩ := perm_lift (fun z : Addr × Int × Int => Value.ref z.1) o2.perm (as.zip ms) (by
      rw [show (fun z : Addr × Int × Int => Value.ref z.1) = Value.ref ∘ Prod.fst from rfl, ← List.map_map, List.map_fst_zip (by omega)])
    subst ez
    have idx : ∀ z ∈ zs, ∃ j : Nat, as[j]? = some z.1 ∧ ms[j]? = some z.2 := by
      intro z' hz'
      obtain ⟨j, hj⟩ := List.mem_iff_getElem?.mp (pz.mem_iff.mp hz')
      exact ⟨j, List.getElem?_zip_eq_some.mp hj⟩
    have hperm : (zs.map (·.2)).Perm ms := by
      have e := pz.map (·.2)
      rw [show (as.zip ms).map (·.2) = ms from List.map_snd_zip (by omega)] at e
      exact e
    have hsort : (zs.map (·.2)).Pairwise (fun p q => p.1 ≤ q.1) := by
      have o1 : (zs.map fun z => Value.ref z.1).Pairwise fun x y => SrtO.lexB (kAt as ms y) (kAt as ms x) = false := o1
      rw [List.pairwise_map] at o1 ⊢
      refine List.Pairwise.imp_of_mem (fun {x y} hx hy h => ?_) o1
      obtain ⟨j, j1, j2⟩ := idx x hx
      obtain ⟨i, i1, i2⟩ := idx y hy
      have h := SrtO.lexB_no.mp h
      rw [hkey j _ _ j1 j2, hkey i _ _ i1 i2] at h
      omega
    show EP X pins σ Q (.ref h'.objs.size) { s1 with heap := sortedHeap h2 h'.objs.size (as.map Value.ref) (zs.map fun z => Value.ref z.1).toArray, toks := tk }
    have kF : ∀ b o, b ≠ h'.objs.size → h2.get? b = some o → (sortedHeap h2 h'.objs.size (as.map Value.ref) (zs.map fun z => Value.ref z.1).toArray).get? b = some o := fun b o hb e => (PyProof.Rows.sortedHeap_old hb (Heap.lt_size e)).trans e
    have kS : ∀ b o, s1.heap.get? b = some o → (sortedHeap h2 h'.objs.size (as.map Value.ref) (zs.map fun z => Value.ref z.1).toArray).get? b = some o := fun b o e => kF b o (ne0 _ _ (kb b o e)) (ka _ _ (kb b o e))
    obtain ⟨eF, heF⟩ := PyProof.Rows.sortedHeap_at (vs := as.map Value.ref) (out := (zs.map fun z => Value.ref z.1).toArray) hob
    generalize sortedHeap h2 h'.objs.size (as.map Value.ref) (zs.map fun z => Value.ref z.1).toArray = hF at kF kS heF ⊢
    have I3 : Inv X pins σ H1 { s1 with heap := hF, toks := tk } := I1.kept (t' := tk) kS
    have hn0 : H1 h'.objs.size = none := I1.hok.fresh (Nat.le_of_lt low)
    have hlen : (zs.map fun z => V.ref z.1).length ≤ sizeLine := by
      have e := hperm.length_eq
      rw [List.length_map] at e
      rw [List.length_map]
      omega
    have rv : Vals (zs.map fun z => V.ref z.1) (zs.map fun z => Value.ref z.1) := vals_maps (fun z : Addr × Int × Int => V.ref z.1) (fun z => Value.ref z.1) zs fun _ _ => rfl
    have I4 : Inv X pins σ (upd H1 h'.objs.size (.lst (zs.map fun z => V.ref z.1))) { s1 with heap := hF, toks := tk } :=
      I3.take (h' := hF) (t' := tk) (fun b ob _ e => e) (I1.fpOk (Nat.le_of_lt low) hn0) (show ObjOk X.prog X.w _ _ _ (.lst (zs.map fun z => V.ref z.1)) from ⟨hlen, zs.map (fun z => Value.ref z.1), eF, rv, heF⟩)
    obtain ⟨H2, I5, g, qt⟩ := L2.DX.takeT (P := fun b vs => ∃ (j : Nat) (m : Int × Int), as[j]? = some b ∧ ms[j]? = some m ∧ vs = [.int m.1, .int m.2]) I1 as _ I4 nd fun b hb => by
      obtain ⟨j, hj⟩ := List.mem_iff_getElem?.mp hb
      obtain ⟨m, t, t', hm', hg⟩ := pr j b hj
      have hbl : s1.heap.objs.size ≤ b := by
        have hG := hG.above b hb
        have e : (s1.heap.push { cls := .type "dict_items", data := .fields #[.ref d] }).objs.size = s1.heap.objs.size + 1 := Heap.size_push _ _
        have h3 : (s1.heap.push { cls := .type "dict_items", data := .fields #[.ref d] }).objs.size < b := hG
        omega
      refine ⟨hbl, ?_, [.int m.1, .int m.2], ⟨j, m, hj, hm', rfl⟩, fun H3 => ⟨(by rw [sizeLine_eq]; show 2 ≤ 16777216; omega), [Value.int m.1 t, Value.int m.2 t'], .cons ⟨t, rfl⟩ (.cons ⟨t', rfl⟩ .nil), ⟨_, kF _ _ (ne0 _ _ hg) (ka _ _ hg), rfl, 0, rfl⟩⟩⟩
      rw [upd_ne (ne0 _ _ hg)]
      exact I1.hok.fresh hbl
    have gr : ∀ b o, H1 b = some o → H2 b = some o := fun b o e => g b o (by rw [upd_ne (ne_of_none e hn0)]; exact e)
    refine ⟨.ref h'.objs.size, H2, I5, rfl, q H2 h'.objs.size zs gr hn0 hperm hsort (g _ _ upd_same) fun z' hz' => ?_⟩
    obtain ⟨i, i1, i2⟩ := idx z' hz'
    obtain ⟨vs', ⟨j, m, j1, j2, ev⟩, hH⟩ := qt z'.1 (List.mem_of_getElem? i1)
    have eij : i = j := (List.getElem?_inj (List.getElem?_eq_some_iff.mp i1).1 nd).mp (i1.trans j1.symm)
    subst eij
    have ee : m = z'.2 := Option.some.inj (j2.symm.trans i2)
    rw [ev, ee] at hH
    exact hH
end
/-! .. as a reading -/
abbrev pairI (p : Int × Int) : D := .tup [.int p.1, .int p.2]
abbrev entD (p : Int × Int) : Key × D := (Sum.inl p.1, D.int p.2)
def sortItK (Q : DK) : DK := fun d M => ∃ (a : Addr) (ms : List (Int × Int)), d = .ob a ∧ dkAt M a (ms.map entD) ∧ ∀ (ys : List (Int × Int)) l, ys.Perm ms → ys.Pairwise (fun p q => p.1 ≤ q.1) → M l = none → Q (.ob l) (mupd M l (.lst (ys.map pairI)))
def dSortIt (te : DE) : DE := fun env M Q E => te env M (sortItK Q) E
theorem s_sortIt {te env M Q E} : dSortIt te env M Q E = te env M (sortItK Q) E := id rfl
theorem RepKV.ofI {K : PySem.W.Frag} {H : Hp} : ∀ {ms : List (Int × Int)} {us : List (Key × V)}, RepKV K H (ms.map entD) us → us = ms.map entI
  | [], _, h => by unfold RepKV at h; exact h
  | m :: ms, _, h => by
    obtain ⟨u, t, rfl, q, z⟩ := h
    rw [RepKV.ofI z, rep_v q]
    rfl
section
variable {X : Cx} {W : WX} {e : Expr} {te : DE} {p apos cpos pos : Pos}
theorem xe_sortIt (hc : X.calm = true) (he : XE X W e te) (hg : Gl X "sorted") (hm : X.mg "sorted" = none) (hv : bootBuiltins "sorted" = some (.builtin "sorted")) (hbase : attributeBase e "items" X.env (eval e X.env) = eval e X.env := by rfl) (hline : (apos.endLine == cpos.line) = true := by rfl)
    (hs : starEach [.Call (.Attribute e "items" apos) [] [] cpos] X.env = (false, eval (.Call (.Attribute e "items" apos) [] [] cpos) X.env) :: starEach [] X.env := by rfl) :
    XE X W (.Call (.Name "sorted" p) [.Call (.Attribute e "items" apos) [] [] cpos] [] pos) (dSortIt te) := by
  refine ⟨fun env M Q Q' E E' hQ hE => he.mono _ _ _ _ _ _ (fun d M1 ⟨a, ms, h1, h2, h⟩ => ⟨a, ms, h1, h2, fun ys l z1 z2 z3 => hQ _ _ (h ys l z1 z2 z3)⟩) hE, PEw (pe_sortIt hc he.pe hg hm hv hbase hline hs) ?_⟩
  rintro σ H Q ⟨env, M, re, sm, h⟩
  refine stepE he.mono re sm h (fun d M1 u H1 e1 s1 re1 r1 q => ?_) fun _ _ _ z => z
  obtain ⟨a, ms, rfl, hd, q⟩ := q
  obtain ⟨us, q1, l1⟩ := hd.rep s1
  rw [l1.ofI] at q1
  refine ⟨a, ms, rep_v r1, q1, fun H' l ps gr hl hp hso hL hz => ?_⟩
  have ex : Ext X.K H1 H' := ⟨fun b xs g => by
    rcases g with (g | ⟨ob, g⟩) | g
    · exact .inl (.inl (gr _ _ g))
    · exact .inl (.inr ⟨ob, gr _ _ g⟩)
    · exact .inr g, fun b o v g => gr _ _ g⟩
  refine q (ps.map (·.2)) l hp hso (s1.free hl) _ H' (e1.trans ex) (fun b ob g => ?_) rep_of
  by_cases hb : b = l
  · subst hb
    rw [mupd_same] at g
    cases g
    refine ⟨_, hL, ?_⟩
    clear hL hp hso
    induction ps with
    | nil => exact .nil
    | cons z ps ih =>
      refine .cons ?_ (ih fun z' h' => hz z' (List.mem_cons_of_mem _ h'))
      unfold RepD
      exact ⟨z.1, _, rfl, SqT.of (hz z (List.mem_cons_self)), .cons rep_of (.cons rep_of .nil)⟩
  · rw [mupd_ne hb] at g
    obtain ⟨x, hx⟩ := (s1 b ob g).there
    exact (s1 b ob g).mono ex (by rw [gr _ _ hx, hx])
end
end PL

namespace PL
open PySem PySem.Spec PyProof.Rows L2
/-! instances: their attributes, their methods, how they are made -/
def putFD (fs : List (Str × D)) (f : Str) (d : D) : List (Str × D) := match fs with
  | [] => [(f, d)]
  | (g, x) :: r => if g = f then (g, d) :: r else (g, x) :: putFD r f d
theorem RepKV.putF {K : PySem.W.Frag} {H : Hp} {f : Str} {d : D} {u : V} (q : RepD K H d u) : ∀ {fs : List (Str × D)} {us : List (Str × V)}, RepKV K H fs us → RepKV K H (putFD fs f d) (L2.putF f u us)
  | [], us, h => by
    unfold RepKV at h
    subst h
    exact ⟨u, [], rfl, q, rfl⟩
  | (g, x) :: r, us, h => by
    obtain ⟨y, t, rfl, q2, z⟩ := h
    unfold putFD L2.putF
    split
    · exact ⟨u, t, rfl, q, z⟩
    · exact ⟨y, _, rfl, q2, RepKV.putF q z⟩
theorem RepKV.lookup {K : PySem.W.Frag} {H : Hp} (f : Str) : ∀ {fs : List (Str × D)} {us : List (Str × V)}, RepKV K H fs us → match PL.look fs f, us.lookup f with | some d, some u => RepD K H d u | none, none => True | _, _ => False
  | [], us, h => by
    unfold RepKV at h
    subst h
    simp [PL.look]
  | (g, x) :: r, us, h => by
    obtain ⟨y, t, rfl, q2, z⟩ := h
    have ih := RepKV.lookup f z
    by_cases e : g = f
    · subst e
      simpa [PL.look, List.lookup_cons] using q2
    · have e2 : (f == g) = false := by simpa using fun z => e z.symm
      simpa [PL.look, List.lookup_cons, e, e2] using ih
theorem RepKV.lookup_some {K : PySem.W.Frag} {H : Hp} {f : Str} {fs : List (Str × D)} {us : List (Str × V)} {d : D} (h : RepKV K H fs us) (e : PL.look fs f = some d) : ∃ u, us.lookup f = some u ∧ RepD K H d u := by
  have q := h.lookup f
  rw [e] at q
  cases g : us.lookup f with
  | none => rw [g] at q; exact q.elim
  | some u => rw [g] at q; exact ⟨u, rfl, q⟩
theorem RepKV.lookup_none {K : PySem.W.Frag} {H : Hp} {f : Str} {fs : List (Str × D)} {us : List (Str × V)} (h : RepKV K H fs us) (e : PL.look fs f = none) : us.lookup f = none := by
  have q := h.lookup f
  rw [e] at q
  cases g : us.lookup f with
  | none => rfl
  | some u => rw [g] at q; exact q.elim
/-- what an instance of the class at C holds -/
def insAt (C : Addr) (o : Option Ob) (f : List (Str × D) → Prop) : Prop := match o with
  | some (.ins C' fs) => C' = C ∧ f fs
  | _ => False
def optD (o : Option D) (f : D → Prop) : Prop := match o with
  | some d => f d
  | none => False
theorem s_insAt {C C' : Addr} {fs : List (Str × D)} {f : List (Str × D) → Prop} : insAt C (some (.ins C' fs)) f = (C' = C ∧ f fs) := id rfl
theorem s_optD {d : D} {f : D → Prop} : optD (some d) f = f d := id rfl
theorem insAt_mono {C : Addr} {o : Option Ob} {f g : List (Str × D) → Prop} (h : ∀ fs, f fs → g fs) : insAt C o f → insAt C o g := by
  unfold insAt
  split
  · exact fun ⟨a, b⟩ => ⟨a, h _ b⟩
  · exact id
theorem optD_mono {o : Option D} {f g : D → Prop} (h : ∀ d, f d → g d) : optD o f → optD o g := by
  unfold optD
  split
  · exact h _
  · exact id
def obAt (d : D) (f : Addr → Prop) : Prop := match d with
  | .v (.ref a) => f a
  | _ => False
theorem s_obAt {a : Addr} {f : Addr → Prop} : obAt (.ob a) f = f a := id rfl
theorem obAt_mono {d : D} {f g : Addr → Prop} (h : ∀ a, f a → g a) : obAt d f → obAt d g := by
  unfold obAt
  split
  · exact h _
  · exact id
/-- e.f -/
def fldK (C : Addr) (f : Str) (Q : DK) : DK := fun d M => obAt d fun a => insAt C (M a) fun fs => optD (look fs f) fun x => Q x M
def dFld (C : Addr) (f : Str) (te : DE) : DE := fun env M Q E => te env M (fldK C f Q) E
/-- o.f = e -/
def fputK2 (C : Addr) (f : Str) (z : D) (Z : DEnds) (env : DEnv) : DK := fun d M => obAt d fun a => insAt C (M a) fun fs => fs.length < 1000 ∧ Z.nx env (mupd M a (.ins C (putFD fs f z)))
def fputK1 (C : Addr) (f : Str) (to : DE) (Z : DEnds) (env : DEnv) : DK := fun z M => to env M (fputK2 C f z Z env) (exK Z env)
def dFPut (C : Addr) (f : Str) (te to : DE) : DS := fun Z env M => te env M (fputK1 C f to Z env) (exK Z env)
/-- o.f op= e -/
def faugK3 (C : Addr) (f : Str) (a : Addr) (Z : DEnds) (env : DEnv) : DK := fun z M => insAt C (M a) fun fs => fs.length < 1000 ∧ Z.nx env (mupd M a (.ins C (putFD fs f z)))
def faugK2 (C : Addr) (f : Str) (r : DOp2) (a : Addr) (x : D) (Z : DEnds) (env : DEnv) : DK := fun y M => (r x y M).run M (faugK3 C f a Z env)
def faugK1 (C : Addr) (f : Str) (r : DOp2) (te : DE) (Z : DEnds) (env : DEnv) : DK := fun d M => obAt d fun a => insAt C (M a) fun fs => optD (look fs f) fun x => te env M (faugK2 C f r a x Z env) (exK Z env)
def dFAug (C : Addr) (f : Str) (r : DOp2) (to te : DE) : DS := fun Z env M => to env M (faugK1 C f r te Z env) (exK Z env)
/-- o.m(..); dvs: the defaults behind -/
def methK2 (sp : DSp) (dvs : List D) (a : Addr) (Q : DK) (E : DX) : List D → Mem → Prop := fun ds M => sp (.ob a :: (ds ++ dvs)) M Q E
def methK1 (C : Addr) (m : Str) (sp : DSp) (dvs : List D) (t : DA) (env : DEnv) (Q : DK) (E : DX) : DK := fun d M => obAt d fun a => insAt C (M a) fun fs => look fs m = none ∧ t env M (methK2 sp dvs a Q E) E
def dMeth (C : Addr) (m : Str) (sp : DSp) (dvs : List D) (to : DE) (t : DA) : DE := fun env M Q E => to env M (methK1 C m sp dvs t env Q E) E
/-- C(..) -/
def makeK2 (x : Addr) (Q : DK) : DK := fun d M => d = .non ∧ Q (.ob x) M
def makeK (C : Addr) (sp : DSp) (Q : DK) : List D → Mem → Prop := fun ds M => ∀ x, M x = none → sp (.ob x :: ds) (mupd M x (.ins C [])) (makeK2 x Q) noX
def dMake (C : Addr) (sp : DSp) (t : DA) : DE := fun env M Q E => t env M (makeK C sp Q) E
section
variable {env : DEnv} {M : Mem} {Q : DK} {E : DX} {Z : DEnds} {C a x : Addr} {f m : Str} {d z y : D} {te to : DE} {t : DA} {sp : DSp} {r : DOp2} {ds : List D}
theorem s_fld : dFld C f te env M Q E = te env M (fldK C f Q) E := id rfl
theorem s_fldK : fldK C f Q d M = obAt d fun a => insAt C (M a) fun fs => optD (look fs f) fun x => Q x M := id rfl
theorem s_fput : dFPut C f te to Z env M = te env M (fputK1 C f to Z env) (exK Z env) := id rfl
theorem s_fputK1 : fputK1 C f to Z env z M = to env M (fputK2 C f z Z env) (exK Z env) := id rfl
theorem s_fputK2 : fputK2 C f z Z env d M = obAt d fun a => insAt C (M a) fun fs => fs.length < 1000 ∧ Z.nx env (mupd M a (.ins C (putFD fs f z))) := id rfl
theorem s_faug : dFAug C f r to te Z env M = to env M (faugK1 C f r te Z env) (exK Z env) := id rfl
theorem s_faugK1 : faugK1 C f r te Z env d M = obAt d fun a => insAt C (M a) fun fs => optD (look fs f) fun x => te env M (faugK2 C f r a x Z env) (exK Z env) := id rfl
theorem s_faugK2 : faugK2 C f r a z Z env y M = (r z y M).run M (faugK3 C f a Z env) := id rfl
theorem s_faugK3 : faugK3 C f a Z env z M = insAt C (M a) fun fs => fs.length < 1000 ∧ Z.nx env (mupd M a (.ins C (putFD fs f z))) := id rfl
theorem s_meth {dvs : List D} : dMeth C m sp dvs to t env M Q E = to env M (methK1 C m sp dvs t env Q E) E := id rfl
theorem s_methK1 {dvs : List D} : methK1 C m sp dvs t env Q E d M = obAt d fun a => insAt C (M a) fun fs => look fs m = none ∧ t env M (methK2 sp dvs a Q E) E := id rfl
theorem s_methK2 {dvs : List D} : methK2 sp dvs a Q E ds M = sp (.ob a :: (ds ++ dvs)) M Q E := id rfl
theorem s_make : dMake C sp t env M Q E = t env M (makeK C sp Q) E := id rfl
theorem s_makeK : makeK C sp Q ds M = ∀ x, M x = none → sp (.ob x :: ds) (mupd M x (.ins C [])) (makeK2 x Q) noX := id rfl
theorem s_makeK2 : makeK2 x Q d M = (d = .non ∧ Q (.ob x) M) := id rfl
end
/-- what the top has written of a class and its attributes -/
structure ICls (K : PySem.W.Frag) (C : Addr) (fs : List Str) : Prop where
  c : Cls K C
  no : ∀ f ∈ fs, NoAttr K C f
/-- a method -/
structure MFn (P : Program) (w : World) (K : PySem.W.Frag) (mg : Str → Option Value) (base : Heap) (k : Nat) (C : Addr) (m : Str) (sp : DSp) (dvs : List D) : Prop where
  mono : MonoSp sp
  ex : ∃ (f : Addr) (fd : FuncData) (ps : List Str) (ds : List Value) (vds : List V), FnOk P w K mg base (L2.CX P w) k f fd ps (liftSp K sp) ∧ Meth K C m f ∧ Binds K fd ps ds ∧ Vals vds ds ∧ ∀ H, RepL K H dvs vds
theorem MFn.up {P : Program} {w : World} {K : PySem.W.Frag} {mg : Str → Option Value} {base : Heap} {j k : Nat} {C : Addr} {m : Str} {sp : DSp} {dvs : List D} (F : MFn P w K mg base j C m sp dvs) (h : j ≤ k) : MFn P w K mg base k C m sp dvs := by
  obtain ⟨mo, f, fd, ps, ds, vds, F, r⟩ := F
  exact ⟨mo, f, fd, ps, ds, vds, F.mono h, r⟩
/-- a class that is made -/
structure KFn (P : Program) (w : World) (K : PySem.W.Frag) (mg : Str → Option Value) (base : Heap) (k : Nat) (x : Str) (C : Addr) (sp : DSp) : Prop where
  mono : MonoSp sp
  at_ : mg x = some (.ref C)
  ex : ∃ (f : Addr) (fd : FuncData) (ps : List Str), FnOk P w K mg base (L2.CX P w) k f fd ps (liftSp K sp) ∧ Mk K C f ∧ Binds K fd ps []
section
variable {X : Cx} {W : WX} {C : Addr} {f m x : Str} {o e value : Expr} {es : List Expr} {te to : DE} {t : DA} {sp : DSp} {pos pos' apos tpos p : Pos} {k : Nat} {fs : List Str}
theorem xe_fld (T : ICls X.K C fs) (he : XE X W e te) (hf : f ∈ fs := by simp) (hb : attributeBase e f X.env (eval e X.env) = eval e X.env := by rfl) : XE X W (.Attribute e f pos) (dFld C f te) := by
  refine ⟨fun env M Q Q' E E' hQ hE => he.mono _ _ _ _ _ _ (fun d M1 => obAt_mono fun a => insAt_mono fun fs => optD_mono fun x => hQ _ _) hE, PEw (pe_fld he.pe hb) ?_⟩
  rintro σ H Q ⟨env, M, re, s, h⟩
  refine stepE he.mono re s h (fun d M1 u H1 e1 s1 re1 r1 q => ?_) fun _ _ _ z => z
  unfold fldK obAt at q
  split at q <;> first | exact q.elim | skip
  unfold insAt at q
  split at q <;> first | exact q.elim | skip
  obtain ⟨rfl, q⟩ := q
  rename_i a _ C fs' hm
  unfold optD at q
  split at q <;> first | exact q.elim | skip
  rename_i v hv
  obtain ⟨dx, us, e2, l⟩ := s1 _ _ hm
  obtain ⟨w, hw, rw'⟩ := l.lookup_some hv
  exact ⟨a, C, dx, us, w, rep_v r1, e2, T.c, T.no f hf, hw, q w H1 e1 s1 rw'⟩
theorem repO_ins {K : PySem.W.Frag} {H : Hp} {a dx : Addr} {fs : List (Str × D)} {us : List (Str × V)} (ex : Ext K H (upd H a (.ins C dx us))) (l : RepKV K H fs us) : RepO K (upd H a (.ins C dx us)) a (.ins C fs) := ⟨dx, us, upd_same, RepKV.mono ex l⟩
theorem xs_fput (T : ICls X.K C fs) (he : XE X W value te) (ho : XE X W o to) (hf : f ∈ fs := by simp) (hs : swapsWith value (some (.Attribute o f pos')) pos.line X.env = pure false := by rfl) : XS X W (.Assign [.Attribute o f pos'] value pos) (dFPut C f te to) := by
  refine ⟨fun D D' env M l h => he.mono _ _ _ _ _ _ (fun z M1 => ho.mono _ _ _ _ _ _ (fun d M2 => obAt_mono fun a => insAt_mono fun fs ⟨z1, z2⟩ => ⟨z1, l.nx _ _ z2⟩) (fun c f M' => l.ex c f _ M')) (fun c f M' => l.ex c f _ M') h, PSw (ps_fld ho.pe he.pe hs) ?_⟩
  rintro D σ H ⟨env, M, re, s, h⟩
  refine stepE he.mono re s h (fun z M1 u H1 e1 s1 re1 r1 h1 => ?_) (ends_ex re)
  refine stepE ho.mono re1 s1 h1 (fun d M2 u2 H2 e2 s2 re2 r2 q => ?_) fun c f M' q => upX_mono e1 c f M' (ends_ex re c f M' q)
  unfold fputK2 obAt at q
  split at q <;> first | exact q.elim | skip
  unfold insAt at q
  split at q <;> first | exact q.elim | skip
  obtain ⟨rfl, ql, q⟩ := q
  rename_i a _ C fs' hm
  obtain ⟨dx, us, e3, l⟩ := s2 _ _ hm
  have ex : Ext X.K H2 (upd H2 a (.ins C dx (L2.putF f u us))) := Ext.mut e3 True.intro
  refine ⟨a, C, dx, us, rep_v r2, e3, T.c, T.no f hf, by rw [l.length]; exact ql, ?_⟩
  exact q σ _ ((e1.trans e2).trans ex) (s2.put e3 True.intro (repO_ins ex (RepKV.putF (RepD.mono e2 _ r1) l))) (re2.mono ex)
theorem xs_faug {op : Operator} {r : DOp2} (T : ICls X.K C fs) (ho : XE X W o to) (he : XE X W value te) (hop : XOp X (inplaceOp op) r) (hf : f ∈ fs := by simp) : XS X W (.AugAssign (.Attribute o f tpos) op value pos) (dFAug C f r to te) := by
  refine ⟨fun D D' env M l h => ho.mono _ _ _ _ _ _ (fun z M1 => obAt_mono fun a => insAt_mono fun fs => optD_mono fun x => he.mono _ _ _ _ _ _ (fun y M2 => Res.mono fun z M3 => insAt_mono fun fs ⟨z1, z2⟩ => ⟨z1, l.nx _ _ z2⟩) (fun c f M' => l.ex c f _ M')) (fun c f M' => l.ex c f _ M') h, PSw (ps_fldaug (rd := upR2 X.K r) ho.pe he.pe (fun pins s σ H x y u v Q I rx ry h => hop pins s σ H x y u v Q I rx ry h)) ?_⟩
  rintro D σ H ⟨env, M, re, s, h⟩
  refine stepE ho.mono re s h (fun d M1 u H1 e1 s1 re1 r1 q => ?_) (ends_ex re)
  unfold faugK1 obAt at q
  split at q <;> first | exact q.elim | skip
  unfold insAt at q
  split at q <;> first | exact q.elim | skip
  obtain ⟨rfl, q⟩ := q
  rename_i a _ C fs' hm
  unfold optD at q
  split at q <;> first | exact q.elim | skip
  rename_i v hv
  obtain ⟨dx, us, e3, l⟩ := s1 _ _ hm
  obtain ⟨w, hw, rw'⟩ := l.lookup_some hv
  refine ⟨a, C, dx, us, w, rep_v r1, e3, T.c, T.no f hf, hw, ?_⟩
  refine stepE he.mono re1 s1 q (fun y M2 u2 H2 e2 s2 re2 r2 q2 => ?_) fun c f M' q => upX_mono e1 c f M' (ends_ex re c f M' q)
  refine ⟨v, y, M2, RepD.mono e2 _ rw', r2, s2, Res.mono (fun z M3 q3 w3 H3 e3' s3 r3 => ?_) q2⟩
  unfold faugK3 insAt at q3
  split at q3 <;> first | exact q3.elim | skip
  obtain ⟨rfl, ql, q3⟩ := q3
  rename_i _ C fs2 hm3
  obtain ⟨dx2, us2, e4, l2⟩ := s3 _ _ hm3
  have ex : Ext X.K H3 (upd H3 a (.ins C dx2 (L2.putF f w3 us2))) := Ext.mut e4 True.intro
  refine ⟨dx2, us2, e4, by rw [l2.length]; exact ql, ?_⟩
  exact q3 σ _ (((e1.trans e2).trans e3').trans ex) (s3.put e4 True.intro (repO_ins ex (RepKV.putF r3 l2))) ((re2.mono e3').mono ex)
theorem dMeth_mono {dvs : List D} (ms : MonoSp sp) (mo : MonoE to) (mt : MonoA t) : MonoE (dMeth C m sp dvs to t) := fun env M Q Q' E E' hQ hE => mo _ _ _ _ _ _ (fun d M1 => obAt_mono fun a => insAt_mono fun fs ⟨z1, z2⟩ => ⟨z1, mt _ _ _ _ _ _ (fun ds M2 => ms _ _ _ _ _ _ hQ hE) hE z2⟩) hE
/-- the object of a method call, then what is asked of its arguments -/
theorem meth_up {dvs : List D} {vds : List V} (hd : ∀ H, RepL X.K H dvs vds) (ms : MonoSp sp) (mo : MonoE to) (mt : MonoA t) {σ : L2.St} {H : Hp} {Q : VK} (h : liftE X.K W (dMeth C m sp dvs to t) σ H Q) :
    liftE X.K W to σ H fun x H1 => ∃ a dx us, x = .ref a ∧ H1 a = some (.ins C dx us) ∧ us.lookup m = none ∧ liftA X.K W t σ H1 fun vs H2 => liftSp X.K sp (.ref a :: (vs ++ vds)) H2 Q (WE W σ) := by
  obtain ⟨env, M, re, sm, h⟩ := h
  refine stepE mo re sm h (fun d M1 u H1 e1 s1 re1 r1 q => ?_) fun _ _ _ z => z
  unfold methK1 obAt at q
  split at q <;> first | exact q.elim | skip
  unfold insAt at q
  split at q <;> first | exact q.elim | skip
  obtain ⟨rfl, ql, q⟩ := q
  rename_i a _ C fs' hm
  obtain ⟨dx, us, e3, l⟩ := s1 _ _ hm
  refine ⟨a, dx, us, rep_v r1, e3, l.lookup_none ql, ?_⟩
  refine stepA mt re1 s1 q (fun ds M2 vs H2 e2 s2 re2 r2 q2 => ?_) (upX_mono e1)
  exact ⟨.ob a :: (ds ++ dvs), M2, .cons rep_of (r2.append (hd H2)), s2, ms _ _ _ _ _ _ (upK_mono (e1.trans e2)) (upX_mono (e1.trans e2)) q2⟩
theorem xe_meth {dvs : List D} {pl : Sem Bool} (Mf : MFn X.prog X.w X.K X.mg X.base k C m sp dvs) (T : ICls X.K C fs) (hr : Room k X.A) (tk : Takes X W) (ho : XE X W o to) (ha : XA X W (e :: es) t)
    (hst : starEach (e :: es) X.env = (false, eval e X.env) :: starEach es X.env := by rfl) (hpl : (backTo pos (starEach es X.env)).any (·.1) = false := by rfl)
    (ht : eval (.Call (.Attribute o m apos) (e :: es) [] pos) X.env = (do
      let v ← eval o X.env
      standAt apos.atName
      let (g, own) ← holding [v] (getMethod v m pl)
      callWith pos g own (backTo pos (starEach (e :: es) X.env)) (backToKw pos (keywordEach [] X.env))) := by rfl) : XE X W (.Call (.Attribute o m apos) (e :: es) [] pos) (dMeth C m sp dvs to t) := by
  obtain ⟨mo, f, fd, ps, dsv, vds, F, hm, hb, hvd, hrd⟩ := Mf
  refine ⟨dMeth_mono mo ho.mono ha.mono, ⟨fun pins s σ H Q I h => ?_⟩⟩
  have q := meth_up hrd mo ho.mono ha.mono h
  refine PySem.W.methodCall_KW (pl := pl) (thn (ho.pe.run pins s σ H _ I q) fun u s1 z => ?_) ht
  obtain ⟨x, H1, I1, rx, a, dx, us, rfl, e1, l1, q1⟩ := z
  obtain rfl : u = Value.ref a := rx
  refine getmeth_ok I1 e1 T.c hm l1 ?_
  refine PySem.W.callWith_K (first := [.ref a]) (h₀ := X.base) I.ok.mod.kin hm.kp (thn (ha.pa.run pos pins s1 σ H1 _ I1 q1) fun us2 s2 z2 => ?_) hst hpl
  obtain ⟨vs, H2, I2, r2, q2⟩ := z2
  refine ⟨I2.kIn, ?_⟩
  exact run_fnSD (E := WE W) (us := .ref a :: us2) (vs := .ref a :: vs) F hr hb hvd (passAt tk σ) I2 (.cons rfl r2) q2
theorem xe_meth0 {dvs : List D} {pl : Sem Bool} (Mf : MFn X.prog X.w X.K X.mg X.base k C m sp dvs) (T : ICls X.K C fs) (hr : Room k X.A) (tk : Takes X W) (ho : XE X W o to)
    (ht : eval (.Call (.Attribute o m apos) [] [] pos) X.env = (do
      let v ← eval o X.env
      standAt apos.atName
      let (g, own) ← holding [v] (getMethod v m pl)
      callWith pos g own (backTo pos (starEach [] X.env)) (backToKw pos (keywordEach [] X.env))) := by rfl) : XE X W (.Call (.Attribute o m apos) [] [] pos) (dMeth C m sp dvs to dNil) := by
  obtain ⟨mo, f, fd, ps, dsv, vds, F, hm, hb, hvd, hrd⟩ := Mf
  have mn : MonoA dNil := fun _ _ _ _ _ _ hQ _ h => hQ _ _ h
  refine ⟨dMeth_mono mo ho.mono mn, ⟨fun pins s σ H Q I h => ?_⟩⟩
  have q := meth_up hrd mo ho.mono mn h
  refine PySem.W.methodCall_KW (pl := pl) (thn (ho.pe.run pins s σ H _ I q) fun u s1 z => ?_) ht
  obtain ⟨x, H1, I1, rx, a, dx, us, rfl, e1, l1, q1⟩ := z
  obtain rfl : u = Value.ref a := rx
  refine getmeth_ok I1 e1 T.c hm l1 ?_
  have q2 : liftSp X.K sp (.ref a :: ([] ++ vds)) H1 Q (WE W σ) := by
    obtain ⟨env, M, re, sm, q1⟩ := q1
    exact q1 [] H1 Ext.refl sm .nil
  exact PySem.W.callWith_K0 (first := [.ref a]) I1.kIn hm.kp (run_fnSD (E := WE W) (us := [.ref a]) (vs := [.ref a]) F hr hb hvd (passAt tk σ) I1 (.cons rfl .nil) q2)
theorem passNo {X : Cx} : Passes (L2.CX X.prog X.w) X fun _ _ _ => False := fun _ _ _ _ _ _ _ h => by
  obtain ⟨_, _, _, _, _, _, _, _, _, _, _, _, z⟩ := h
  exact z.elim
theorem dMake_mono (ms : MonoSp sp) (mt : MonoA t) : MonoE (dMake C sp t) := fun env M Q Q' E E' hQ hE => mt _ _ _ _ _ _ (fun ds M1 z x hx => ms _ _ _ _ _ _ (fun d M2 ⟨z1, z2⟩ => ⟨z1, hQ _ _ z2⟩) (fun _ _ _ z => z) (z x hx)) hE
theorem make_rep {H : Hp} {M : Mem} {Q : VK} {vs : List V} {ds : List D} {H0 : Hp} (e0 : Ext X.K H0 H) (ms : MonoSp sp) (sm : Sim X.K H M) (r : RepL X.K H ds vs) (q : makeK C sp (upK X.K H0 Q) ds M) {x dx : Addr} (hx : H x = none) (hd : H dx = none) (ne : dx ≠ x) :
    liftSp X.K sp (.ref x :: vs) (upd (upd H dx (.own x)) x (.ins C dx [])) (fun v H2 => v = .non ∧ Q (.ref x) H2) fun _ _ _ => False := by
  have hx2 : upd H dx (.own x) x = none := by rw [upd_ne ne.symm]; exact hx
  have ex : Ext X.K H (upd (upd H dx (.own x)) x (.ins C dx [])) := (Ext.new hd).trans (Ext.new hx2)
  refine ⟨.ob x :: ds, _, .cons rep_of (RepL.mono ex _ r), (sm.laid hd).new hx2 (repO_ins (fs := []) (us := []) (Ext.new hx2) rfl), ms _ _ _ _ _ _ (fun d M2 z u H2 e2 s2 r2 => ?_) (fun _ _ _ z => z.elim) (q x (sm.free hx))⟩
  obtain ⟨rfl, z⟩ := z
  exact ⟨rep_v r2, z _ H2 ((e0.trans ex).trans e2) s2 rep_of⟩
theorem xe_make (Kf : KFn X.prog X.w X.K X.mg X.base k x C sp) (hr : Room (k + 1) X.A) (hg : Gl X x) (ha : XA X W (e :: es) t) (hdb : (x == ("__debug__" : Str)) = false := by decide)
    (he : starEach (e :: es) X.env = (false, eval e X.env) :: starEach es X.env := by rfl) (hpl : (backTo pos (starEach es X.env)).any (·.1) = false := by rfl) : XE X W (.Call (.Name x p) (e :: es) [] pos) (dMake C sp t) := by
  obtain ⟨mo, hm, f, fd, ps, F, Mk, hb⟩ := Kf
  refine ⟨dMake_mono mo ha.mono, PEw (pe_make (ds := []) (dvs := []) Mk F hr hg hm hb .nil passNo ha.pa hdb he hpl) ?_⟩
  rintro σ H Q ⟨env, M, re, s, h⟩
  refine stepA ha.mono re s h (fun ds M1 vs H1 e1 s1 re1 r1 q => ?_) fun _ _ _ z => z
  intro y dy hy hdy ne
  rw [List.append_nil]
  exact make_rep e1 mo s1 r1 q hy hdy ne
theorem xe_make0 (Kf : KFn X.prog X.w X.K X.mg X.base k x C sp) (hr : Room (k + 1) X.A) (hg : Gl X x) (hdb : (x == ("__debug__" : Str)) = false := by decide) : XE X W (.Call (.Name x p) [] [] pos) (dMake C sp dNil) := by
  obtain ⟨mo, hm, f, fd, ps, F, Mk, hb⟩ := Kf
  refine ⟨dMake_mono mo (fun _ _ _ _ _ _ hQ _ h => hQ _ _ h), PEw (pe_make0 (ds := []) (dvs := []) Mk F hr hg hm hb .nil passNo hdb) ?_⟩
  rintro σ H Q ⟨env, M, re, s, h⟩
  intro y dy hy hdy ne
  exact make_rep Ext.refl mo s .nil h hy hdy ne
end
/-- a def by its body, defaults or not -/
structure Def (K : PySem.W.Frag) (qual : Str) (st : Stmt) (f : Addr) (fd : FuncData) : Prop where
  ok : ∀ {P : Program} {w : World} {mg : Str → Option Value} {base : Heap} {N ps : List Str} {k : Nat} {sp : Sp}, FnScope N ps (defScope st) → (∀ vs H Q E, sp vs H Q E → vs.length = ps.length) →
    (∀ (cdv : Value) (A : Around) (outer : List Env) (s : Shared) (H : Hp) (vs : List V) (Q : VK) (E : XK), Room k (A.deeper (envOfC qual (defScope st) s.heap.objs.size f cdv)) → sp vs H Q E →
      ∃ t, PSs (cxOf (L2.CX P w) P w K mg base N qual (defScope st) f cdv A outer s H E) (defBody st) t ∧ t { nx := fun _ H' => Q .non H', rt := Q } (L2.start N vs) H) → FnOk P w K mg base (L2.CX P w) (k + 1) f fd ps sp
theorem def_fun {K : PySem.W.Frag} {x qual : Str} {st : Stmt} {f : Addr} {fd : FuncData} (F : Fun K x qual st f fd) : Def K qual st f fd := ⟨fun S len h => F.okX S len h⟩
theorem def_funD {K : PySem.W.Frag} {x qual : Str} {st : Stmt} {f : Addr} {fd : FuncData} {dvs : List V} (F : FunD K x qual (defArgs st) (defBody st) (defScope st) dvs [] f fd) : Def K qual st f fd := ⟨fun S len h => F.ok S len h⟩
theorem def_ok {P : Program} {w : World} {K : PySem.W.Frag} {mg : Str → Option Value} {base : Heap} {qual : Str} {st : Stmt} {f : Addr} {fd : FuncData} {N ps : List Str} {k : Nat} {sp : DSp} (F : Def K qual st f fd) (S : FnScope N ps (defScope st))
    (len : ∀ ds M Q E, sp ds M Q E → ds.length = ps.length)
    (hb : ∃ t : DS, (∀ cdv A outer s H E, Room k (A.deeper (envOfC qual (defScope st) s.heap.objs.size f cdv)) → XSs (bx P w K mg base N qual st f cdv A outer s H E) (bW E) (defBody st) t) ∧
      ∀ ds M Q E, sp ds M Q E → t (retEnds Q E) (startD N ds) M) : FnOk P w K mg base (L2.CX P w) (k + 1) f fd ps (liftSp K sp) := by
  obtain ⟨t, ht, hq⟩ := hb
  refine F.ok S (fun vs H Q E h => ?_) (fun cdv A outer s H vs Q E hr h => ?_)
  · obtain ⟨ds, M, r, _, h⟩ := h
    rw [r.length]
    exact len _ _ _ _ h
  · obtain ⟨ds, M, r, sm, h⟩ := h
    refine ⟨_, (ht cdv A outer s H E hr).ps, startD N ds, M, rep_start r, sm, (ht cdv A outer s H E hr).mono _ _ _ _ ⟨?_, ?_, ?_, ?_, ?_⟩ (hq _ _ _ _ h)⟩
    · exact fun e M' q σ' H' e' s' _ => q .non H' e' s' rep_of
    · exact fun d M' q => q
    · exact fun e M' q => q.elim
    · exact fun e M' q => q.elim
    · exact fun c fs e M' q d σ' H' e' s' _ x => q d H' e' s' x
/-- what the top has written of a method -/
structure MSrc (K : PySem.W.Frag) (C : Addr) (m qual : Str) (st : Stmt) (ps : List Str) (dvs : List D) : Prop where
  ex : ∃ (f : Addr) (fd : FuncData) (ds : List Value) (vds : List V), Def K qual st f fd ∧ Meth K C m f ∧ Binds K fd ps ds ∧ Vals vds ds ∧ ∀ H, RepL K H dvs vds
theorem MSrc.fn {P : Program} {w : World} {K : PySem.W.Frag} {mg : Str → Option Value} {base : Heap} {C : Addr} {m qual : Str} {st : Stmt} {ps : List Str} {dvs : List D} {k : Nat} {sp : DSp} (S : MSrc K C m qual st ps dvs) (mo : MonoSp sp)
    (h : ∀ f fd, Def K qual st f fd → FnOk P w K mg base (L2.CX P w) k f fd ps (liftSp K sp)) : MFn P w K mg base k C m sp dvs := by
  obtain ⟨f, fd, ds, vds, F, h1, h2⟩ := S.ex
  exact ⟨mo, f, fd, ps, ds, vds, h f fd F, h1, h2⟩
/-- what the top has written of how a class is made -/
structure KSrc (K : PySem.W.Frag) (mg : Str → Option Value) (x : Str) (C : Addr) (qual : Str) (st : Stmt) (ps : List Str) : Prop where
  at_ : mg x = some (.ref C)
  ex : ∃ (f : Addr) (fd : FuncData), Def K qual st f fd ∧ Mk K C f ∧ Binds K fd ps []
theorem KSrc.fn {P : Program} {w : World} {K : PySem.W.Frag} {mg : Str → Option Value} {base : Heap} {C : Addr} {x qual : Str} {st : Stmt} {ps : List Str} {k : Nat} {sp : DSp} (S : KSrc K mg x C qual st ps) (mo : MonoSp sp)
    (h : ∀ f fd, Def K qual st f fd → FnOk P w K mg base (L2.CX P w) k f fd ps (liftSp K sp)) : KFn P w K mg base k x C sp := by
  obtain ⟨f, fd, F, h1, h2⟩ := S.ex
  exact ⟨mo, S.at_, f, fd, ps, h f fd F, h1, h2⟩
theorem msrc_dfl {K : PySem.W.Frag} {x qual : Str} {st : Stmt} {f T C : Addr} {m : Str} {oT oc : Value} {dT od an : Option Addr} {its : List Value} {n : Nat} {sT osl : Array (Option Value)} {kV dc pm cdv ct : Value} {ps : List Str} {dvs : List V}
    (l : K.lookup f = some ⟨oc, od, .func (PySem.W.fnOf x qual (defArgs st) (defBody st) (defScope st) (.ref T) kV dc pm an cdv ct), osl⟩) (c : PySem.W.codeIn K cdv qual = true) (k : PySem.W.keepIn K (.ref f) = true) (hm : Meth K C m f)
    (lT : K.lookup T = some ⟨oT, dT, .seq its.toArray n, sT⟩) (hv : Vals dvs its) (hd : dvs ≠ []) (j : Nat) (hn : j + (dvs.length - 0) = ps.length)
    (h : ∀ (T : Addr) (kV doc pm : Value) (an : Option Addr) (cdv ct : Value) (us its : List Value), us.length = j → its.length = dvs.length →
      ∃ k, bindArgs (PySem.W.fnOf x qual (defArgs st) (defBody st) (defScope st) (.ref T) kV doc pm an cdv ct) ⟨us, []⟩ = seqItems? (.ref T) >>= k ∧ k (some its.toArray) = pure (ps.zip (us ++ its.drop 0))) : MSrc K C m qual st ps (dvs.map D.v) := by
  have F : FunD K x qual (defArgs st) (defBody st) (defScope st) dvs [] f _ := ⟨⟨oc, od, .ref T, kV, dc, pm, an, cdv, ct, osl, rfl, l, c, .inr ⟨hd, T, _, its, n, rfl, lT, rfl, hv⟩, .inl rfl⟩, k⟩
  obtain ⟨ds, h1, h2⟩ := F.binds1 (ps := ps) j 0 hd hn h
  refine ⟨f, _, ds, dvs, def_funD F, hm, h2, by simpa using h1, fun H => ?_⟩
  clear h1 h2 h hn F hv hd
  induction dvs with
  | nil => exact .nil
  | cons v r ih => exact .cons rep_of ih
end PL

namespace PL
open PySem PySem.Spec PyProof.Rows L2
/-! what is never reached; a try whose body raises nothing -/
def dDead : DS := fun _ _ _ => False
theorem s_dead {Z : DEnds} {env : DEnv} {M : Mem} : dDead Z env M = False := id rfl
theorem xs_dead {X : Cx} {W : WX} {st : Stmt} : XS X W st dDead := ⟨fun _ _ _ _ _ h => h, ⟨fun pins s σ H D I h => by obtain ⟨_, _, _, _, z⟩ := h; exact z.elim⟩⟩
def DEnds.noX (Z : DEnds) : DEnds := { Z with ex := fun _ _ _ _ => False }
def dTryN (tb : DS) : DS := fun Z env M => tb Z.noX env M
section
variable {Z : DEnds} {env : DEnv} {M : Mem} {tb : DS}
theorem s_tryN : dTryN tb Z env M = tb Z.noX env M := id rfl
theorem noX_nx : Z.noX.nx = Z.nx := id rfl
theorem noX_rt : Z.noX.rt = Z.rt := id rfl
theorem noX_bk : Z.noX.bk = Z.bk := id rfl
theorem noX_ct : Z.noX.ct = Z.ct := id rfl
end
theorem xs_tryN {X : Cx} {W : WX} {body : List Stmt} {h₀ : ExceptHandler} {hs : List ExceptHandler} {pos : Pos} {tb : DS} (hb : XSs X.nox W0 body tb) : XS X W (.Try body (h₀ :: hs) [] [] pos) (dTryN tb) := by
  refine ⟨fun D D' env M l h => hb.mono D.noX D'.noX env M ⟨l.nx, l.rt, l.bk, l.ct, fun _ _ _ _ z => z⟩ h, PSw (ps_try_thru0 hb.ps) ?_⟩
  rintro D σ H ⟨env, M, re, s, h⟩
  exact ⟨env, M, re, s, hb.mono (upEnds X.K W H D).noX (upEnds X.K W0 H D) env M ⟨fun _ _ z => z, fun _ _ z => z, fun _ _ z => z, fun _ _ z => z, fun _ _ _ _ z => False.elim z⟩ h⟩
/-! x.split(y) -/
def mSplit : DMeth
  | .v (.str a), [.v (.str b)], _ => .new ((b.length == 0) = false ∧ a.length + 2 ≤ sizeLine) (.lst ((Txt.split a b).map D.str))
  | _, _, _ => .bad
theorem m_split {X : Cx} : MtR X "str.split" (upMeth X.K mSplit) := by
  rintro pins s σ H x xs v us Q I rx rxs ⟨d, ds, M, r1, rl, sm, h⟩
  unfold mSplit at h
  split at h <;> first | exact h.elim | skip
  obtain ⟨u, rfl, q⟩ := rl1 rl
  rw [rep_v r1] at rx
  rw [rep_v q] at rxs
  exact mt_split pins s σ H _ _ v us Q I rx rxs ⟨_, _, rfl, rfl, h.1.1, h.1.2, fun p hp => fin_lst (fun p hp => h.2 p hp) sm hp .of_strs⟩
/-! texts * n -/
def opMulS : DOp2
  | .v (.str x), .v (.int k), _ => .val (1 ≤ x.length ∧ 0 ≤ k ∧ k ≤ 1000 ∧ x.length ≤ 1000) (.str ⟨(List.replicate k.toNat x.cps.toList).flatten.toArray⟩)
  | _, _, _ => .bad
theorem x_mulS {X : Cx} : XOp X (binaryOp .Mult) opMulS := by
  rintro pins s σ H x y v u Q I rx ry ⟨dx, dy, M, r1, r2, sm, h⟩
  unfold opMulS at h
  split at h <;> first | exact h.elim | skip
  rename_i z k
  obtain ⟨h1, h2, h3, h4⟩ := h.1
  by_cases h5 : 2 ≤ k
  · exact x_mul pins s σ H x y v u Q I rx ry ⟨_, _, M, r1, r2, sm, ⟨h1, h5, h3, h4⟩, h.2⟩
  rw [rep_v r1] at rx; rw [rep_v r2] at ry
  obtain ⟨t, rfl⟩ := rx
  obtain ⟨t', rfl⟩ := ry
  rcases (show k = 0 ∨ k = 1 by omega) with rfl | rfl
  · refine PySem.P.mul_str_none (by decide) (by decide) ⟨.str _, H, I.tok _, ⟨_, rfl⟩, fin_val h.2 sm⟩
  · refine PySem.P.mul_str (by decide) (fun _ q => by cases q) (fun _ q => by cases q) ?_
    rw [if_neg (by decide), if_pos (by rfl)]
    have e : (⟨(List.replicate (1 : Int).toNat z.cps.toList).flatten.toArray⟩ : Str) = z := by
      obtain ⟨a⟩ := z
      simp
    rw [e] at h
    exact ⟨.str z, H, I, ⟨_, rfl⟩, fin_val h.2 sm⟩
/-! enumerate of a list -/
def nums (i : Nat) : List D → List D
  | [] => []
  | d :: r => .tup [.int (i : Nat), d] :: nums (i + 1) r
theorem nums_get : ∀ {ds : List D} {i j : Nat} {d : D}, ds[j]? = some d → (nums i ds)[j]? = some (.tup [.int ((i + j : Nat) : Int), d])
  | [], _, _, _, h => by simp at h
  | x :: r, i, 0, d, h => by simp at h; subst h; simp [nums]
  | x :: r, i, j + 1, d, h => by
    have := nums_get (i := i + 1) (show r[j]? = some d by simpa using h)
    rw [show i + 1 + j = i + (j + 1) by omega] at this
    simpa [nums] using this
theorem nums_length : ∀ (ds : List D) (i : Nat), (nums i ds).length = ds.length
  | [], _ => rfl
  | _ :: r, i => by simp [nums, nums_length r]
theorem rep_enum {K : PySem.W.Frag} {H0 : Hp} {a : Addr} {ds : List D} : ItRep K H0 (Ite K a) ⟨nums 0 ds, fun M => M a = some (.lst ds)⟩ where
  go := fun i H M _ s k hi => by
    obtain ⟨us, q, l⟩ := s.seq (.inl k)
    have hl : i < us.length := by rw [l.length]; simpa [nums_length] using hi
    exact ⟨us, us[i], q, by simp [hl]⟩
  yld := fun i H M x H' _ s k _ y => by
    obtain ⟨us, q, l⟩ := s.seq (.inl k)
    obtain ⟨T, x, rfl, hT, rfl, y⟩ := y
    obtain ⟨d, h1, h2⟩ := l.get' (y us q)
    refine ⟨_, by have := nums_get (i := 0) h1; rwa [Nat.zero_add] at this, ?_, Ext.new hT, s.laid hT⟩
    unfold RepD
    exact ⟨T, _, rfl, .inl (.inl upd_same), .cons rep_of (.cons (RepD.mono (Ext.new hT) _ h2) .nil)⟩
  stop := fun H M _ s k => by
    obtain ⟨us, q, l⟩ := s.seq (.inl k)
    exact ⟨us, q, by show us.length ≤ (nums 0 ds).length; rw [l.length, nums_length]; exact Nat.le_refl _⟩
def enumK (R : DIt → Mem → Prop) : List D → Mem → Prop := fun es M => ∃ a ds, es = [.ob a] ∧ M a = some (.lst ds) ∧ R ⟨nums 0 ds, fun M => M a = some (.lst ds)⟩ M
def dEnum (ta : DA) : DI := fun env M R E => ta env M (enumK R) E
theorem s_enum {ta : DA} {env M R E} : dEnum ta env M R E = ta env M (enumK R) E := id rfl
theorem s_enumK {R es M} : enumK R es M = ∃ a ds, es = [.ob a] ∧ M a = some (.lst ds) ∧ R ⟨nums 0 ds, fun M => M a = some (.lst ds)⟩ M := id rfl
section
variable {X : Cx} {W : WX} {e : Expr} {ta : DA} {pos p tpos : Pos} {elts : List Expr} {kk : Nat}
theorem xi_enum (hg : Gl X "enumerate") (hm : X.mg "enumerate" = none) (ha : XA X W [e] ta) (hs : starEach [e] X.env = [(false, eval e X.env)] := by rfl) : XI X W (.Tuple elts kk tpos) (.Call (.Name "enumerate" p) [e] [] pos) (dEnum ta) := by
  refine ⟨fun env M Q Q' E E' hQ hE h => ?_, PIw (pi_enum hg hm ha.pa hs) ?_⟩
  · refine ha.mono env M _ _ _ _ (fun ds M1 q => ?_) hE h
    obtain ⟨a, es, h1, h2, h3⟩ := q
    exact ⟨a, es, h1, h2, hQ _ _ h3⟩
  rintro σ H R ⟨env, M, re, s, h⟩
  refine stepA ha.mono re s h (fun ds M1 us H1 e1 s1 re1 r1 q => ?_) fun _ _ _ z => z
  obtain ⟨a, es, rfl, h2, h3⟩ := q
  obtain ⟨u, rfl, q1⟩ := rl1 r1
  obtain ⟨ws, q2, l⟩ := s1.seq (.inl h2)
  rw [rep_v q1]
  exact ⟨a, ws, rfl, q2, h3 _ H1 e1 s1 rep_enum⟩
end
/-! constants that are tuples of tuples -/
theorem rep_tup0 {K : PySem.W.Frag} {H : Hp} {a : Addr} {d : Option Addr} {t : Array Value} {n : Nat} {s : Array (Option Value)} (h : K.lookup a = some ⟨.type "tuple", d, .seq t n, s⟩) (ht : t.toList = []) : RepD K H (.tup []) (.ref a) := by
  unfold RepD
  exact ⟨a, [], rfl, .inr ⟨_, t, n, h, rfl, rfl, by rw [← Array.length_toList, ht]; decide, by rw [ht]; exact .nil⟩, .nil⟩
theorem vals_refs : ∀ (as : List Addr), Vals (as.map V.ref) (as.map Value.ref)
  | [] => .nil
  | a :: as => .cons rfl (vals_refs as)
theorem rep_tups {K : PySem.W.Frag} {H : Hp} {a : Addr} {d : Option Addr} {t : Array Value} {n : Nat} {s : Array (Option Value)} {ds : List D} (as : List Addr) (h : K.lookup a = some ⟨.type "tuple", d, .seq t n, s⟩) (hz : t.size ≤ sizeLine) (ht : t.toList = as.map Value.ref) (r : RepL K H ds (as.map V.ref)) : RepD K H (.tup ds) (.ref a) := by
  unfold RepD
  exact ⟨a, as.map V.ref, rfl, .inr ⟨_, t, n, h, rfl, rfl, hz, by rw [ht]; exact vals_refs as⟩, r⟩
theorem look_nil {β : Type} {f : Str} : look ([] : List (Str × β)) f = none := id rfl
theorem look_cons {β : Type} {f g : Str} {x : β} {r : List (Str × β)} : look ((g, x) :: r) f = if g = f then some x else look r f := id rfl
theorem putFD_nil {f : Str} {d : D} : putFD [] f d = [(f, d)] := id rfl
theorem putFD_cons {f g : Str} {d x : D} {r : List (Str × D)} : putFD ((g, x) :: r) f d = if g = f then (g, d) :: r else (g, x) :: putFD r f d := id rfl
end PL

namespace PL
open PySem PySem.Spec PyProof.Rows L2
/-! def f(p): return p[0] -/
theorem bindL_one {k : Str → Option NameKind} {p : Str} {v : Value} (h : k p = some .local) : PySem.bindL k ([p].zip ([v] ++ [])) (fun _ => none) p = some v := by
  show PySem.bindL k [] (if k p = some .local then fun y => if y = p then some v else none else fun _ => none) p = some v
  rw [if_pos h]
  exact if_pos rfl
theorem key_first {P : Program} {w : World} {K : PySem.W.Frag} {x qual p : Str} {st : Stmt} {f : Addr} {fd : FuncData} {pp p2 p3 p4 : Pos} {kk : Nat} (F : Fun K x qual st f fd) (hb : defBody st = [.Return (some (.Subscript (.Name p pp) (.Constant (.int 0) kk p2) p3)) p4])
    (S : FnScope [p] [p] (defScope st)) (hloc : (defScope st).names.lookup p = some .local) (hbd : Binds K fd [p] []) (hp : (p == ("__debug__" : Str)) = false) {A : Around} {s : Shared} (KX : K.In s.heap) (lim : s.heap.NoLimit) (hr : A.depth < recursionLimit) {t : Addr} {items : Array Value}
    (ht : IsTup s.heap t items) {y : Value} (hy : items[0]? = some y) : wpAny (model P w) A (call (.ref f) [.ref t]) (fun v s' => v = y ∧ ∃ h' tk, s' = { s with heap := h', toks := tk } ∧ ∀ b o, s.heap.get? b = some o → h'.get? b = some o) (fun _ _ => False) s := by
  have hq := hbd s [.ref t] KX rfl
  obtain ⟨oc, od, kV, doc, pm, an, cdv, ct, osl, rfl, lk, hcd⟩ := F.ex
  have hkind : ∀ z ∈ [p].zip ([Value.ref t] ++ []), (defScope st).names.lookup z.1 = some .local ∨ ((defScope st).names.lookup z.1 = some .cell ∧ ((cellsFrom (s.heap.objs.size + 1) (defScope st).names []).lookup z.1).isSome = true) := fun ⟨n, v⟩ hz => by
    have : n = p := by simpa using (List.of_mem_zip hz).1
    subst this
    exact .inl hloc
  refine wpAny_call (codeAny_call_function hr (KX _ _ lk) rfl S.co S.gen rfl (PySem.W.codeRec_of KX hcd) (hq _ _ _ _ ?_))
  refine wpAny_newFunctionEnv_cells S.kind hkind fun env he s1 x => ?_
  subst he
  refine ⟨lim.keeps x.toInCall.keep, codeAny_func ?_⟩
  show wpAny _ _ (execs (defBody st) _) _ _ _
  rw [hb]
  refine wpAny_execs_cons (wpAny_Return_some (wpAny_Subscript_Constant_late (wpAny_Name (ldLC x S.kind hloc (v := .ref t) (by first | exact bindL_one hloc | skip) ?_) hp)))
  refine wpAny_Constant_int ?_
  have ht1 : IsTup s1.heap t items := ht.keeps x.toInCall.keep
  refine ⟨"tuple", "tuple.__getitem__", slot_tuple_getitem.lookup, ht1.typeIs, ?_⟩
  have h0 : 0 < items.size := (Array.getElem?_eq_some_iff.mp hy).1
  refine getItem_tuple (j := 0) ht1 (by decide) (by decide) (by unfold seqIndex?; simp [h0]) hy ?_
  obtain ⟨h1, tk, rfl, hk⟩ := x.done
  exact ⟨rfl, h1, _, rfl, hk⟩
/-! sorted(xs, key=f), f as above: tuples by their first text -/
def nameD : D → Str
  | .tup (.v (.str s) :: _) => s
  | _ => ⟨#[]⟩
def leD (a b : D) : Bool := decide ((nameD a).cps.toList ≤ (nameD b).cps.toList)
def TupS (d : D) : Prop := ∃ s r, d = .tup (.str s :: r)
def sortByK (Q : DK) : DK := fun d M => ∃ ds, lstAt M d = some ds ∧ (∀ d ∈ ds, TupS d) ∧ ∀ p, M p = none → Q (.ob p) (mupd M p (.lst (ds.mergeSort leD)))
def dSortBy (te : DE) : DE := fun env M Q E => te env M (sortByK Q) E
theorem s_sortBy {te env M Q E} : dSortBy te env M Q E = te env M (sortByK Q) E := id rfl
theorem s_sortByK {Q d M} : sortByK Q d M = ∃ ds, lstAt M d = some ds ∧ (∀ d ∈ ds, TupS d) ∧ ∀ p, M p = none → Q (.ob p) (mupd M p (.lst (ds.mergeSort leD))) := id rfl
def rSortBy (K : PySem.W.Frag) (f : Addr) : List V → List V → Hp → VK → Prop := fun vs zs H Q => ∃ (a : Addr) (as : List Addr) (ds : List D), vs = [.ref a] ∧ zs = [.ref f] ∧ SqL K H a (as.map V.ref) ∧ RepL K H ds (as.map V.ref) ∧ (∀ d ∈ ds, TupS d) ∧
  ∀ (p : Addr) (us : List V), H p = none → RepL K H (ds.mergeSort leD) us → Q (.ref p) (upd H p (.lst us))
theorem refs_of {K : PySem.W.Frag} {H : Hp} : ∀ {ds : List D} {us : List V}, (∀ d ∈ ds, TupS d) → RepL K H ds us → ∃ as : List Addr, us = as.map V.ref
  | [], _, _, h => by unfold RepL at h; exact ⟨[], h⟩
  | d :: ds, _, ht, h => by
    unfold RepL at h
    obtain ⟨u, r, rfl, q, t⟩ := h
    obtain ⟨s, r', rfl⟩ := ht d List.mem_cons_self
    unfold RepD at q
    obtain ⟨a, us, rfl, _⟩ := q
    obtain ⟨as, rfl⟩ := refs_of (fun d hd => ht d (List.mem_cons_of_mem _ hd)) t
    exact ⟨a :: as, rfl⟩
theorem rep_zip {K : PySem.W.Frag} {H : Hp} : ∀ {ds : List D} {as : List Addr}, RepL K H ds (as.map V.ref) → (∀ z ∈ as.zip ds, RepD K H z.2 (.ref z.1)) ∧ (as.zip ds).map (·.2) = ds ∧ (as.zip ds).map (·.1) = as
  | [], as, h => by
    unfold RepL at h
    have : as = [] := by simpa using h
    subst this
    exact ⟨by simp, rfl, rfl⟩
  | d :: ds, [], h => by
    unfold RepL at h
    obtain ⟨u, r, e, _⟩ := h
    cases e
  | d :: ds, a :: as, h => by
    unfold RepL at h
    obtain ⟨u, r, e, q, t⟩ := h
    simp only [List.map_cons, List.cons.injEq] at e
    obtain ⟨rfl, rfl⟩ := e
    obtain ⟨h1, h2, h3⟩ := rep_zip t
    refine ⟨fun z hz => ?_, by simp [h2], by simp [h3]⟩
    rw [List.zip_cons_cons] at hz
    rcases List.mem_cons.mp hz with e | e
    · rw [e]; exact q
    · exact h1 z e
theorem rep_unzip {K : PySem.W.Frag} {H : Hp} : ∀ {zs : List (Addr × D)}, (∀ z ∈ zs, RepD K H z.2 (.ref z.1)) → RepL K H (zs.map (·.2)) (zs.map fun z => V.ref z.1)
  | [], _ => .nil
  | z :: zs, h => .cons (h z List.mem_cons_self) (rep_unzip fun z' hz => h z' (List.mem_cons_of_mem _ hz))
theorem eachIs_refs {K : PySem.W.Frag} : ∀ (zs : List (Addr × D)), PySem.W.EachIs (fun (v : Value) (z : Addr × D) => v = .ref z.1) (zs.map fun z => Value.ref z.1) zs
  | [] => .nil
  | z :: zs => .cons rfl (eachIs_refs (K := K) zs)
theorem eachIs_eq : ∀ {vs : List Value} {zs : List (Addr × D)}, PySem.W.EachIs (fun (v : Value) (z : Addr × D) => v = .ref z.1) vs zs → vs = zs.map fun z => Value.ref z.1
  | _, _, .nil => rfl
  | _, _, .cons h t => by rw [h, eachIs_eq t]; rfl
theorem cr_sortBy {X : Cx} {x qual p : Str} {st : Stmt} {f : Addr} {fd : FuncData} {pp p2 p3 p4 : Pos} {kk : Nat} (F : Fun X.K x qual st f fd) (hb : defBody st = [.Return (some (.Subscript (.Name p pp) (.Constant (.int 0) kk p2) p3)) p4])
    (S : FnScope [p] [p] (defScope st)) (hloc : (defScope st).names.lookup p = some .local) (hbd : Binds X.K fd [p] []) (hp : (p == ("__debug__" : Str)) = false) (hr : Room 1 X.A) : CallRK X (.builtin "sorted") [Str.ofString "key"] (rSortBy X.K f) := by
  intro pins s σ H vs zs us ws Q I r rz h
  obtain ⟨a, as, ds, rfl, rfl, hs, hl, hts, q⟩ := h
  obtain rfl := Vals.ref1 r
  obtain ⟨w1, rfl, e1⟩ := vals1 rz
  obtain rfl : w1 = Value.ref f := e1
  obtain ⟨its, rv, p', hz⟩ := I.list hs
  have ei : its = as.map Value.ref := by
    clear p' hz hs hl q
    induction as generalizing its with
    | nil => cases rv; rfl
    | cons b as ih =>
      cases rv with
      | cons r1 rr =>
        cases r1
        rw [ih _ rr]; rfl
  subst ei
  obtain ⟨z1, z2, z3⟩ := rep_zip hl
  have hlen : (as.zip ds).length = as.length := by
    have := congrArg List.length z3
    simpa using this
  have ev : as.map Value.ref = (as.zip ds).map fun z => Value.ref z.1 := by
    rw [show (fun z : Addr × D => Value.ref z.1) = Value.ref ∘ Prod.fst from rfl, ← List.map_map, z3]
  have hz' : as.length ≤ sizeLine := by simpa using hz
  refine PySem.W.sorted_key_data (s := s) (vs := as.map Value.ref) (bs := as.zip ds) (R := fun (v : Value) (z : Addr × D) => v = .ref z.1) (b := false) (f := .ref f) (k := fun z : Addr × D => .str (nameD z.2)) p'.isList (ev ▸ eachIs_refs (K := X.K) _) ?_ ?_ (by rw [hlen]; exact hz') (fun z _ => ?_) (PyProof.Rows.ksk_s1 _ _) (fun _ => PyProof.Rows.ksk_l1 _ _) (fun b => PyProof.Rows.ksk_t1 f b) ?_ ?_
  · intro d hd d' hd'
    obtain ⟨z, _, rfl⟩ := List.mem_map.mp hd
    obtain ⟨z', _, rfl⟩ := List.mem_map.mp hd'
    simp [PySem.W.alike]
  · refine .inr fun d hd => ?_
    obtain ⟨z, _, rfl⟩ := List.mem_map.mp hd
    exact ⟨by simp, by simp⟩
  · have := hr.un
    show X.A.units + 2 + PyData.depth (.str _) < cLine
    simp [PyData.depth]; omega
  · intro v z hv hzm h1 tk kp
    subst hv
    have rd := z1 z hzm
    have hd2 : z.2 ∈ ds := (List.of_mem_zip hzm).2
    obtain ⟨sx, rx, ez⟩ := hts z.2 hd2
    rw [ez] at rd ⊢
    unfold RepD at rd
    obtain ⟨a', us', e, sq, rl⟩ := rd
    cases e
    obtain ⟨its2, rv2, tt, _⟩ := I.tuple sq
    unfold RepL at rl
    obtain ⟨u0, r0, rfl, q0, _⟩ := rl
    rw [rep_v q0] at rv2
    cases rv2 with
    | cons ra rb =>
      obtain ⟨tok, rfl⟩ := ra
      rename_i its3
      refine wpAny_mono (key_first (y := .str sx tok) F hb S hloc hbd hp (A := X.A.in1.in1) (s := { s with heap := h1, toks := tk }) (I.kIn.keeps kp) ((I.env0.mod.nolimit.keeps fun b o e => (I.env0.bs b o e).1).keeps kp) (by have := hr.dp; show X.A.depth < _; omega) (tt.keeps kp) (by simp)) (fun v s' ⟨hv, h', tk', e, kk'⟩ => ?_) fun _ _ z => z
      subst e hv
      exact ⟨h', tk', rfl, kk', .str _ _⟩
  · intro out c h' tk kp fr he ho hE
    rw [eachIs_eq hE, PySem.W.dataLe_str (fun z : Addr × D => nameD z.2)] at he
    have e2 : ((as.zip ds).mergeSort fun a b => decide ((nameD a.2).cps.toList ≤ (nameD b.2).cps.toList)).map (·.2) = ds.mergeSort leD := by
      exact (List.map_mergeSort (r := fun a b : Addr × D => decide ((nameD a.2).cps.toList ≤ (nameD b.2).cps.toList)) (s := leD) (f := fun z : Addr × D => z.2) (l := as.zip ds) (fun a _ b _ => rfl)).trans (by rw [z2])
    have zr : ∀ z ∈ (as.zip ds).mergeSort fun a b => decide ((nameD a.2).cps.toList ≤ (nameD b.2).cps.toList), RepD X.K H z.2 (.ref z.1) := fun z hz => z1 z (List.mem_mergeSort.mp hz)
    generalize (as.zip ds).mergeSort (fun a b => decide ((nameD a.2).cps.toList ≤ (nameD b.2).cps.toList)) = zs at he e2 zr
    have hn : H (s.heap.objs.size + 1) = none := I.hok.fresh (Nat.le_succ _)
    have hls : (zs.map fun z => V.ref z.1).length ≤ sizeLine := by
      have e3 := congrArg List.length e2
      rw [List.length_map, List.length_mergeSort] at e3
      rw [List.length_map, e3]
      have := congrArg List.length z2
      rw [List.length_map, hlen] at this
      omega
    have rl := rep_unzip zr
    rw [e2] at rl
    refine ⟨.ref _, upd H (s.heap.objs.size + 1) (.lst (zs.map fun z => V.ref z.1)), I.laid (t' := tk) kp (Nat.le_succ _) ⟨hls, _, c, vals_maps (fun z : Addr × D => V.ref z.1) (fun z => Value.ref z.1) zs fun _ _ => rfl, he⟩, rfl, q _ _ hn rl⟩
section
variable {X : Cx} {W : WX} {e : Expr} {te : DE} {x y p : Str} {sp kp np pos pp p2 p3 p4 : Pos} {kk : Nat} {st : Stmt}
theorem xe_sortBy (S0 : Src X.K X.mg y st [p]) (hb : defBody st = [.Return (some (.Subscript (.Name p pp) (.Constant (.int 0) kk p2) p3)) p4]) (S : FnScope [p] [p] (defScope st)) (hloc : (defScope st).names.lookup p = some .local) (hr : Room 1 X.A) (he : XE X W e te) (hg : Gl X "sorted") (hm : X.mg "sorted" = none)
    (hv : bootBuiltins "sorted" = some (.builtin "sorted")) (hgy : Gl X y) (hp : (p == ("__debug__" : Str)) = false := by decide) (hdb : (y == ("__debug__" : Str)) = false := by decide)
    (hs0 : starEach [e] X.env = (false, eval e X.env) :: starEach [] X.env := by rfl) (hs : backTo pos (starEach [e] X.env) = (false, eval e X.env) :: backTo pos (starEach [] X.env) := by rfl) (hpl : (backTo pos (starEach [e] X.env)).any (·.1) = false := by rfl)
    (hall : (backToKw pos (keywordEach [⟨some "key", .Name y np, kp⟩] X.env)).all (·.1.isSome) = true := by rfl) (hnone : (backToKw pos (keywordEach [⟨some "key", .Name y np, kp⟩] X.env)).any (·.1.isNone) = false := by rfl) (hks : (backToKw pos (keywordEach [⟨some "key", .Name y np, kp⟩] X.env)).filterMap (·.1) = [Str.ofString "key"] := by rfl) :
    XE X W (.Call (.Name "sorted" sp) [e] [⟨some "key", .Name y np, kp⟩] pos) (dSortBy te) := by
  obtain ⟨f, fd, F, h1, h2, h3⟩ := S0.ex
  refine ⟨fun env M Q Q' E E' hQ hE => he.mono _ _ _ _ _ _ (fun d M1 ⟨ds, h1, h2, h⟩ => ⟨ds, h1, h2, fun p z => hQ _ _ (h p z)⟩) hE, PEw (pe_callBK (cr_sortBy F hb S hloc h3 hp hr) hg hm hv (pa_cons he.pe pa_nil hs0) (pk_cons (pe_glob (v := .ref f) hgy h1 rfl hdb) pk_nil) (he := hs) (hpl := hpl) (hall := hall) (hnone := hnone) (hks := hks)) ?_⟩
  rintro σ H Q ⟨env, M, re, sm, h⟩
  refine stepE he.mono re sm h (fun d M1 u H1 e1 s1 re1 r1 q => ?_) fun _ _ _ z => z
  obtain ⟨ds, hd, hts, q⟩ := q
  obtain ⟨a, us, rfl, hs', l⟩ := lstAt_rep s1 r1 hd
  obtain ⟨as, rfl⟩ := refs_of hts l
  refine ⟨a, as, ds, rfl, rfl, hs', l, hts, fun p us hp hl => ?_⟩
  exact q p (s1.free hp) _ _ (e1.trans (Ext.new hp)) (s1.new hp ⟨us, upd_same, RepL.mono (Ext.new hp) _ hl⟩) rep_of
end
end PL

set_option maxHeartbeats 4000000
namespace K02
open PySem PySem.Spec PyProof.Rows L2 PL
def topS (i : Nat) : Stmt := PySem.Challenge.pw_cellchains_k02_written_sources.main.body.getD i (.Pass ⟨0, 0, 0, 0⟩)
abbrev s_picture_text : Stmt := topS 1
theorem sc_picture_text : FnScope ["picture", "same", "unlike", "cells", "chains", "found", "one", "other"] ["picture"] (defScope s_picture_text) := ⟨rfl, rfl, rfl, by decide +kernel, rfl, by decide +kernel, by decide +kernel⟩
abbrev s_test_text : Stmt := topS 2
theorem sc_test_text : FnScope ["test", "sign"] ["test"] (defScope s_test_text) := ⟨rfl, rfl, rfl, by decide +kernel, rfl, by decide +kernel, by decide +kernel⟩
abbrev s_simple_text : Stmt := topS 3
theorem sc_simple_text : FnScope ["statement", "kind"] ["statement"] (defScope s_simple_text) := ⟨rfl, rfl, rfl, by decide +kernel, rfl, by decide +kernel, by decide +kernel⟩
abbrev s_statement_lines : Stmt := topS 4
theorem sc_statement_lines : FnScope ["statement", "lines"] ["statement"] (defScope s_statement_lines) := ⟨rfl, rfl, rfl, by decide +kernel, rfl, by decide +kernel, by decide +kernel⟩
abbrev s_body_lines : Stmt := topS 5
theorem sc_body_lines : FnScope ["body", "found", "statement", "line"] ["body"] (defScope s_body_lines) := ⟨rfl, rfl, rfl, by decide +kernel, rfl, by decide +kernel, by decide +kernel⟩
abbrev s_proc_lines : Stmt := topS 6
theorem sc_proc_lines : FnScope ["proc", "name", "parameters", "places", "need", "ensures", "body", "lines", "picture"] ["proc"] (defScope s_proc_lines) := ⟨rfl, rfl, rfl, by decide +kernel, rfl, by decide +kernel, by decide +kernel⟩
abbrev s_write_source : Stmt := topS 7
theorem sc_write_source : FnScope ["source", "lines", "proc", "line"] ["source"] (defScope s_write_source) := ⟨rfl, rfl, rfl, by decide +kernel, rfl, by decide +kernel, by decide +kernel⟩
abbrev s_run_end : Stmt := topS 21
theorem sc_run_end : FnScope ["line", "start", "signs", "end"] ["line", "start", "signs"] (defScope s_run_end) := ⟨rfl, rfl, rfl, by decide +kernel, rfl, by decide +kernel, by decide +kernel⟩
abbrev s_word_at : Stmt := topS 22
theorem sc_word_at : FnScope ["line", "start", "word"] ["line", "start"] (defScope s_word_at) := ⟨rfl, rfl, rfl, by decide +kernel, rfl, by decide +kernel, by decide +kernel⟩
abbrev s_token_at : Stmt := topS 23
theorem sc_token_at : FnScope ["line", "start"] ["line", "start"] (defScope s_token_at) := ⟨rfl, rfl, rfl, by decide +kernel, rfl, by decide +kernel, by decide +kernel⟩
abbrev s_tokens_of : Stmt := topS 24
theorem sc_tokens_of : FnScope ["line", "found", "index", "token"] ["line"] (defScope s_tokens_of) := ⟨rfl, rfl, rfl, by decide +kernel, rfl, by decide +kernel, by decide +kernel⟩
abbrev s_read_atom : Stmt := topS 29
theorem sc_read_atom : FnScope ["cursor", "parts", "kind", "one", "sign"] ["cursor", "parts"] (defScope s_read_atom) := ⟨rfl, rfl, rfl, by decide +kernel, rfl, by decide +kernel, by decide +kernel⟩
abbrev s_read_picture : Stmt := topS 30
theorem sc_read_picture : FnScope ["cursor", "parts", "part"] ["cursor"] (defScope s_read_picture) := ⟨rfl, rfl, rfl, by decide +kernel, rfl, by decide +kernel, by decide +kernel⟩
abbrev s_read_names : Stmt := topS 31
theorem sc_read_names : FnScope ["cursor", "least", "found"] ["cursor", "least"] (defScope s_read_names) := ⟨rfl, rfl, rfl, by decide +kernel, rfl, by decide +kernel, by decide +kernel⟩
abbrev s_read_test : Stmt := topS 32
theorem sc_read_test : FnScope ["cursor", "one", "sign"] ["cursor"] (defScope s_read_test) := ⟨rfl, rfl, rfl, by decide +kernel, rfl, by decide +kernel, by decide +kernel⟩
abbrev s_read_set : Stmt := topS 33
theorem sc_read_set : FnScope ["cursor", "one"] ["cursor"] (defScope s_read_set) := ⟨rfl, rfl, rfl, by decide +kernel, rfl, by decide +kernel, by decide +kernel⟩
abbrev s_read_call : Stmt := topS 34
theorem sc_read_call : FnScope ["cursor", "name", "names"] ["cursor"] (defScope s_read_call) := ⟨rfl, rfl, rfl, by decide +kernel, rfl, by decide +kernel, by decide +kernel⟩
abbrev s_read_simple : Stmt := topS 35
theorem sc_read_simple : FnScope ["word", "cursor"] ["word", "cursor"] (defScope s_read_simple) := ⟨rfl, rfl, rfl, by decide +kernel, rfl, by decide +kernel, by decide +kernel⟩
abbrev s_proc_name : Stmt := topS 39
theorem sc_proc_name : FnScope ["proc"] ["proc"] (defScope s_proc_name) := ⟨rfl, rfl, rfl, by decide +kernel, rfl, by decide +kernel, by decide +kernel⟩
abbrev s_read_source : Stmt := topS 40
theorem sc_read_source : FnScope ["text", "reader", "lines", "number", "line", "tokens"] ["text"] (defScope s_read_source) := ⟨rfl, rfl, rfl, by decide +kernel, rfl, by decide +kernel, by decide +kernel⟩
abbrev s__law_start : Stmt := topS 42
theorem sc__law_start : FnScope ["script"] ["script"] (defScope s__law_start) := ⟨rfl, rfl, rfl, by decide +kernel, rfl, by decide +kernel, by decide +kernel⟩
abbrev s__law_draw : Stmt := topS 43
theorem sc__law_draw : FnScope ["state", "most", "found", "cell", "mixed"] ["state", "most"] (defScope s__law_draw) := ⟨rfl, rfl, rfl, by decide +kernel, rfl, by decide +kernel, by decide +kernel⟩
abbrev s__law_one_of : Stmt := topS 44
theorem sc__law_one_of : FnScope ["state", "items"] ["state", "items"] (defScope s__law_one_of) := ⟨rfl, rfl, rfl, by decide +kernel, rfl, by decide +kernel, by decide +kernel⟩
abbrev s__law_is_int : Stmt := topS 45
theorem sc__law_is_int : FnScope ["x"] ["x"] (defScope s__law_is_int) := ⟨rfl, rfl, rfl, by decide +kernel, rfl, by decide +kernel, by decide +kernel⟩
abbrev s__law_same : Stmt := topS 46
theorem sc__law_same : FnScope ["x", "y", "k"] ["x", "y"] (defScope s__law_same) := ⟨rfl, rfl, rfl, by decide +kernel, rfl, by decide +kernel, by decide +kernel⟩
abbrev s__law_word : Stmt := topS 47
theorem sc__law_word : FnScope ["state", "signs", "word", "k"] ["state"] (defScope s__law_word) := ⟨rfl, rfl, rfl, by decide +kernel, rfl, by decide +kernel, by decide +kernel⟩
abbrev s__law_place : Stmt := topS 48
theorem sc__law_place : FnScope ["state", "names"] ["state", "names"] (defScope s__law_place) := ⟨rfl, rfl, rfl, by decide +kernel, rfl, by decide +kernel, by decide +kernel⟩
abbrev s__law_statement : Stmt := topS 49
theorem sc__law_statement : FnScope ["state", "names", "deep", "x", "pick", "test", "first", "k"] ["state", "names", "deep"] (defScope s__law_statement) := ⟨rfl, rfl, rfl, by decide +kernel, rfl, by decide +kernel, by decide +kernel⟩
abbrev s__law_parts : Stmt := topS 50
theorem sc__law_parts : FnScope ["state", "names", "least", "kinds", "many", "k"] ["state", "names", "least"] (defScope s__law_parts) := ⟨rfl, rfl, rfl, by decide +kernel, rfl, by decide +kernel, by decide +kernel⟩
abbrev s__law_picture : Stmt := topS 51
theorem sc__law_picture : FnScope ["parts", "kinds", "kind", "part"] ["parts"] (defScope s__law_picture) := ⟨rfl, rfl, rfl, by decide +kernel, rfl, by decide +kernel, by decide +kernel⟩
abbrev s__law_listed : Stmt := topS 52
theorem sc__law_listed : FnScope ["names", "found", "name"] ["names"] (defScope s__law_listed) := ⟨rfl, rfl, rfl, by decide +kernel, rfl, by decide +kernel, by decide +kernel⟩
abbrev s__law_part_tokens : Stmt := topS 53
theorem sc__law_part_tokens : FnScope ["part", "kind", "one", "other"] ["part"] (defScope s__law_part_tokens) := ⟨rfl, rfl, rfl, by decide +kernel, rfl, by decide +kernel, by decide +kernel⟩
abbrev s__law_parts_tokens : Stmt := topS 54
theorem sc__law_parts_tokens : FnScope ["parts", "found", "part"] ["parts"] (defScope s__law_parts_tokens) := ⟨rfl, rfl, rfl, by decide +kernel, rfl, by decide +kernel, by decide +kernel⟩
abbrev s__law_test_tokens : Stmt := topS 55
theorem sc__law_test_tokens : FnScope ["test"] ["test"] (defScope s__law_test_tokens) := ⟨rfl, rfl, rfl, by decide +kernel, rfl, by decide +kernel, by decide +kernel⟩
abbrev s__law_simple_tokens : Stmt := topS 56
theorem sc__law_simple_tokens : FnScope ["s"] ["s"] (defScope s__law_simple_tokens) := ⟨rfl, rfl, rfl, by decide +kernel, rfl, by decide +kernel, by decide +kernel⟩
abbrev s__law_body_lines : Stmt := topS 57
theorem sc__law_body_lines : FnScope ["body", "deep", "found", "s"] ["body", "deep"] (defScope s__law_body_lines) := ⟨rfl, rfl, rfl, by decide +kernel, rfl, by decide +kernel, by decide +kernel⟩
abbrev s__law_proc_lines : Stmt := topS 58
theorem sc__law_proc_lines : FnScope ["name", "parameters", "places", "need", "ensures", "body", "found", "parts"] ["name", "parameters", "places", "need", "ensures", "body"] (defScope s__law_proc_lines) := ⟨rfl, rfl, rfl, by decide +kernel, rfl, by decide +kernel, by decide +kernel⟩
abbrev s__law_spaced : Stmt := topS 59
theorem sc__law_spaced : FnScope ["tokens", "text", "k"] ["tokens"] (defScope s__law_spaced) := ⟨rfl, rfl, rfl, by decide +kernel, rfl, by decide +kernel, by decide +kernel⟩
abbrev s__law_parts_of : Stmt := topS 60
theorem sc__law_parts_of : FnScope ["picture", "found", "k", "one", "other"] ["picture"] (defScope s__law_parts_of) := ⟨rfl, rfl, rfl, by decide +kernel, rfl, by decide +kernel, by decide +kernel⟩
abbrev s__law_written : Stmt := topS 61
theorem sc__law_written : FnScope ["proc", "name", "parameters", "places", "need", "ensures", "body", "shown", "picture", "lines", "deep", "tokens"] ["proc"] (defScope s__law_written) := ⟨rfl, rfl, rfl, by decide +kernel, rfl, by decide +kernel, by decide +kernel⟩
abbrev s_law : Stmt := topS 62
theorem sc_law : FnScope ["script", "state", "words", "procs", "name", "parameters", "places", "need", "ensures", "body", "picture", "due", "text", "k", "proc"] ["script"] (defScope s_law) := ⟨rfl, rfl, rfl, by decide +kernel, rfl, by decide +kernel, by decide +kernel⟩
abbrev s_Cursor___init__ : Stmt := inClass (topS 25) 0
theorem sc_Cursor___init__ : FnScope ["self", "tokens"] ["self", "tokens"] (defScope s_Cursor___init__) := ⟨rfl, rfl, rfl, by decide +kernel, rfl, by decide +kernel, by decide +kernel⟩
abbrev s_Cursor_peek : Stmt := inClass (topS 25) 1
theorem sc_Cursor_peek : FnScope ["self", "ahead"] ["self", "ahead"] (defScope s_Cursor_peek) := ⟨rfl, rfl, rfl, by decide +kernel, rfl, by decide +kernel, by decide +kernel⟩
abbrev s_Cursor_take : Stmt := inClass (topS 25) 2
theorem sc_Cursor_take : FnScope ["self", "token"] ["self"] (defScope s_Cursor_take) := ⟨rfl, rfl, rfl, by decide +kernel, rfl, by decide +kernel, by decide +kernel⟩
abbrev s_Cursor_skip : Stmt := inClass (topS 25) 3
theorem sc_Cursor_skip : FnScope ["self", "token"] ["self", "token"] (defScope s_Cursor_skip) := ⟨rfl, rfl, rfl, by decide +kernel, rfl, by decide +kernel, by decide +kernel⟩
abbrev s_Cursor_expect : Stmt := inClass (topS 25) 4
theorem sc_Cursor_expect : FnScope ["self", "token"] ["self", "token"] (defScope s_Cursor_expect) := ⟨rfl, rfl, rfl, by decide +kernel, rfl, by decide +kernel, by decide +kernel⟩
abbrev s_Cursor_name : Stmt := inClass (topS 25) 5
theorem sc_Cursor_name : FnScope ["self", "token"] ["self"] (defScope s_Cursor_name) := ⟨rfl, rfl, rfl, by decide +kernel, rfl, by decide +kernel, by decide +kernel⟩
abbrev s_Cursor_place : Stmt := inClass (topS 25) 6
theorem sc_Cursor_place : FnScope ["self"] ["self"] (defScope s_Cursor_place) := ⟨rfl, rfl, rfl, by decide +kernel, rfl, by decide +kernel, by decide +kernel⟩
abbrev s_Cursor_finish : Stmt := inClass (topS 25) 7
theorem sc_Cursor_finish : FnScope ["self"] ["self"] (defScope s_Cursor_finish) := ⟨rfl, rfl, rfl, by decide +kernel, rfl, by decide +kernel, by decide +kernel⟩
abbrev s_Block___init__ : Stmt := inClass (topS 36) 0
theorem sc_Block___init__ : FnScope ["self", "kind", "test"] ["self", "kind", "test"] (defScope s_Block___init__) := ⟨rfl, rfl, rfl, by decide +kernel, rfl, by decide +kernel, by decide +kernel⟩
abbrev s_Block_statement : Stmt := inClass (topS 36) 1
theorem sc_Block_statement : FnScope ["self"] ["self"] (defScope s_Block_statement) := ⟨rfl, rfl, rfl, by decide +kernel, rfl, by decide +kernel, by decide +kernel⟩
abbrev s_ProcReader___init__ : Stmt := inClass (topS 37) 0
theorem sc_ProcReader___init__ : FnScope ["self", "name", "parameters"] ["self", "name", "parameters"] (defScope s_ProcReader___init__) := ⟨rfl, rfl, rfl, by decide +kernel, rfl, by decide +kernel, by decide +kernel⟩
abbrev s_ProcReader_head : Stmt := inClass (topS 37) 1
theorem sc_ProcReader_head : FnScope ["self", "word", "cursor"] ["self", "word", "cursor"] (defScope s_ProcReader_head) := ⟨rfl, rfl, rfl, by decide +kernel, rfl, by decide +kernel, by decide +kernel⟩
abbrev s_ProcReader_take : Stmt := inClass (topS 37) 2
theorem sc_ProcReader_take : FnScope ["self", "word", "cursor", "block"] ["self", "word", "cursor"] (defScope s_ProcReader_take) := ⟨rfl, rfl, rfl, by decide +kernel, rfl, by decide +kernel, by decide +kernel⟩
abbrev s_ProcReader_close : Stmt := inClass (topS 37) 3
theorem sc_ProcReader_close : FnScope ["self", "block"] ["self"] (defScope s_ProcReader_close) := ⟨rfl, rfl, rfl, by decide +kernel, rfl, by decide +kernel, by decide +kernel⟩
abbrev s_Reader___init__ : Stmt := inClass (topS 38) 0
theorem sc_Reader___init__ : FnScope ["self"] ["self"] (defScope s_Reader___init__) := ⟨rfl, rfl, rfl, by decide +kernel, rfl, by decide +kernel, by decide +kernel⟩
abbrev s_Reader_line : Stmt := inClass (topS 38) 1
theorem sc_Reader_line : FnScope ["self", "tokens", "cursor", "word", "name", "proc"] ["self", "tokens"] (defScope s_Reader_line) := ⟨rfl, rfl, rfl, by decide +kernel, rfl, by decide +kernel, by decide +kernel⟩
structure GF (K : PySem.W.Frag) (mg : Str → Option Value) (C_Cursor C_Block C_ProcReader C_Reader v_proc_name : Addr) : Prop where
  tuple : mg "tuple" = none
  enumerate : mg "enumerate" = none
  isinstance : mg "isinstance" = none
  str : mg "str" = none
  range : mg "range" = none
  sorted : mg "sorted" = none
  len : mg "len" = none
  list : mg "list" = none
  abs : mg "abs" = none
  int : mg "int" = none
  all : mg "all" = none
  bool : mg "bool" = none
  LETTERS : ∃ u, mg "LETTERS" = some u ∧ RelV (.str "abcdefghijklmnopqrstuvwxyz") u
  DIGITS : ∃ u, mg "DIGITS" = some u ∧ RelV (.str "0123456789") u
  PAIRS : ∃ a : Addr, mg "PAIRS" = some (.ref a) ∧ ∀ H : Hp, RepD K H (.tup ((["==", "!="] : List Str).map D.str)) (.ref a)
  SINGLES : ∃ u, mg "SINGLES" = some u ∧ RelV (.str "(),*=") u
  MOST_TOKENS : ∃ u, mg "MOST_TOKENS" = some u ∧ RelV (.int 60) u
  MOST_SIGNS : ∃ u, mg "MOST_SIGNS" = some u ∧ RelV (.int 16) u
  RESERVED : ∃ a : Addr, mg "RESERVED" = some (.ref a) ∧ ∀ H : Hp, RepD K H (.tup ((["proc", "end", "local", "need", "ensure", "set", "next", "new", "free", "if", "else", "while", "call", "nil", "cell", "chain", "none"] : List Str).map D.str)) (.ref a)
  NIL : ∃ u, mg "NIL" = some u ∧ RelV (.str "nil") u
  EMPTY : ∃ a : Addr, mg "EMPTY" = some (.ref a) ∧ ∀ H : Hp, RepD K H (.tup [.tup [], .tup [], .tup [], .tup []]) (.ref a)
  MOST_OPEN : ∃ u, mg "MOST_OPEN" = some u ∧ RelV (.int 30) u
  T_Cursor : ICls K C_Cursor ["tokens", "at"]
  T_Block : ICls K C_Block ["kind", "test", "first", "rows"]
  T_ProcReader : ICls K C_ProcReader ["name", "parameters", "locals", "need", "ensures", "stage", "blocks"]
  T_Reader : ICls K C_Reader ["procs", "now"]
  V_proc_name : mg "proc_name" = some (.ref v_proc_name)
end K02

set_option maxHeartbeats 4000000
namespace K02
open PySem PySem.Spec PyProof.Rows L2 PL
variable {P : Program} {w : World} {K : PySem.W.Frag} {mg : Str → Option Value} {base : Heap} {C_Cursor C_Block C_ProcReader C_Reader v_proc_name : Addr}
local macro_rules | `(tactic| simp! [$ls,*]) => `(tactic| simp only [s_fld, s_fldK, s_insAt, s_optD, s_obAt, s_fput, s_fputK1, s_fputK2, s_faug, s_faugK1, s_faugK2, s_faugK3, s_meth, s_methK1, s_methK2, s_make, s_makeK, s_makeK2, s_dead, s_tryN, noX_nx, noX_rt, noX_bk, noX_ct, mSplit, opMulS, s_enum, s_enumK, s_sortBy, s_sortByK, look_nil, look_cons, putFD_nil, putFD_cons, List.append_nil, to_nx, to_rt, to_bk, to_ct, to_ex, lp_nx, lp_rt, lp_bk, lp_ct, lp_ex, ret_nx, ret_rt, ret_ex, s_exK, s_bif1, s_bif0, s_optB, s_optE, s_nxD, s_ifK, s_asgN, s_asgT, s_asgL, b_nil, b_nm, b_tp, s_next, s_seq, s_drop, s_ret, s_retN, s_ifS, s_asg, s_brk, s_cont, s_put, s_put1, s_put2, s_put3, s_aug, s_augV, s_augK, s_augK2, s_bin, s_bin1, s_bin2, s_var, s_varK, s_C, s_cb, s_cbK, s_call, s_callK, s_m, s_m1, s_m2, s_nil, s_cons, s_cons1, s_cons2, s_tup, s_tupK, s_lst, s_lstK, s_truth, s_trK, s_tK, s_eK, s_cK, s_and, s_andK, s_or, s_orK, s_not, s_notK, s_ife, s_ifeK, s_andV, s_orV, s_andvK, s_orvK, s_andvK2, s_orvK2, s_notV, s_notvK, s_blK, s_neg, s_negK, s_sl, s_sl1, s_sl2, s_sl3, s_noPart, s_part, s_partK, s_rev, s_revK, s_for, s_forK, s_lc, s_lcK, s_yes, s_walk, s_walkT, s_walkS, s_walkA, s_walkL, s_walkR, s_rng1, s_rng2, s_rng1K, s_rng2K, s_callL, s_callLK, s_callLO, s_clK, s_raise, r_val, r_new, r_put, s_whK, s_lcY, s_lcT, s_lcE, s_cg, s_cgK, s_rng3, s_rng3K, s_lcB, s_lcS, wipeD, Pat.bind, seqOf, rg, s_dict0, s_sortSet, s_sortSetK, q_is_tuple, q_is_str, q_is_int, q_is_bool, q_is_list, q_isR, ofS_inj, String.reduceEq, q_eqI, q_neI, q_eqS, q_neS, decide_true, decide_false, Int.reduceEq, reduceCtorEq, i_NoneType_tuple, i_NoneType_str, i_NoneType_int, i_NoneType_bool, i_NoneType_list, i_bool_tuple, i_bool_str, i_bool_int, i_bool_bool, i_bool_list, i_int_tuple, i_int_str, i_int_int, i_int_bool, i_int_list, i_str_tuple, i_str_str, i_str_int, i_str_bool, i_str_list, i_tuple_tuple, i_tuple_str, i_tuple_int, i_tuple_bool, i_tuple_list, i_list_tuple, i_list_str, i_list_int, i_list_bool, i_list_list, i_dict_tuple, i_dict_str, i_dict_int, i_dict_bool, i_dict_list, tyN, startD, mupd_same, mupd_ne, ne_eq, not_false_eq_true, List.map_cons, List.map_nil, List.length_cons, List.length_nil, List.replicate_succ, List.replicate_zero, Nat.zero_add, Nat.reduceAdd, Nat.reduceSub, Int.cast_ofNat_Int, List.cons_append, List.nil_append, List.getElem?_cons_zero, List.getElem?_cons_succ, List.set_cons_zero, List.set_cons_succ, opIx, atI_cons, ixN, opPut, opAdd, opSub, opMul, opFdiv, opMod, opPow, opLt, opLe, opGt, opGe, opIs, opIsNot, D.isNon, truth, bLen, bAbs, bInt, bTuple, bList, isTy, mAppend, mExtend, mPop, Int.reduceLE, Int.reduceLT, Int.reduceToNat, Int.reduceNeg, Int.reduceNe, Option.bind_some, if_true, if_false, ite_true, ite_false, true_and, and_true, Bool.not_true, Bool.not_false, opIadd, Nat.reduceLT, Nat.reduceLeDiff, Int.ofNat_lt, s_dpNil, s_dpCons, s_dpK1, s_dpK2, s_dpK3, s_disp, s_dispK, s_optKV, kvOf, s_dc, s_dcK, s_keys, s_lockK, s_sortIt, mGet, mDPop, dgetR, bDictC, bTupC, opEqD, opNeD, eqDR, D.key, merge_one, optKV, id, opEqL, opNeL, eqLR, $ls,*])
theorem fn_start (S : Src K mg "_law_start" s__law_start ["script"]) (G : GF K mg C_Cursor C_Block C_ProcReader C_Reader v_proc_name) : Fn P w K mg base 1 "_law_start" (sp_start K) [] := by
  refine S.fn mono_start fun f fd F => fn_ok F sc__law_start (fun ds M Q E h => by obtain ⟨a, m, rfl, _⟩ := h; rfl) ⟨_, fun cdv A outer s H E hr => have hu := hr.u200
    (xss_one (xs_ret (xe_lst (n := 4) (xa_cons (xe_callTyG bListS_mono c_listS (by rfl) G.list (by decide +kernel) (xa_cons (xe_var 0) xa_nil)) (xa_cons xe_int (xa_cons xe_int (xa_cons xe_int xa_nil))))))), fun ds M Q E h => ?_⟩
  obtain ⟨a, ns, rfl, hs, h⟩ := h
  simp! []
  refine ⟨a, ns, rfl, hs, fun p hp => ?_⟩
  simp! []
  intro q hq
  have hqp : q ≠ p := (mupd_none ▸ hq : _ ∧ _).1
  have hq' : M q = none := (mupd_none ▸ hq : _ ∧ _).2
  exact h _ _ _ hq' hp ⟨0, 0, 0, ns, by simp only [mupd_same], by rw [mupd_ne (Ne.symm hqp), mupd_same], by decide, by decide, Ne.symm hqp⟩ ((Keep.new hp).trans (Keep.new hq))
theorem fn_draw (S : Src K mg "_law_draw" s__law_draw ["state", "most"]) (G : GF K mg C_Cursor C_Block C_ProcReader C_Reader v_proc_name) : Fn P w K mg base 1 "_law_draw" sp_draw [] := by
  refine S.fn mono_draw fun f fd F => fn_ok F sc__law_draw (fun ds M Q E h => by obtain ⟨a, b, m, rfl, _⟩ := h; rfl) ⟨_, fun cdv A outer s H E hr => have hu := hr.u200
    (xss_cons (xs_put hu (xe_bin x_add (xe_ix hu (xe_var 0) xe_int) xe_int) (xe_var 0) xe_int)
 (xss_cons (xs_if (xt_cmp x_gt (xe_ix hu (xe_var 0) xe_int) xe_int (nomark _) bl_gt)
 (xss_cons (xs_set 2 sc__law_draw.nd (xe_bin x_mod (xe_callTy c_int (by rfl) G.int (by decide +kernel) (xa_cons (xe_ix hu (xe_var 0) xe_int) xa_nil)) (xe_var 1)))
 (xss_cons (xs_put hu (xe_bin x_fdiv (xe_ix hu (xe_var 0) xe_int) (xe_var 1)) (xe_var 0) xe_int)
 (xss_one (xs_ret (xe_var 2)))))
 xss_nil)
 (xss_cons (xs_set 3 sc__law_draw.nd xe_int)
 (xss_cons (xs_if (xt_cmp x_gt (xe_callB c_len (by rfl) G.len (by decide +kernel) (xa_cons (xe_ix hu (xe_var 0) xe_int) xa_nil)) xe_int (nomark _) bl_gt)
 (xss_one (xs_set 3 sc__law_draw.nd (xe_callB c_abs (by rfl) G.abs (by decide +kernel) (xa_cons (xe_ix hu (xe_ix hu (xe_var 0) xe_int) (xe_bin x_mod (xe_callTy c_int (by rfl) G.int (by decide +kernel) (xa_cons (xe_ix hu (xe_var 0) xe_int) xa_nil)) (xe_callB c_len (by rfl) G.len (by decide +kernel) (xa_cons (xe_ix hu (xe_var 0) xe_int) xa_nil)))) xa_nil))))
 xss_nil)
 (xss_cons (xs_put hu (xe_bin x_add (xe_ix hu (xe_var 0) xe_int) xe_int) (xe_var 0) xe_int)
 (xss_cons (xs_if (xt_cmp x_ge (xe_var 3) (xe_bin x_pow xe_int xe_int) (nomark _) bl_ge)
 (xss_cons (xs_put hu (xe_bin x_fdiv (xe_var 3) (xe_var 1)) (xe_var 0) xe_int)
 (xss_one (xs_ret (xe_bin x_mod (xe_callTy c_int (by rfl) G.int (by decide +kernel) (xa_cons (xe_var 3) xa_nil)) (xe_var 1)))))
 xss_nil)
 (xss_cons (xs_set 4 sc__law_draw.nd (xe_bin x_mod (xe_callTy c_int (by rfl) G.int (by decide +kernel) (xa_cons (xe_bin x_add (xe_bin x_mul (xe_bin x_add (xe_var 3) xe_int) xe_int) (xe_bin x_mul (xe_ix hu (xe_var 0) xe_int) xe_int)) xa_nil)) xe_int))
 (xss_cons (xs_set 4 sc__law_draw.nd (xe_bin x_mod (xe_callTy c_int (by rfl) G.int (by decide +kernel) (xa_cons (xe_bin x_add (xe_bin x_add (xe_bin x_mul (xe_var 4) xe_int) (xe_bin x_fdiv (xe_var 3) xe_int)) (xe_ix hu (xe_var 0) xe_int)) xa_nil)) xe_int))
 (xss_one (xs_ret (xe_bin x_mod (xe_bin x_fdiv (xe_var 4) xe_int) (xe_var 1)))))))))))), fun ds M Q E h => ?_⟩
  obtain ⟨a, b, m, rfl, ⟨p, q, c, ns, ha, hb, hp, hq, hne⟩, h0, h1, h⟩ := h
  have fin : ∀ (r : Int) (M' : Mem) (p q : Int), 0 ≤ r → r < m → 0 ≤ p → 0 ≤ q → M' a = some (.lst [.ob b, .int p, .int q, .int (c + 1)]) → (∀ b, b ≠ a → M' b = M b) → Q (.int r) M' := fun r M' p q r0 r1 p0 q0 e k =>
    h r M' r0 r1 ⟨p, q, c + 1, ns, e, by rw [k b hne]; exact hb, p0, q0, hne⟩ fun b' o e' n => by rw [k b' (by simpa using n)]; exact e'
  simp! [ha]
  refine bif_dec (fun hq0 => ?_) fun hq0 => ?_
  · simp! [ha, h0, h1]
    exact fin _ _ p (q / m) (Int.emod_nonneg _ (by omega)) (Int.emod_lt_of_pos _ h0) hp (Int.ediv_nonneg hq (by omega)) (by simp only [mupd_same]) fun b' hb' => by simp only [mupd_ne hb']
  · simp! [ha, hb, mupd_ne hne]
    refine bif_midD (fun e M' => ∃ cell : Int, e = [some (D.ob a), some (D.int m), none, some (D.int cell), none] ∧ M' = mupd M a (.lst [.ob b, .int p, .int q, .int (c + 1)]) ∧ 0 ≤ cell) (fun hl N hN => ?_) (fun hl N hN => ?_) ?_
    · rw [List.length_map] at hl
      simp! [ha, hb, mupd_ne hne, List.length_map]
      refine ⟨hl, ?_⟩
      have h2 := Int.emod_nonneg p (b := (ns.length : Int)) (by omega)
      have h3 := Int.emod_lt_of_pos p (b := (ns.length : Int)) hl
      have hx : atI (ns.map D.int) (p % (ns.length : Int)) = some (D.int (ns[(p % (ns.length : Int)).toNat]'(by omega))) := by rw [atI_map', atI_get h2 h3]; rfl
      simp! [hx]
      exact hN _ _ ⟨_, rfl, rfl, by split <;> omega⟩
    · simp! []
      exact hN _ _ ⟨_, rfl, rfl, by omega⟩
    · rintro e M' ⟨cell, rfl, rfl, hc⟩
      simp! [ha, hb, mupd_ne hne]
      refine ⟨by decide, bif_dec (fun hl => ?_) fun hl => ?_⟩
      · simp! [ha, h0, h1]
        exact fin _ _ (p + 1) (cell / m) (Int.emod_nonneg _ (by omega)) (Int.emod_lt_of_pos _ h0) (by omega) (Int.ediv_nonneg hc (by omega)) (by simp only [mupd_same]) fun b' hb' => by simp only [mupd_ne hb']
      · simp! [ha, h0]
        exact ⟨IntMulOk.of_right (intBits_le_64 (by decide) (by decide)), IntMulOk.of_right (intBits_le_64 (by decide) (by decide)), IntMulOk.of_right (intBits_le_64 (by decide) (by decide)),
          fin _ _ (p + 1) q (Int.emod_nonneg _ (by omega)) (Int.emod_lt_of_pos _ h0) (by omega) hq (by simp only [mupd_same]) fun b' hb' => by simp only [mupd_ne hb']⟩
theorem fn_one_of (S : Src K mg "_law_one_of" s__law_one_of ["state", "items"]) (G : GF K mg C_Cursor C_Block C_ProcReader C_Reader v_proc_name) (F__law_draw : Fn P w K mg base 1 "_law_draw" sp_draw []) : Fn P w K mg base 2 "_law_one_of" sp_one_of [] := by
  refine S.fn mono_one_of fun f fd F => fn_ok F sc__law_one_of (fun ds M Q E h => by obtain ⟨a, b, m, es, rfl, _⟩ := h; rfl) ⟨_, fun cdv A outer s H E hr => have hu := hr.u200
    (xss_one (xs_ret (xe_ix hu (xe_var 1) (xe_call F__law_draw (hr.mono (by first | decide | omega)) bx_takes (by rfl) (xa_cons (xe_var 0) (xa_cons (xe_callB c_len (by rfl) G.len (by decide +kernel) (xa_cons (xe_var 1) xa_nil)) xa_nil)))))), fun ds M Q E h => ?_⟩
  obtain ⟨a, b, d, es, rfl, hs, hd, hn, h0, h1, h⟩ := h
  have hz : es.length ≤ sizeLine := by rw [sizeLine_eq]; omega
  have hp := List.length_pos_iff.mpr h0
  simp! []
  refine len_seqI hd hz ?_
  simp! []
  refine ⟨a, b, _, rfl, hs, by omega, by omega, fun r M' r0 r1 hs' k => ?_⟩
  simp! []
  obtain ⟨x, hx, hm⟩ := atI_some (xs := es) r0 r1
  exact ix_seqI (seqI_keep hd k hn) hz hx (h x M' hm hs' k)
theorem fn_is_int (S : Src K mg "_law_is_int" s__law_is_int ["x"]) (G : GF K mg C_Cursor C_Block C_ProcReader C_Reader v_proc_name) : Fn P w K mg base 1 "_law_is_int" sp_is_int [] := by
  refine S.fn mono_is_int fun f fd F => fn_ok F sc__law_is_int (fun ds M Q E h => by obtain ⟨a, rfl, _⟩ := h; rfl) ⟨_, fun cdv A outer s H E hr => have hu := hr.u200
    (xss_one (xs_ret (xe_and (xe_callB c_isi (by rfl) G.isinstance (by decide +kernel) (xa_cons (xe_var 0) (xa_cons (xe_bltn (v := .ty "int") (by rfl) G.int (by decide +kernel) rfl) xa_nil))) (xe_one (xe_not (xe_callB c_isi (by rfl) G.isinstance (by decide +kernel) (xa_cons (xe_var 0) (xa_cons (xe_bltn (v := .ty "bool") (by rfl) G.bool (by decide +kernel) rfl) xa_nil)))))))), fun ds M Q E h => ?_⟩
  obtain ⟨i, rfl, h⟩ := h
  simp! []
  exact h
end K02

set_option maxHeartbeats 4000000
namespace K02
open PySem PySem.Spec PyProof.Rows L2 PL SX
variable {P : Program} {w : World} {K : PySem.W.Frag} {mg : Str → Option Value} {base : Heap} {C_Cursor C_Block C_ProcReader C_Reader v_proc_name : Addr}
local macro_rules | `(tactic| simp! [$ls,*]) => `(tactic| simp only [s_fld, s_fldK, s_insAt, s_optD, s_obAt, s_fput, s_fputK1, s_fputK2, s_faug, s_faugK1, s_faugK2, s_faugK3, s_meth, s_methK1, s_methK2, s_make, s_makeK, s_makeK2, s_dead, s_tryN, noX_nx, noX_rt, noX_bk, noX_ct, mSplit, opMulS, s_enum, s_enumK, s_sortBy, s_sortByK, look_nil, look_cons, putFD_nil, putFD_cons, List.append_nil, to_nx, to_rt, to_bk, to_ct, to_ex, lp_nx, lp_rt, lp_bk, lp_ct, lp_ex, ret_nx, ret_rt, ret_ex, s_exK, s_bif1, s_bif0, s_optB, s_optE, s_nxD, s_ifK, s_asgN, s_asgT, s_asgL, b_nil, b_nm, b_tp, s_next, s_seq, s_drop, s_ret, s_retN, s_ifS, s_asg, s_brk, s_cont, s_put, s_put1, s_put2, s_put3, s_aug, s_augV, s_augK, s_augK2, s_bin, s_bin1, s_bin2, s_var, s_varK, s_C, s_cb, s_cbK, s_call, s_callK, s_m, s_m1, s_m2, s_nil, s_cons, s_cons1, s_cons2, s_tup, s_tupK, s_lst, s_lstK, s_truth, s_trK, s_tK, s_eK, s_cK, s_and, s_andK, s_or, s_orK, s_not, s_notK, s_ife, s_ifeK, s_andV, s_orV, s_andvK, s_orvK, s_andvK2, s_orvK2, s_notV, s_notvK, s_blK, s_neg, s_negK, s_sl, s_sl1, s_sl2, s_sl3, s_noPart, s_part, s_partK, s_rev, s_revK, s_for, s_forK, s_lc, s_lcK, s_yes, s_walk, s_walkT, s_walkS, s_walkA, s_walkL, s_walkR, s_rng1, s_rng2, s_rng1K, s_rng2K, s_callL, s_callLK, s_callLO, s_clK, s_raise, r_val, r_new, r_put, s_whK, s_lcY, s_lcT, s_lcE, s_cg, s_cgK, s_rng3, s_rng3K, s_lcB, s_lcS, wipeD, Pat.bind, seqOf, rg, s_dict0, s_sortSet, s_sortSetK, q_is_tuple, q_is_str, q_is_int, q_is_bool, q_is_list, q_isR, ofS_inj, String.reduceEq, q_eqI, q_neI, q_eqS, q_neS, decide_true, decide_false, Int.reduceEq, reduceCtorEq, i_NoneType_tuple, i_NoneType_str, i_NoneType_int, i_NoneType_bool, i_NoneType_list, i_bool_tuple, i_bool_str, i_bool_int, i_bool_bool, i_bool_list, i_int_tuple, i_int_str, i_int_int, i_int_bool, i_int_list, i_str_tuple, i_str_str, i_str_int, i_str_bool, i_str_list, i_tuple_tuple, i_tuple_str, i_tuple_int, i_tuple_bool, i_tuple_list, i_list_tuple, i_list_str, i_list_int, i_list_bool, i_list_list, i_dict_tuple, i_dict_str, i_dict_int, i_dict_bool, i_dict_list, tyN, startD, mupd_same, mupd_ne, ne_eq, not_false_eq_true, List.map_cons, List.map_nil, List.length_cons, List.length_nil, List.replicate_succ, List.replicate_zero, Nat.zero_add, Nat.reduceAdd, Nat.reduceSub, Int.cast_ofNat_Int, List.cons_append, List.nil_append, List.getElem?_cons_zero, List.getElem?_cons_succ, List.set_cons_zero, List.set_cons_succ, opIx, atI_cons, ixN, opPut, opAdd, opSub, opMul, opFdiv, opMod, opPow, opLt, opLe, opGt, opGe, opIs, opIsNot, D.isNon, truth, bLen, bAbs, bInt, bTuple, bList, isTy, mAppend, mExtend, mPop, Int.reduceLE, Int.reduceLT, Int.reduceToNat, Int.reduceNeg, Int.reduceNe, Option.bind_some, if_true, if_false, ite_true, ite_false, true_and, and_true, Bool.not_true, Bool.not_false, opIadd, Nat.reduceLT, Nat.reduceLeDiff, Int.ofNat_lt, s_dpNil, s_dpCons, s_dpK1, s_dpK2, s_dpK3, s_disp, s_dispK, s_optKV, kvOf, s_dc, s_dcK, s_keys, s_lockK, s_sortIt, mGet, mDPop, dgetR, bDictC, bTupC, opEqD, opNeD, eqDR, D.key, merge_one, optKV, id, opEqL, opNeL, eqLR, $ls,*])
theorem in_tupS {x : Str} {fs : List Str} {M : Mem} {Q : DK} : (opIn (.str x) (.tup (fs.map D.str)) M).run M Q = Q (.bl (decide (x ∈ fs))) M := by
  have e : isIn (.str x) (.tup (fs.map D.str)) M = some (0, decide (x ∈ fs)) := by
    simp [isIn, pureL_strs, dpL_strs, D.pure, D.dp]
    have := any_str (x := x) (fs := fs)
    simp only [List.any_map, Function.comp] at this
    exact this
  simp [opIn, e, Res.run, mostDeep]
theorem notIn_tupS {x : Str} {fs : List Str} {M : Mem} {Q : DK} : (opNotIn (.str x) (.tup (fs.map D.str)) M).run M Q = Q (.bl (!decide (x ∈ fs))) M := by
  have e : isIn (.str x) (.tup (fs.map D.str)) M = some (0, decide (x ∈ fs)) := by
    simp [isIn, pureL_strs, dpL_strs, D.pure, D.dp]
    have := any_str (x := x) (fs := fs)
    simp only [List.any_map, Function.comp] at this
    exact this
  simp [opNotIn, e, Res.run, mostDeep]
abbrev lettersS : Str := Str.ofString "abcdefghijklmnopqrstuvwxyz"
abbrev digitsS : Str := Str.ofString "0123456789"
abbrev wordS : Str := lettersS ++ digitsS ++ Str.ofString "_"
abbrev nilS : Str := Str.ofString "nil"
abbrev e0 : Str := Str.ofString ""
abbrev reserved : List Str := [Str.ofString "proc", Str.ofString "end", Str.ofString "local", Str.ofString "need", Str.ofString "ensure", Str.ofString "set", Str.ofString "next", Str.ofString "new", Str.ofString "free", Str.ofString "if", Str.ofString "else", Str.ofString "while", Str.ofString "call", Str.ofString "nil", Str.ofString "cell", Str.ofString "chain", Str.ofString "none"]
/-- a token that is a name -/
def NameOk (x : Str) : Prop := (∃ c r, x.cps.toList = c :: r ∧ c ∈ lettersS.cps.toList) ∧ x ∉ reserved ∧ x.length ≤ 16 ∧ ∀ c ∈ x.cps.toList, c ∈ wordS.cps.toList
def PlaceOk (x : Str) : Prop := x = nilS ∨ NameOk x
theorem NameOk.ne {x : Str} (h : NameOk x) : x ≠ e0 := by
  rintro rfl
  obtain ⟨⟨c, r, h, _⟩, _⟩ := h
  have : e0.cps.toList = [] := by decide +kernel
  rw [this] at h
  cases h
/-- a cursor at c ahead of the tokens rest of the list at t -/
def CurAt (C : Addr) (M : Mem) (c t : Addr) (rest : List Str) : Prop := ∃ (pre : List Str), M c = some (.ins C [("tokens", .ob t), ("at", .int pre.length)]) ∧ M t = some (.lst ((pre ++ rest).map D.str)) ∧ (pre ++ rest).length ≤ 1000 ∧ ∀ x ∈ pre ++ rest, x ≠ e0
theorem CurAt.keep {C : Addr} {M M' : Mem} {c t : Addr} {rest : List Str} {S : List Addr} (h : CurAt C M c t rest) (k : Keep S M M') (hc : c ∉ S := by simp) (ht : t ∉ S := by simp) : CurAt C M' c t rest := by
  obtain ⟨pre, h1, h2, h3⟩ := h
  exact ⟨pre, k _ _ h1 hc, k _ _ h2 ht, h3⟩
theorem CurAt.new {C : Addr} {M : Mem} {c t p : Addr} {o : Ob} {rest : List Str} (h : CurAt C M c t rest) (hp : M p = none) : CurAt C (mupd M p o) c t rest := h.keep (S := []) (Keep.new hp)
theorem CurAt.there {C : Addr} {M : Mem} {c t : Addr} {rest : List Str} (h : CurAt C M c t rest) : (∃ o, M c = some o) ∧ (∃ o, M t = some o) := by
  obtain ⟨pre, h1, h2, h3⟩ := h
  exact ⟨⟨_, h1⟩, ⟨_, h2⟩⟩
theorem CurAt.step {C : Addr} {M : Mem} {c t : Addr} {x : Str} {rest : List Str} (h : CurAt C M c t (x :: rest)) : ∃ pre : List Str, M c = some (.ins C [("tokens", .ob t), ("at", .int pre.length)]) ∧ x ≠ e0 ∧ CurAt C (mupd M c (.ins C [("tokens", .ob t), ("at", .int ((pre.length : Int) + 1))])) c t rest := by
  obtain ⟨pre, h1, h2, h3, h4⟩ := h
  have hct : t ≠ c := by
    rintro rfl
    rw [h1] at h2
    cases h2
  refine ⟨pre, h1, h4 x (by simp), pre ++ [x], ?_, ?_, by simpa using h3, by simpa using h4⟩
  · rw [mupd_same]
    simp
  · rw [mupd_ne hct, h2]
    simp
def sp_cinit (C : Addr) : DSp := fun ds M Q E => ∃ (c t : Addr) (ts : List Str), ds = [.ob c, .ob t] ∧ M c = some (.ins C []) ∧ M t = some (.lst (ts.map D.str)) ∧ ts.length ≤ 1000 ∧ (∀ x ∈ ts, x ≠ e0) ∧ ∀ M', CurAt C M' c t ts → Keep [c] M M' → Q .non M'
theorem mono_cinit {C : Addr} : MonoSp (sp_cinit C) := by
  rintro ds M Q Q' E E' hQ hE ⟨c, t, ts, h1, h2, h3, h4, h5, h⟩
  exact ⟨c, t, ts, h1, h2, h3, h4, h5, fun M' z1 z2 => hQ _ _ (h M' z1 z2)⟩
theorem fn_cinit (S0 : KSrc K mg "Cursor" C_Cursor "Cursor.__init__" s_Cursor___init__ ["self", "tokens"]) (G : GF K mg C_Cursor C_Block C_ProcReader C_Reader v_proc_name) : KFn P w K mg base 1 "Cursor" C_Cursor (sp_cinit C_Cursor) := by
  refine S0.fn mono_cinit fun g fd F => def_ok F sc_Cursor___init__ (fun ds M Q E h => by obtain ⟨c, t, ts, rfl, _⟩ := h; rfl) ⟨_, fun cdv A outer s H E hr => have hu := hr.u200
    (xss_cons (xs_fput G.T_Cursor (xe_var 1) (xe_var 0))
 (xss_one (xs_fput G.T_Cursor xe_int (xe_var 0)))), fun ds M Q E h => ?_⟩
  obtain ⟨c, t, ts, rfl, hc, ht, hl, hn, h⟩ := h
  simp! [hc]
  have hct : t ≠ c := by
    rintro rfl
    rw [hc] at ht
    cases ht
  refine h _ ⟨[], by simp [mupd_same], ?_, by simpa using hl, by simpa using hn⟩ ((Keep.put (by simp)).trans (Keep.put (by simp)))
  rw [mupd_ne hct, mupd_ne hct, ht]
  rfl
def sp_peek (C : Addr) : DSp := fun ds M Q E => ∃ (c t : Addr) (rest : List Str), ds = [.ob c, .int 0] ∧ CurAt C M c t rest ∧ Q (.str (rest.headD e0)) M
theorem mono_peek {C : Addr} : MonoSp (sp_peek C) := by
  rintro ds M Q Q' E E' hQ hE ⟨c, t, r, h1, h2, h⟩
  exact ⟨c, t, r, h1, h2, hQ _ _ h⟩
theorem fn_peek (S0 : MSrc K C_Cursor "peek" "Cursor.peek" s_Cursor_peek ["self", "ahead"] [D.int 0]) (G : GF K mg C_Cursor C_Block C_ProcReader C_Reader v_proc_name) : MFn P w K mg base 1 C_Cursor "peek" (sp_peek C_Cursor) [.int 0] := by
  refine S0.fn mono_peek fun g fd F => def_ok F sc_Cursor_peek (fun ds M Q E h => by obtain ⟨c, t, r, rfl, _⟩ := h; rfl) ⟨_, fun cdv A outer s H E hr => have hu := hr.u200
    (xss_cons (xs_if (xt_cmp x_lt (xe_bin x_add (xe_fld G.T_Cursor (xe_var 0)) (xe_var 1)) (xe_callB c_len (by rfl) G.len (by decide +kernel) (xa_cons (xe_fld G.T_Cursor (xe_var 0)) xa_nil)) (nomark _) bl_lt)
 (xss_one (xs_ret (xe_ix hu (xe_fld G.T_Cursor (xe_var 0)) (xe_bin x_add (xe_fld G.T_Cursor (xe_var 0)) (xe_var 1)))))
 xss_nil)
 (xss_one (xs_ret xe_str))), fun ds M Q E h => ?_⟩
  obtain ⟨c, t, r, rfl, ⟨pre, h1, h2, h3, h4⟩, h⟩ := h
  have sz : (16777216 : Nat) = sizeLine := sizeLine_eq.symm
  simp! [h1, h2, List.length_map]
  refine bif_dec (fun z => ?_) fun z => ?_
  · obtain ⟨x, r', rfl⟩ : ∃ x r', r = x :: r' := by
      cases r with
      | nil => exact absurd z (by simp)
      | cons x r' => exact ⟨x, r', rfl⟩
    have e : atI (List.map D.str (pre ++ x :: r')) (pre.length : Int) = some (D.str x) := by
      rw [atI_map', atI_natI (by simp)]
      simp
    simp! [h1, h2, Int.add_zero, e]
    exact h
  · have : r = [] := by
      cases r with
      | nil => rfl
      | cons x r' => exact absurd (show (pre.length : Int) + 0 < ((pre ++ x :: r').length : Nat) by rw [List.length_append, List.length_cons]; omega) z
    subst this
    simp! []
    exact h
def sp_take (C : Addr) : DSp := fun ds M Q E => ∃ (c t : Addr) (x : Str) (rest : List Str), ds = [.ob c] ∧ CurAt C M c t (x :: rest) ∧ ∀ M', CurAt C M' c t rest → Keep [c] M M' → Q (.str x) M'
theorem mono_take {C : Addr} : MonoSp (sp_take C) := by
  rintro ds M Q Q' E E' hQ hE ⟨c, t, x, r, h1, h2, h⟩
  exact ⟨c, t, x, r, h1, h2, fun M' z1 z2 => hQ _ _ (h M' z1 z2)⟩
theorem fn_take (S0 : MSrc K C_Cursor "take" "Cursor.take" s_Cursor_take ["self"] []) (G : GF K mg C_Cursor C_Block C_ProcReader C_Reader v_proc_name) (M_Cursor_peek : MFn P w K mg base 1 C_Cursor "peek" (sp_peek C_Cursor) [.int 0]) : MFn P w K mg base 2 C_Cursor "take" (sp_take C_Cursor) [] := by
  refine S0.fn mono_take fun g fd F => def_ok F sc_Cursor_take (fun ds M Q E h => by obtain ⟨c, t, x, r, rfl, _⟩ := h; rfl) ⟨_, fun cdv A outer s H E hr => have hu := hr.u200
    (xss_cons (xs_set 1 sc_Cursor_take.nd (xe_meth0 M_Cursor_peek G.T_Cursor (hr.mono (by first | decide | omega)) bx_takes (xe_var 0)))
 (xss_cons (xs_if (xt_cmp (x_eq hu) (xe_var 1) xe_str (nomark _) bl_eq)
 (xss_one xs_dead)
 xss_nil)
 (xss_cons (xs_faug G.T_Cursor (xe_var 0) xe_int x_iaddN)
 (xss_one (xs_ret (xe_var 1)))))), fun ds M Q E h => ?_⟩
  obtain ⟨c, t, x, r, rfl, hc, h⟩ := h
  obtain ⟨pre, h1, hx, h2⟩ := hc.step
  simp! [h1]
  refine ⟨c, t, _, rfl, hc, ?_⟩
  simp! [List.headD_cons]
  refine bif_dec (fun z => absurd z hx) fun _ => ?_
  simp! [h1]
  exact h _ h2 (Keep.put (by simp))
def sp_skip (C : Addr) : DSp := fun ds M Q E => ∃ (c t : Addr) (tok : Str) (rest : List Str), ds = [.ob c, .str tok] ∧ CurAt C M c t rest ∧ tok ≠ e0 ∧ (∀ r, rest = tok :: r → ∀ M', CurAt C M' c t r → Keep [c] M M' → Q (.bl true) M') ∧ (rest.head? ≠ some tok → Q (.bl false) M)
theorem mono_skip {C : Addr} : MonoSp (sp_skip C) := by
  rintro ds M Q Q' E E' hQ hE ⟨c, t, x, r, h1, h2, h3, h4, h5⟩
  exact ⟨c, t, x, r, h1, h2, h3, fun r e M' z1 z2 => hQ _ _ (h4 r e M' z1 z2), fun z => hQ _ _ (h5 z)⟩
theorem fn_skip (S0 : MSrc K C_Cursor "skip" "Cursor.skip" s_Cursor_skip ["self", "token"] []) (G : GF K mg C_Cursor C_Block C_ProcReader C_Reader v_proc_name) (M_Cursor_peek : MFn P w K mg base 1 C_Cursor "peek" (sp_peek C_Cursor) [.int 0]) : MFn P w K mg base 2 C_Cursor "skip" (sp_skip C_Cursor) [] := by
  refine S0.fn mono_skip fun g fd F => def_ok F sc_Cursor_skip (fun ds M Q E h => by obtain ⟨c, t, x, r, rfl, _⟩ := h; rfl) ⟨_, fun cdv A outer s H E hr => have hu := hr.u200
    (xss_cons (xs_if (xt_cmp (x_ne hu) (xe_meth0 M_Cursor_peek G.T_Cursor (hr.mono (by first | decide | omega)) bx_takes (xe_var 0)) (xe_var 1) (nomark _) bl_ne)
 (xss_one (xs_ret xe_bl))
 xss_nil)
 (xss_cons (xs_faug G.T_Cursor (xe_var 0) xe_int x_iaddN)
 (xss_one (xs_ret xe_bl)))), fun ds M Q E h => ?_⟩
  obtain ⟨c, t, tok, r, rfl, hc, ht, h1, h2⟩ := h
  obtain ⟨pre, q1, _⟩ := id hc
  simp! [q1]
  refine ⟨c, t, _, rfl, hc, ?_⟩
  simp! []
  refine bif_of (fun z => ?_) fun z => ?_
  · simp! []
    have z : ¬ r.headD e0 = tok := by simpa using z
    refine h2 fun e => z ?_
    cases r with
    | nil => cases e
    | cons x r => simpa using e
  · have z : r.headD e0 = tok := by simpa using z
    cases r with
    | nil => exact absurd z.symm ht
    | cons x r =>
      have z : x = tok := z
      subst z
      obtain ⟨pre, q1, hx, q2⟩ := hc.step
      simp! [q1]
      exact h1 r rfl _ q2 (Keep.put (by simp))
def sp_expect (C : Addr) : DSp := fun ds M Q E => ∃ (c t : Addr) (x : Str) (rest : List Str), ds = [.ob c, .str x] ∧ CurAt C M c t (x :: rest) ∧ ∀ M', CurAt C M' c t rest → Keep [c] M M' → Q .non M'
theorem mono_expect {C : Addr} : MonoSp (sp_expect C) := by
  rintro ds M Q Q' E E' hQ hE ⟨c, t, x, r, h1, h2, h⟩
  exact ⟨c, t, x, r, h1, h2, fun M' z1 z2 => hQ _ _ (h M' z1 z2)⟩
theorem fn_expect (S0 : MSrc K C_Cursor "expect" "Cursor.expect" s_Cursor_expect ["self", "token"] []) (G : GF K mg C_Cursor C_Block C_ProcReader C_Reader v_proc_name) (M_Cursor_skip : MFn P w K mg base 2 C_Cursor "skip" (sp_skip C_Cursor) []) : MFn P w K mg base 3 C_Cursor "expect" (sp_expect C_Cursor) [] := by
  refine S0.fn mono_expect fun g fd F => def_ok F sc_Cursor_expect (fun ds M Q E h => by obtain ⟨c, t, x, r, rfl, _⟩ := h; rfl) ⟨_, fun cdv A outer s H E hr => have hu := hr.u200
    (xss_one (xs_if (xt_not (xt_val (xe_meth M_Cursor_skip G.T_Cursor (hr.mono (by first | decide | omega)) bx_takes (xe_var 0) (xa_cons (xe_var 1) xa_nil))))
 (xss_one xs_dead)
 xss_nil)), fun ds M Q E h => ?_⟩
  obtain ⟨c, t, x, r, rfl, hc, h⟩ := h
  obtain ⟨pre, q1, hx, _⟩ := hc.step
  simp! [q1]
  refine ⟨c, t, _, _, rfl, hc, hx, fun r' e M' k1 k2 => ?_, fun z => absurd rfl z⟩
  cases e
  simp! []
  exact h _ k1 k2
def sp_name (C : Addr) : DSp := fun ds M Q E => ∃ (c t : Addr) (x : Str) (rest : List Str), ds = [.ob c] ∧ CurAt C M c t (x :: rest) ∧ NameOk x ∧ ∀ M', CurAt C M' c t rest → Keep [c] M M' → Q (.str x) M'
theorem mono_name {C : Addr} : MonoSp (sp_name C) := by
  rintro ds M Q Q' E E' hQ hE ⟨c, t, x, r, h1, h2, h3, h⟩
  exact ⟨c, t, x, r, h1, h2, h3, fun M' z1 z2 => hQ _ _ (h M' z1 z2)⟩
theorem fn_name (S0 : MSrc K C_Cursor "name" "Cursor.name" s_Cursor_name ["self"] []) (G : GF K mg C_Cursor C_Block C_ProcReader C_Reader v_proc_name) (M_Cursor_take : MFn P w K mg base 2 C_Cursor "take" (sp_take C_Cursor) []) : MFn P w K mg base 3 C_Cursor "name" (sp_name C_Cursor) [] := by
  refine S0.fn mono_name fun g fd F => def_ok F sc_Cursor_name (fun ds M Q E h => by obtain ⟨c, t, x, r, rfl, _⟩ := h; rfl) ⟨_, fun cdv A outer s H E hr => have hu := hr.u200
    (xss_cons (xs_set 1 sc_Cursor_name.nd (xe_meth0 M_Cursor_take G.T_Cursor (hr.mono (by first | decide | omega)) bx_takes (xe_var 0)))
 (xss_cons (xs_if (xt_wh (xw_or (xt_cmp (x_notin hu) (xe_ix hu (xe_var 1) xe_int) (xe_globE (by rfl) G.LETTERS) rfl bl_notin) (xw_or1 (xt_cmp (x_in hu) (xe_var 1) (xe_globTE (by rfl) G.RESERVED) rfl bl_in))))
 (xss_one xs_dead)
 xss_nil)
 (xss_one (xs_ret (xe_var 1))))), fun ds M Q E h => ?_⟩
  obtain ⟨c, t, x, r, rfl, hc, hx, h⟩ := h
  obtain ⟨pre, q1, _⟩ := id hc
  obtain ⟨⟨a, l, e1, e2⟩, e3, e4⟩ := hx
  have sz : (16777216 : Nat) = sizeLine := sizeLine_eq.symm
  simp! [q1]
  refine ⟨c, t, _, _, rfl, hc, fun M' k1 k2 => ?_⟩
  have e5 : atI x.cps.toList 0 = some a := by rw [e1]; exact atI_zero
  have nl : ∀ Q : DK, (opNotIn (.str ⟨#[a]⟩) (.str lettersS) M').run M' Q = Q (.bl (!decide (a ∈ lettersS.cps.toList))) M' := fun Q => notIn_sign (c := a)
  have it : ∀ Q : DK, _ := fun Q => in_tupS (x := x) (fs := reserved) (M := M') (Q := Q)
  simp only [List.map_cons, List.map_nil] at it
  simp! [e5, nl, e2, it, e3]
  exact ⟨by rw [← sz]; exact Nat.le_trans e4.1 (by decide), h _ k1 k2⟩
def sp_place (C : Addr) : DSp := fun ds M Q E => ∃ (c t : Addr) (x : Str) (rest : List Str), ds = [.ob c] ∧ CurAt C M c t (x :: rest) ∧ PlaceOk x ∧ ∀ M', CurAt C M' c t rest → Keep [c] M M' → Q (.str x) M'
theorem mono_place {C : Addr} : MonoSp (sp_place C) := by
  rintro ds M Q Q' E E' hQ hE ⟨c, t, x, r, h1, h2, h3, h⟩
  exact ⟨c, t, x, r, h1, h2, h3, fun M' z1 z2 => hQ _ _ (h M' z1 z2)⟩
theorem fn_place (S0 : MSrc K C_Cursor "place" "Cursor.place" s_Cursor_place ["self"] []) (G : GF K mg C_Cursor C_Block C_ProcReader C_Reader v_proc_name) (M_Cursor_skip : MFn P w K mg base 2 C_Cursor "skip" (sp_skip C_Cursor) []) (M_Cursor_name : MFn P w K mg base 3 C_Cursor "name" (sp_name C_Cursor) []) : MFn P w K mg base 4 C_Cursor "place" (sp_place C_Cursor) [] := by
  refine S0.fn mono_place fun g fd F => def_ok F sc_Cursor_place (fun ds M Q E h => by obtain ⟨c, t, x, r, rfl, _⟩ := h; rfl) ⟨_, fun cdv A outer s H E hr => have hu := hr.u200
    (xss_one (xs_ret (xe_if (xt_val (xe_meth M_Cursor_skip G.T_Cursor (hr.mono (by first | decide | omega)) bx_takes (xe_var 0) (xa_cons (xe_globE (by rfl) G.NIL) xa_nil))) (xe_globE (by rfl) G.NIL) (xe_meth0 M_Cursor_name G.T_Cursor (hr.mono (by first | decide | omega)) bx_takes (xe_var 0))))), fun ds M Q E h => ?_⟩
  obtain ⟨c, t, x, r, rfl, hc, hx, h⟩ := h
  obtain ⟨pre, q1, _⟩ := id hc
  simp! [q1]
  refine ⟨c, t, nilS, _, rfl, hc, by decide +kernel, fun r' e M' k1 k2 => ?_, fun z => ?_⟩
  · cases e
    simp! []
    exact h _ k1 k2
  · simp! [q1]
    rcases hx with hx | hx
    · exact absurd (by rw [hx]; rfl) z
    · exact ⟨c, t, _, _, rfl, hc, hx, h⟩
def sp_finish (C : Addr) : DSp := fun ds M Q E => ∃ (c t : Addr), ds = [.ob c] ∧ CurAt C M c t [] ∧ Q .non M
theorem mono_finish {C : Addr} : MonoSp (sp_finish C) := by
  rintro ds M Q Q' E E' hQ hE ⟨c, t, h1, h2, h⟩
  exact ⟨c, t, h1, h2, hQ _ _ h⟩
theorem fn_finish (S0 : MSrc K C_Cursor "finish" "Cursor.finish" s_Cursor_finish ["self"] []) (G : GF K mg C_Cursor C_Block C_ProcReader C_Reader v_proc_name) (M_Cursor_peek : MFn P w K mg base 1 C_Cursor "peek" (sp_peek C_Cursor) [.int 0]) : MFn P w K mg base 2 C_Cursor "finish" (sp_finish C_Cursor) [] := by
  refine S0.fn mono_finish fun g fd F => def_ok F sc_Cursor_finish (fun ds M Q E h => by obtain ⟨c, t, rfl, _⟩ := h; rfl) ⟨_, fun cdv A outer s H E hr => have hu := hr.u200
    (xss_one (xs_if (xt_cmp (x_ne hu) (xe_meth0 M_Cursor_peek G.T_Cursor (hr.mono (by first | decide | omega)) bx_takes (xe_var 0)) xe_str (nomark _) bl_ne)
 (xss_one xs_dead)
 xss_nil)), fun ds M Q E h => ?_⟩
  obtain ⟨c, t, rfl, hc, h⟩ := h
  obtain ⟨pre, q1, _⟩ := id hc
  simp! [q1]
  refine ⟨c, t, _, rfl, hc, ?_⟩
  simp! [List.headD_nil]
  exact h
end K02

set_option maxHeartbeats 4000000
namespace K02
open PySem PySem.Spec PyProof.Rows L2 PL SX
variable {P : Program} {w : World} {K : PySem.W.Frag} {mg : Str → Option Value} {base : Heap} {C_Cursor C_Block C_ProcReader C_Reader v_proc_name : Addr}
local macro_rules | `(tactic| simp! [$ls,*]) => `(tactic| simp only [s_fld, s_fldK, s_insAt, s_optD, s_obAt, s_fput, s_fputK1, s_fputK2, s_faug, s_faugK1, s_faugK2, s_faugK3, s_meth, s_methK1, s_methK2, s_make, s_makeK, s_makeK2, s_dead, s_tryN, noX_nx, noX_rt, noX_bk, noX_ct, mSplit, opMulS, s_enum, s_enumK, s_sortBy, s_sortByK, look_nil, look_cons, putFD_nil, putFD_cons, List.append_nil, to_nx, to_rt, to_bk, to_ct, to_ex, lp_nx, lp_rt, lp_bk, lp_ct, lp_ex, ret_nx, ret_rt, ret_ex, s_exK, s_bif1, s_bif0, s_optB, s_optE, s_nxD, s_ifK, s_asgN, s_asgT, s_asgL, b_nil, b_nm, b_tp, s_next, s_seq, s_drop, s_ret, s_retN, s_ifS, s_asg, s_brk, s_cont, s_put, s_put1, s_put2, s_put3, s_aug, s_augV, s_augK, s_augK2, s_bin, s_bin1, s_bin2, s_var, s_varK, s_C, s_cb, s_cbK, s_call, s_callK, s_m, s_m1, s_m2, s_nil, s_cons, s_cons1, s_cons2, s_tup, s_tupK, s_lst, s_lstK, s_truth, s_trK, s_tK, s_eK, s_cK, s_and, s_andK, s_or, s_orK, s_not, s_notK, s_ife, s_ifeK, s_andV, s_orV, s_andvK, s_orvK, s_andvK2, s_orvK2, s_notV, s_notvK, s_blK, s_neg, s_negK, s_sl, s_sl1, s_sl2, s_sl3, s_noPart, s_part, s_partK, s_rev, s_revK, s_for, s_forK, s_lc, s_lcK, s_yes, s_walk, s_walkT, s_walkS, s_walkA, s_walkL, s_walkR, s_rng1, s_rng2, s_rng1K, s_rng2K, s_callL, s_callLK, s_callLO, s_clK, s_raise, r_val, r_new, r_put, s_whK, s_lcY, s_lcT, s_lcE, s_cg, s_cgK, s_rng3, s_rng3K, s_lcB, s_lcS, wipeD, Pat.bind, seqOf, rg, s_dict0, s_sortSet, s_sortSetK, q_is_tuple, q_is_str, q_is_int, q_is_bool, q_is_list, q_isR, ofS_inj, String.reduceEq, q_eqI, q_neI, q_eqS, q_neS, decide_true, decide_false, Int.reduceEq, reduceCtorEq, i_NoneType_tuple, i_NoneType_str, i_NoneType_int, i_NoneType_bool, i_NoneType_list, i_bool_tuple, i_bool_str, i_bool_int, i_bool_bool, i_bool_list, i_int_tuple, i_int_str, i_int_int, i_int_bool, i_int_list, i_str_tuple, i_str_str, i_str_int, i_str_bool, i_str_list, i_tuple_tuple, i_tuple_str, i_tuple_int, i_tuple_bool, i_tuple_list, i_list_tuple, i_list_str, i_list_int, i_list_bool, i_list_list, i_dict_tuple, i_dict_str, i_dict_int, i_dict_bool, i_dict_list, tyN, startD, mupd_same, mupd_ne, ne_eq, not_false_eq_true, List.map_cons, List.map_nil, List.length_cons, List.length_nil, List.replicate_succ, List.replicate_zero, Nat.zero_add, Nat.reduceAdd, Nat.reduceSub, Int.cast_ofNat_Int, List.cons_append, List.nil_append, List.getElem?_cons_zero, List.getElem?_cons_succ, List.set_cons_zero, List.set_cons_succ, opIx, atI_cons, ixN, opPut, opAdd, opSub, opMul, opFdiv, opMod, opPow, opLt, opLe, opGt, opGe, opIs, opIsNot, D.isNon, truth, bLen, bAbs, bInt, bTuple, bList, isTy, mAppend, mExtend, mPop, Int.reduceLE, Int.reduceLT, Int.reduceToNat, Int.reduceNeg, Int.reduceNe, Option.bind_some, if_true, if_false, ite_true, ite_false, true_and, and_true, Bool.not_true, Bool.not_false, opIadd, Nat.reduceLT, Nat.reduceLeDiff, Int.ofNat_lt, s_dpNil, s_dpCons, s_dpK1, s_dpK2, s_dpK3, s_disp, s_dispK, s_optKV, kvOf, s_dc, s_dcK, s_keys, s_lockK, s_sortIt, mGet, mDPop, dgetR, bDictC, bTupC, opEqD, opNeD, eqDR, D.key, merge_one, optKV, id, opEqL, opNeL, eqLR, $ls,*])
/-! parts of pictures: kind, two places -/
abbrev Part := Str × Str × Str
abbrev kSame : Str := Str.ofString "same"
abbrev kUnl : Str := Str.ofString "unlike"
abbrev kCell : Str := Str.ofString "cell"
abbrev kChn : Str := Str.ofString "chain"
abbrev kNone : Str := Str.ofString "none"
abbrev tEq : Str := Str.ofString "=="
abbrev tNe : Str := Str.ofString "!="
abbrev tL : Str := Str.ofString "("
abbrev tR : Str := Str.ofString ")"
abbrev tC : Str := Str.ofString ","
abbrev tX : Str := Str.ofString "*"
abbrev tA : Str := Str.ofString "="
def PartOk (p : Part) : Prop := (p.1 = kSame ∨ p.1 = kUnl ∨ p.1 = kCell ∨ p.1 = kChn ∨ p.1 = kNone) ∧ PlaceOk p.2.1 ∧ PlaceOk p.2.2
def partToks (p : Part) : List Str := if p.1 = kNone then [kNone] else if p.1 = kSame then [p.2.1, tEq, p.2.2] else if p.1 = kUnl then [p.2.1, tNe, p.2.2] else [p.1, tL, p.2.1, tC, p.2.2, tR]
def pairD (p : Part) : D := .tup [.str p.2.1, .str p.2.2]
def kindL (k : Str) (ps : List Part) : List D := (ps.filter fun p => decide (p.1 = k)).map pairD
def picD (ps : List Part) : D := .tup [.tup (kindL kSame ps), .tup (kindL kUnl ps), .tup (kindL kCell ps), .tup (kindL kChn ps)]
theorem kindL_app (k : Str) (ps : List Part) (p : Part) : kindL k (ps ++ [p]) = if p.1 = k then kindL k ps ++ [pairD p] else kindL k ps := by
  unfold kindL
  rw [List.filter_append, List.map_append]
  by_cases h : p.1 = k <;> simp [h]
theorem kindL_len (k : Str) (ps : List Part) : (kindL k ps).length ≤ ps.length := by
  unfold kindL
  rw [List.length_map]
  exact List.length_filter_le _ _
/-- the four lists of a picture that is read -/
structure PartsAt (M : Mem) (a0 a1 a2 a3 : Addr) (ps : List Part) : Prop where
  h0 : M a0 = some (.lst (kindL kSame ps))
  h1 : M a1 = some (.lst (kindL kUnl ps))
  h2 : M a2 = some (.lst (kindL kCell ps))
  h3 : M a3 = some (.lst (kindL kChn ps))
theorem PartsAt.keep {M M' : Mem} {a0 a1 a2 a3 : Addr} {ps : List Part} {S : List Addr} (h : PartsAt M a0 a1 a2 a3 ps) (k : Keep S M M') (n0 : a0 ∉ S) (n1 : a1 ∉ S) (n2 : a2 ∉ S) (n3 : a3 ∉ S) : PartsAt M' a0 a1 a2 a3 ps := ⟨k _ _ h.h0 n0, k _ _ h.h1 n1, k _ _ h.h2 n2, k _ _ h.h3 n3⟩
theorem place_first {x : Str} (h : PlaceOk x) : x ≠ kNone ∧ x ≠ kCell ∧ x ≠ kChn ∧ x ≠ tR ∧ x ≠ tC ∧ x ≠ tX := by
  have hl : ∀ y : Str, (∀ c r, y.cps.toList = c :: r → c ∉ lettersS.cps.toList) → NameOk x → x ≠ y := fun y hy ⟨⟨c, r, e, m⟩, _⟩ z => hy c r (z ▸ e) m
  have hr : ∀ y, y ∈ reserved → NameOk x → x ≠ y := fun y hy h z => h.2.1 (z ▸ hy)
  rcases h with rfl | h
  · decide +kernel
  · refine ⟨hr _ (by simp [reserved]) h, hr _ (by simp [reserved]) h, hr _ (by simp [reserved]) h, hl _ ?_ h, hl _ ?_ h, hl _ ?_ h⟩
    · intro c r e
      rw [show tR.cps.toList = [41] from by decide +kernel] at e
      cases e
      decide +kernel
    · intro c r e
      rw [show tC.cps.toList = [44] from by decide +kernel] at e
      cases e
      decide +kernel
    · intro c r e
      rw [show tX.cps.toList = [42] from by decide +kernel] at e
      cases e
      decide +kernel
def sp_atom (C : Addr) : DSp := fun ds M Q E => ∃ (c t a0 a1 a2 a3 : Addr) (p : Part) (ps : List Part) (rest : List Str), ds = [.ob c, .tup [.ob a0, .ob a1, .ob a2, .ob a3]] ∧ CurAt C M c t (partToks p ++ rest) ∧ PartOk p ∧ PartsAt M a0 a1 a2 a3 ps ∧ ps.length ≤ 1000 ∧ [c, t, a0, a1, a2, a3].Nodup ∧
  ∀ M', CurAt C M' c t rest → PartsAt M' a0 a1 a2 a3 (ps ++ [p]) → Keep [c, a0, a1, a2, a3] M M' → Q .non M'
theorem mono_atom {C : Addr} : MonoSp (sp_atom C) := by
  rintro ds M Q Q' E E' hQ hE ⟨c, t, a0, a1, a2, a3, p, ps, r, h1, h2, h3, h4, h5, h6, h⟩
  exact ⟨c, t, a0, a1, a2, a3, p, ps, r, h1, h2, h3, h4, h5, h6, fun M' z1 z2 z3 => hQ _ _ (h M' z1 z2 z3)⟩
theorem PartsAt.app {M : Mem} {a0 a1 a2 a3 : Addr} {ps : List Part} {p : Part} (h : PartsAt M a0 a1 a2 a3 ps) (nd : [a0, a1, a2, a3].Nodup) {a : Addr} (ha : (p.1 = kSame ∧ a = a0) ∨ (p.1 = kUnl ∧ a = a1) ∨ (p.1 = kCell ∧ a = a2) ∨ (p.1 = kChn ∧ a = a3)) : PartsAt (mupd M a (.lst (kindL p.1 ps ++ [pairD p]))) a0 a1 a2 a3 (ps ++ [p]) := by
  obtain ⟨h0, h1, h2, h3⟩ := h
  obtain ⟨n0, n1, n2, -, -⟩ : (a0 ≠ a1 ∧ a0 ≠ a2 ∧ a0 ≠ a3) ∧ (a1 ≠ a2 ∧ a1 ≠ a3) ∧ (a2 ≠ a3) ∧ True ∧ True := by simpa [List.nodup_cons] using nd
  rcases ha with ⟨e, rfl⟩ | ⟨e, rfl⟩ | ⟨e, rfl⟩ | ⟨e, rfl⟩
  · refine ⟨?_, ?_, ?_, ?_⟩ <;> rw [kindL_app, e]
    · rw [if_pos rfl, mupd_same]
    · rw [if_neg (by decide +kernel), mupd_ne n0.1.symm, h1]
    · rw [if_neg (by decide +kernel), mupd_ne n0.2.1.symm, h2]
    · rw [if_neg (by decide +kernel), mupd_ne n0.2.2.symm, h3]
  · refine ⟨?_, ?_, ?_, ?_⟩ <;> rw [kindL_app, e]
    · rw [if_neg (by decide +kernel), mupd_ne n0.1, h0]
    · rw [if_pos rfl, mupd_same]
    · rw [if_neg (by decide +kernel), mupd_ne n1.1.symm, h2]
    · rw [if_neg (by decide +kernel), mupd_ne n1.2.symm, h3]
  · refine ⟨?_, ?_, ?_, ?_⟩ <;> rw [kindL_app, e]
    · rw [if_neg (by decide +kernel), mupd_ne n0.2.1, h0]
    · rw [if_neg (by decide +kernel), mupd_ne n1.1, h1]
    · rw [if_pos rfl, mupd_same]
    · rw [if_neg (by decide +kernel), mupd_ne n2.symm, h3]
  · refine ⟨?_, ?_, ?_, ?_⟩ <;> rw [kindL_app, e]
    · rw [if_neg (by decide +kernel), mupd_ne n0.2.2, h0]
    · rw [if_neg (by decide +kernel), mupd_ne n1.2, h1]
    · rw [if_neg (by decide +kernel), mupd_ne n2, h2]
    · rw [if_pos rfl, mupd_same]
theorem kne : kSame ≠ kNone ∧ kUnl ≠ kNone ∧ kCell ≠ kNone ∧ kChn ≠ kNone ∧ kCell ≠ kSame ∧ kCell ≠ kUnl ∧ kChn ≠ kSame ∧ kChn ≠ kUnl ∧ kUnl ≠ kSame ∧ kChn ≠ kCell := by decide +kernel
theorem fn_atom (S0 : Src K mg "read_atom" s_read_atom ["cursor", "parts"]) (G : GF K mg C_Cursor C_Block C_ProcReader C_Reader v_proc_name) (M_Cursor_skip : MFn P w K mg base 2 C_Cursor "skip" (sp_skip C_Cursor) []) (M_Cursor_peek : MFn P w K mg base 1 C_Cursor "peek" (sp_peek C_Cursor) [.int 0]) (M_Cursor_take : MFn P w K mg base 2 C_Cursor "take" (sp_take C_Cursor) [])
    (M_Cursor_expect : MFn P w K mg base 3 C_Cursor "expect" (sp_expect C_Cursor) []) (M_Cursor_place : MFn P w K mg base 4 C_Cursor "place" (sp_place C_Cursor) []) : Fn P w K mg base 5 "read_atom" (sp_atom C_Cursor) [] := by
  refine S0.fn mono_atom fun g fd F => fn_ok F sc_read_atom (fun ds M Q E h => by obtain ⟨c, t, a0, a1, a2, a3, p, ps, r, rfl, _⟩ := h; rfl) ⟨_, fun cdv A outer s H E hr => have hu := hr.u200
    (xss_cons (xs_if (xt_val (xe_meth M_Cursor_skip G.T_Cursor (hr.mono (by first | decide | omega)) bx_takes (xe_var 0) (xa_cons xe_str xa_nil)))
 (xss_one xs_retN)
 xss_nil)
 (xss_cons (xs_if (xt_cmp (x_in hu) (xe_meth0 M_Cursor_peek G.T_Cursor (hr.mono (by first | decide | omega)) bx_takes (xe_var 0)) (xe_tup (n := 2) (xa_cons xe_str (xa_cons xe_str xa_nil))) rfl bl_in)
 (xss_cons (xs_set 2 sc_read_atom.nd (xe_meth0 M_Cursor_take G.T_Cursor (hr.mono (by first | decide | omega)) bx_takes (xe_var 0)))
 (xss_cons (xs_expr (xe_meth M_Cursor_expect G.T_Cursor (hr.mono (by first | decide | omega)) bx_takes (xe_var 0) (xa_cons xe_str xa_nil)))
 (xss_cons (xs_set 3 sc_read_atom.nd (xe_meth0 M_Cursor_place G.T_Cursor (hr.mono (by first | decide | omega)) bx_takes (xe_var 0)))
 (xss_cons (xs_expr (xe_meth M_Cursor_expect G.T_Cursor (hr.mono (by first | decide | omega)) bx_takes (xe_var 0) (xa_cons xe_str xa_nil)))
 (xss_cons (xs_expr (xe_bm PySem.F.plainAttrs_list PySem.F.slot_list_append PySem.F.type_list_append m_append (xe_ix hu (xe_var 1) (xe_if (xt_cmp (x_eq hu) (xe_var 2) xe_str (nomark _) bl_eq) xe_int xe_int)) (xa_cons (xe_tup (n := 2) (xa_cons (xe_var 3) (xa_cons (xe_meth0 M_Cursor_place G.T_Cursor (hr.mono (by first | decide | omega)) bx_takes (xe_var 0)) xa_nil))) xa_nil)))
 (xss_cons (xs_expr (xe_meth M_Cursor_expect G.T_Cursor (hr.mono (by first | decide | omega)) bx_takes (xe_var 0) (xa_cons xe_str xa_nil)))
 (xss_one xs_retN)))))))
 xss_nil)
 (xss_cons (xs_set 3 sc_read_atom.nd (xe_meth0 M_Cursor_place G.T_Cursor (hr.mono (by first | decide | omega)) bx_takes (xe_var 0)))
 (xss_cons (xs_set 4 sc_read_atom.nd (xe_meth0 M_Cursor_take G.T_Cursor (hr.mono (by first | decide | omega)) bx_takes (xe_var 0)))
 (xss_cons (xs_if (xt_cmp (x_notin hu) (xe_var 4) (xe_tup (n := 2) (xa_cons xe_str (xa_cons xe_str xa_nil))) rfl bl_notin)
 (xss_one xs_dead)
 xss_nil)
 (xss_one (xs_expr (xe_bm PySem.F.plainAttrs_list PySem.F.slot_list_append PySem.F.type_list_append m_append (xe_ix hu (xe_var 1) (xe_if (xt_cmp (x_eq hu) (xe_var 4) xe_str (nomark _) bl_eq) xe_int xe_int)) (xa_cons (xe_tup (n := 2) (xa_cons (xe_var 3) (xa_cons (xe_meth0 M_Cursor_place G.T_Cursor (hr.mono (by first | decide | omega)) bx_takes (xe_var 0)) xa_nil))) xa_nil))))))))), fun ds M Q E h => ?_⟩
  obtain ⟨c, t, a0, a1, a2, a3, p, ps, r, rfl, hc, ⟨hk, hx, hy⟩, hp, hl, hnd, h⟩ := h
  obtain ⟨pre, q1, _⟩ := id hc
  have sz : (16777216 : Nat) = sizeLine := sizeLine_eq.symm
  obtain ⟨k, x, y⟩ := p
  dsimp only at hk hx hy
  have hb : ∀ k, (kindL k ps).length < sizeLine := fun k => by have := kindL_len k ps; rw [← sz]; omega
  have nd4 : [a0, a1, a2, a3].Nodup := (List.nodup_cons.mp (List.nodup_cons.mp hnd).2).2
  obtain ⟨n1, n2⟩ : (c ∉ [t, a0, a1, a2, a3]) ∧ t ∉ [a0, a1, a2, a3] := ⟨(List.nodup_cons.mp hnd).1, (List.nodup_cons.mp (List.nodup_cons.mp hnd).2).1⟩
  have keepC : ∀ {M1 M2 : Mem}, PartsAt M1 a0 a1 a2 a3 ps → Keep [c] M1 M2 → PartsAt M2 a0 a1 a2 a3 ps := fun q k => q.keep k (by simp at n1 ⊢; exact fun z => n1.2.1 z.symm) (by simp at n1 ⊢; exact fun z => n1.2.2.1 z.symm) (by simp at n1 ⊢; exact fun z => n1.2.2.2.1 z.symm) (by simp at n1 ⊢; exact fun z => n1.2.2.2.2 z.symm)
  have fin : ∀ (r : List Str) (M1 : Mem) (a : Addr), CurAt C_Cursor M1 c t r → PartsAt M1 a0 a1 a2 a3 ps → Keep [c] M M1 → ((k = kSame ∧ a = a0) ∨ (k = kUnl ∧ a = a1) ∨ (k = kCell ∧ a = a2) ∨ (k = kChn ∧ a = a3)) → CurAt C_Cursor (mupd M1 a (.lst (kindL k ps ++ [pairD (k, x, y)]))) c t r ∧ PartsAt (mupd M1 a (.lst (kindL k ps ++ [pairD (k, x, y)]))) a0 a1 a2 a3 (ps ++ [(k, x, y)]) ∧ Keep [c, a0, a1, a2, a3] M (mupd M1 a (.lst (kindL k ps ++ [pairD (k, x, y)]))) := by
    intro r M1 a k1 k2 k3 ha
    have ha4 : a ∈ [a0, a1, a2, a3] := by rcases ha with ⟨_, rfl⟩ | ⟨_, rfl⟩ | ⟨_, rfl⟩ | ⟨_, rfl⟩ <;> simp
    refine ⟨k1.keep (S := [a]) (Keep.put (by simp)) ?_ ?_, PartsAt.app (p := (k, x, y)) k2 nd4 ha, (k3.weaken (by simp)).trans (Keep.put (List.mem_cons_of_mem _ ha4))⟩
    · simp only [List.mem_singleton]; rintro rfl; exact n1 (List.mem_cons_of_mem _ ha4)
    · simp only [List.mem_singleton]; rintro rfl; exact n2 ha4
  have ic : ∀ (x : Str) (M : Mem) (Q : DK), (opIn (.str x) (.tup [.str kCell, .str kChn]) M).run M Q = Q (.bl (decide (x ∈ [kCell, kChn]))) M := fun x M Q => in_tupS (fs := [kCell, kChn])
  have ie : ∀ (x : Str) (M : Mem) (Q : DK), (opNotIn (.str x) (.tup [.str tEq, .str tNe]) M).run M Q = Q (.bl (!decide (x ∈ [tEq, tNe]))) M := fun x M Q => notIn_tupS (fs := [tEq, tNe])
  obtain ⟨z1, z2, z3, z4, z5, z6, z7, z8, z9, z10⟩ := kne
  obtain ⟨f1, f2, f3, f4, f5, f6⟩ := place_first hx
  simp! [q1]
  by_cases hkn : k = kNone
  · subst hkn
    have hc : CurAt C_Cursor M c t (kNone :: r) := by simpa [partToks] using hc
    refine ⟨c, t, kNone, _, rfl, hc, by decide +kernel, fun r' e M' k1 k2 => ?_, fun z => absurd rfl z⟩
    cases e
    simp! []
    refine h _ k1 ?_ (k2.weaken (by simp))
    have := keepC hp k2
    exact ⟨by rw [kindL_app, if_neg z1.symm]; exact this.h0, by rw [kindL_app, if_neg z2.symm]; exact this.h1, by rw [kindL_app, if_neg z3.symm]; exact this.h2, by rw [kindL_app, if_neg z4.symm]; exact this.h3⟩
  · obtain ⟨x0, r0, et, ne0⟩ : ∃ x0 r0, partToks (k, x, y) ++ r = x0 :: r0 ∧ x0 ≠ kNone := by
      unfold partToks
      rw [if_neg hkn]
      split
      · exact ⟨x, _, rfl, f1⟩
      · split
        · exact ⟨x, _, rfl, f1⟩
        · exact ⟨k, _, rfl, hkn⟩
    refine ⟨c, t, kNone, _, rfl, hc, by decide +kernel, fun r' e M' k1 k2 => ?_, fun _ => ?_⟩
    · rw [et] at e
      cases e
      exact absurd rfl ne0
    simp! [q1]
    refine ⟨c, t, _, rfl, hc, ?_⟩
    simp! [ic]
    by_cases hs : k = kSame ∨ k = kUnl
    · obtain ⟨o, ho, e⟩ : ∃ o, (k = kSame ∧ o = tEq ∨ k = kUnl ∧ o = tNe) ∧ partToks (k, x, y) = [x, o, y] := by
        rcases hs with rfl | rfl
        · exact ⟨tEq, .inl ⟨rfl, rfl⟩, by simp [partToks, z1]⟩
        · exact ⟨tNe, .inr ⟨rfl, rfl⟩, by simp [partToks, z2, z9]⟩
      rw [e] at hc ⊢
      have hm : ¬ (x ∈ [kCell, kChn]) := by simp [f2, f3]
      simp! [List.headD_cons, hm, q1]
      refine ⟨c, t, x, _, rfl, hc, hx, fun M1 k1 j1 => ?_⟩
      obtain ⟨pre1, q2, _⟩ := id k1
      simp! [q2]
      refine ⟨c, t, o, _, rfl, k1, fun M2 k2 j2 => ?_⟩
      obtain ⟨pre2, q3, _⟩ := id k2
      have p2 := keepC (keepC hp j1) j2
      have oe : o ∈ [tEq, tNe] := by rcases ho with ⟨_, rfl⟩ | ⟨_, rfl⟩ <;> simp
      simp! [ie, oe]
      rcases ho with ⟨rfl, rfl⟩ | ⟨rfl, rfl⟩
      · simp! [p2.h0, q3]
        refine ⟨c, t, y, _, rfl, k2, hy, fun M3 k3 j3 => ?_⟩
        have p3 := keepC p2 j3
        simp! [p3.h0]
        obtain ⟨k4, p4, j4⟩ := fin _ M3 a0 k3 p3 ((j1.trans j2).trans j3) (.inl ⟨rfl, rfl⟩)
        exact ⟨hb _, h _ k4 p4 j4⟩
      · have : (tNe = tEq) = False := by simp; decide +kernel
        simp! [p2.h1, q3, this]
        refine ⟨c, t, y, _, rfl, k2, hy, fun M3 k3 j3 => ?_⟩
        have p3 := keepC p2 j3
        simp! [p3.h1]
        obtain ⟨k4, p4, j4⟩ := fin _ M3 a1 k3 p3 ((j1.trans j2).trans j3) (.inr (.inl ⟨rfl, rfl⟩))
        exact ⟨hb _, h _ k4 p4 j4⟩
    · have hk2 : k = kCell ∨ k = kChn := by
        rcases hk with e | e | e | e | e
        · exact absurd (.inl e) hs
        · exact absurd (.inr e) hs
        · exact .inl e
        · exact .inr e
        · exact absurd e hkn
      have e : partToks (k, x, y) = [k, tL, x, tC, y, tR] := by
        unfold partToks
        rw [if_neg hkn, if_neg fun z => hs (.inl z), if_neg fun z => hs (.inr z)]
      rw [e] at hc ⊢
      have hm : k ∈ [kCell, kChn] := by rcases hk2 with rfl | rfl <;> simp
      simp! [List.headD_cons, hm, q1]
      refine ⟨c, t, k, _, rfl, hc, fun M1 k1 j1 => ?_⟩
      obtain ⟨pre1, q2, _⟩ := id k1
      simp! [q2]
      refine ⟨c, t, tL, _, rfl, k1, fun M2 k2 j2 => ?_⟩
      obtain ⟨pre2, q3, _⟩ := id k2
      simp! [q3]
      refine ⟨c, t, x, _, rfl, k2, hx, fun M3 k3 j3 => ?_⟩
      obtain ⟨pre3, q4, _⟩ := id k3
      simp! [q4]
      refine ⟨c, t, tC, _, rfl, k3, fun M4 k4 j4 => ?_⟩
      obtain ⟨pre4, q5, _⟩ := id k4
      have p4 := keepC (keepC (keepC (keepC hp j1) j2) j3) j4
      have kk4 := (((j1.trans j2).trans j3).trans j4)
      rcases hk2 with rfl | rfl
      · simp! [p4.h2, q5]
        refine ⟨c, t, y, _, rfl, k4, hy, fun M5 k5 j5 => ?_⟩
        have p5 := keepC p4 j5
        obtain ⟨k6, p6, j6⟩ := fin _ M5 a2 k5 p5 (kk4.trans j5) (.inr (.inr (.inl ⟨rfl, rfl⟩)))
        obtain ⟨pre6, q6, _⟩ := id k6
        simp! [p5.h2]
        refine ⟨hb _, ?_⟩
        have q6' := q6
        unfold pairD at q6'
        simp! [q6']
        refine ⟨c, t, tR, _, rfl, k6, fun M7 k7 j7 => ?_⟩
        simp! []
        refine h _ k7 (p6.keep j7 ?_ ?_ ?_ ?_) (j6.trans (j7.weaken (by simp))) <;> (simp at n1 ⊢; simp [n1, Ne.symm, Eq.comm])
      · have : (kChn = kCell) = False := by simp; decide +kernel
        simp! [p4.h3, q5, this]
        refine ⟨c, t, y, _, rfl, k4, hy, fun M5 k5 j5 => ?_⟩
        have p5 := keepC p4 j5
        obtain ⟨k6, p6, j6⟩ := fin _ M5 a3 k5 p5 (kk4.trans j5) (.inr (.inr (.inr ⟨rfl, rfl⟩)))
        obtain ⟨pre6, q6, _⟩ := id k6
        simp! [p5.h3]
        refine ⟨hb _, ?_⟩
        have q6' := q6
        unfold pairD at q6'
        simp! [q6']
        refine ⟨c, t, tR, _, rfl, k6, fun M7 k7 j7 => ?_⟩
        simp! []
        refine h _ k7 (p6.keep j7 ?_ ?_ ?_ ?_) (j6.trans (j7.weaken (by simp))) <;> (simp at n1 ⊢; simp [n1, Ne.symm, Eq.comm])
end K02

set_option maxHeartbeats 4000000
namespace K02
open PySem PySem.Spec PyProof.Rows L2 PL SX
variable {P : Program} {w : World} {K : PySem.W.Frag} {mg : Str → Option Value} {base : Heap} {C_Cursor C_Block C_ProcReader C_Reader v_proc_name : Addr}
local macro_rules | `(tactic| simp! [$ls,*]) => `(tactic| simp only [s_fld, s_fldK, s_insAt, s_optD, s_obAt, s_fput, s_fputK1, s_fputK2, s_faug, s_faugK1, s_faugK2, s_faugK3, s_meth, s_methK1, s_methK2, s_make, s_makeK, s_makeK2, s_dead, s_tryN, noX_nx, noX_rt, noX_bk, noX_ct, mSplit, opMulS, s_enum, s_enumK, s_sortBy, s_sortByK, look_nil, look_cons, putFD_nil, putFD_cons, List.append_nil, to_nx, to_rt, to_bk, to_ct, to_ex, lp_nx, lp_rt, lp_bk, lp_ct, lp_ex, ret_nx, ret_rt, ret_ex, s_exK, s_bif1, s_bif0, s_optB, s_optE, s_nxD, s_ifK, s_asgN, s_asgT, s_asgL, b_nil, b_nm, b_tp, s_next, s_seq, s_drop, s_ret, s_retN, s_ifS, s_asg, s_brk, s_cont, s_put, s_put1, s_put2, s_put3, s_aug, s_augV, s_augK, s_augK2, s_bin, s_bin1, s_bin2, s_var, s_varK, s_C, s_cb, s_cbK, s_call, s_callK, s_m, s_m1, s_m2, s_nil, s_cons, s_cons1, s_cons2, s_tup, s_tupK, s_lst, s_lstK, s_truth, s_trK, s_tK, s_eK, s_cK, s_and, s_andK, s_or, s_orK, s_not, s_notK, s_ife, s_ifeK, s_andV, s_orV, s_andvK, s_orvK, s_andvK2, s_orvK2, s_notV, s_notvK, s_blK, s_neg, s_negK, s_sl, s_sl1, s_sl2, s_sl3, s_noPart, s_part, s_partK, s_rev, s_revK, s_for, s_forK, s_lc, s_lcK, s_yes, s_walk, s_walkT, s_walkS, s_walkA, s_walkL, s_walkR, s_rng1, s_rng2, s_rng1K, s_rng2K, s_callL, s_callLK, s_callLO, s_clK, s_raise, r_val, r_new, r_put, s_whK, s_lcY, s_lcT, s_lcE, s_cg, s_cgK, s_rng3, s_rng3K, s_lcB, s_lcS, wipeD, Pat.bind, seqOf, rg, s_dict0, s_sortSet, s_sortSetK, q_is_tuple, q_is_str, q_is_int, q_is_bool, q_is_list, q_isR, ofS_inj, String.reduceEq, q_eqI, q_neI, q_eqS, q_neS, decide_true, decide_false, Int.reduceEq, reduceCtorEq, i_NoneType_tuple, i_NoneType_str, i_NoneType_int, i_NoneType_bool, i_NoneType_list, i_bool_tuple, i_bool_str, i_bool_int, i_bool_bool, i_bool_list, i_int_tuple, i_int_str, i_int_int, i_int_bool, i_int_list, i_str_tuple, i_str_str, i_str_int, i_str_bool, i_str_list, i_tuple_tuple, i_tuple_str, i_tuple_int, i_tuple_bool, i_tuple_list, i_list_tuple, i_list_str, i_list_int, i_list_bool, i_list_list, i_dict_tuple, i_dict_str, i_dict_int, i_dict_bool, i_dict_list, tyN, startD, mupd_same, mupd_ne, ne_eq, not_false_eq_true, List.map_cons, List.map_nil, List.length_cons, List.length_nil, List.replicate_succ, List.replicate_zero, Nat.zero_add, Nat.reduceAdd, Nat.reduceSub, Int.cast_ofNat_Int, List.cons_append, List.nil_append, List.getElem?_cons_zero, List.getElem?_cons_succ, List.set_cons_zero, List.set_cons_succ, opIx, atI_cons, ixN, opPut, opAdd, opSub, opMul, opFdiv, opMod, opPow, opLt, opLe, opGt, opGe, opIs, opIsNot, D.isNon, truth, bLen, bAbs, bInt, bTuple, bList, isTy, mAppend, mExtend, mPop, Int.reduceLE, Int.reduceLT, Int.reduceToNat, Int.reduceNeg, Int.reduceNe, Option.bind_some, if_true, if_false, ite_true, ite_false, true_and, and_true, Bool.not_true, Bool.not_false, opIadd, Nat.reduceLT, Nat.reduceLeDiff, Int.ofNat_lt, s_dpNil, s_dpCons, s_dpK1, s_dpK2, s_dpK3, s_disp, s_dispK, s_optKV, kvOf, s_dc, s_dcK, s_keys, s_lockK, s_sortIt, mGet, mDPop, dgetR, bDictC, bTupC, opEqD, opNeD, eqDR, D.key, merge_one, optKV, id, opEqL, opNeL, eqLR, $ls,*])
def partsTail (ps : List Part) : List Str := ps.flatMap fun p => tX :: partToks p
def partsToks : List Part → List Str
  | [] => []
  | p :: r => partToks p ++ partsTail r
def Pict (ps : List Part) : Prop := ps ≠ [] ∧ (∀ p ∈ ps, PartOk p) ∧ ps.length ≤ 100
def sp_pict (C : Addr) : DSp := fun ds M Q E => ∃ (c t : Addr) (ps : List Part) (rest : List Str), ds = [.ob c] ∧ CurAt C M c t (partsToks ps ++ rest) ∧ Pict ps ∧ rest.head? ≠ some tX ∧ ∀ M', CurAt C M' c t rest → Keep [c] M M' → Q (picD ps) M'
theorem mono_pict {C : Addr} : MonoSp (sp_pict C) := by
  rintro ds M Q Q' E E' hQ hE ⟨c, t, ps, r, h1, h2, h3, h4, h⟩
  exact ⟨c, t, ps, r, h1, h2, h3, h4, fun M' z1 z2 => hQ _ _ (h M' z1 z2)⟩
theorem nodup6 {M : Mem} {c t a0 a1 a2 a3 : Addr} (hc : ∃ o, M c = some o) (ht : ∃ o, M t = some o) (hct : c ≠ t) {o0 o1 o2 : Ob} (h0 : M a0 = none) (h1 : (mupd M a0 o0) a1 = none) (h2 : mupd (mupd M a0 o0) a1 o1 a2 = none) (h3 : mupd (mupd (mupd M a0 o0) a1 o1) a2 o2 a3 = none) : [c, t, a0, a1, a2, a3].Nodup ∧ M a1 = none ∧ M a2 = none ∧ M a3 = none := by
  obtain ⟨u1, v1⟩ := (mupd_none ▸ h1 : _ ∧ _)
  obtain ⟨u2, v2⟩ := (mupd_none ▸ h2 : _ ∧ _)
  obtain ⟨u3, v3⟩ := (mupd_none ▸ v2 : _ ∧ _)
  obtain ⟨u4, v4⟩ := (mupd_none ▸ h3 : _ ∧ _)
  obtain ⟨u5, v5⟩ := (mupd_none ▸ v4 : _ ∧ _)
  obtain ⟨u6, v6⟩ := (mupd_none ▸ v5 : _ ∧ _)
  obtain ⟨o, hc⟩ := hc
  obtain ⟨o', ht⟩ := ht
  have nn : ∀ {x y : Addr} {o : Ob}, M x = some o → M y = none → x ≠ y := fun hx hy z => by rw [z, hy] at hx; cases hx
  refine ⟨?_, v1, v3, v6⟩
  simp only [List.nodup_cons, List.mem_cons, List.not_mem_nil, or_false, not_or, List.nodup_nil, and_true, not_false_eq_true]
  exact ⟨⟨hct, nn hc h0, nn hc v1, nn hc v3, nn hc v6⟩, ⟨nn ht h0, nn ht v1, nn ht v3, nn ht v6⟩, ⟨Ne.symm u1, Ne.symm u3, Ne.symm u6⟩, ⟨Ne.symm u2, Ne.symm u5⟩, Ne.symm u4⟩
theorem CurAt.ne {C : Addr} {M : Mem} {c t : Addr} {rest : List Str} (h : CurAt C M c t rest) : c ≠ t := by
  obtain ⟨pre, h1, h2, _⟩ := h
  rintro rfl
  rw [h1] at h2
  cases h2
theorem outs_map {α : Type} {g : α → D} {R : α → Option D → Prop} (hR : ∀ x o, R x o → o = some (g x)) {xs : List α} {ds : List D} (h : Outs R xs ds) : ds = xs.map g := by
  induction h with
  | nil => rfl
  | yes h _ ih => rw [ih, Option.some.inj (hR _ _ h)]; rfl
  | no h _ _ => exact absurd (hR _ _ h) (by simp)
theorem fn_pict (S0 : Src K mg "read_picture" s_read_picture ["cursor"]) (G : GF K mg C_Cursor C_Block C_ProcReader C_Reader v_proc_name) (F_read_atom : Fn P w K mg base 5 "read_atom" (sp_atom C_Cursor) []) (M_Cursor_skip : MFn P w K mg base 2 C_Cursor "skip" (sp_skip C_Cursor) []) : Fn P w K mg base 6 "read_picture" (sp_pict C_Cursor) [] := by
  refine S0.fn mono_pict fun g fd F => fn_ok F sc_read_picture (fun ds M Q E h => by obtain ⟨c, t, ps, r, rfl, _⟩ := h; rfl) ⟨_, fun cdv A outer s H E hr => have hu := hr.u200
    (xss_cons (xs_set 1 sc_read_picture.nd (xe_tup (n := 4) (xa_cons (xe_lst (n := 0) xa_nil) (xa_cons (xe_lst (n := 0) xa_nil) (xa_cons (xe_lst (n := 0) xa_nil) (xa_cons (xe_lst (n := 0) xa_nil) xa_nil))))))
 (xss_cons (xs_expr (xe_call F_read_atom (hr.mono (by first | decide | omega)) bx_takes (by rfl) (xa_cons (xe_var 0) (xa_cons (xe_var 1) xa_nil))))
 (xss_cons (xs_while bx_passes (xt_val (xe_meth M_Cursor_skip G.T_Cursor (hr.mono (by first | decide | omega)) bx_takes (xe_var 0) (xa_cons xe_str xa_nil)))
 (xss_one (xs_expr (xe_call F_read_atom (hr.mono (by first | decide | omega)) bx_takes (by rfl) (xa_cons (xe_var 0) (xa_cons (xe_var 1) xa_nil))))))
 (xss_one (xs_ret (xe_callTy c_tuple (by rfl) G.tuple (by decide +kernel) (xa_cons (xe_lc (own := [("part", 2)]) (p := .nm 2) rfl sc_read_picture.nd (xi_walk (xe_var 1)) (blkOk_by (by first | (show blkC ["cursor", "parts", "part"] (defScope s_read_picture) _ _ = true; decide +kernel) | kernel_rfl | rfl)) (fun _ _ _ _ _ => (xg_name 2 sc_read_picture.nd)) (fun _ _ _ _ _ => xts_nil) (fun _ _ _ _ _ => (xe_callTy c_tuple (by rfl) G.tuple (by decide +kernel) (xa_cons (xe_var 2) xa_nil)))) xa_nil))))))), fun ds M Q E h => ?_⟩
  obtain ⟨c, t, ps, r, rfl, hc, ⟨hps, hok, hlen⟩, hr, h⟩ := h
  have sz : (16777216 : Nat) = sizeLine := sizeLine_eq.symm
  obtain ⟨p, ps, rfl⟩ : ∃ p r, ps = p :: r := by
    cases ps with
    | nil => exact absurd rfl hps
    | cons p r => exact ⟨p, r, rfl⟩
  simp! []
  intro a0 h0 a1 h1 a2 h2 a3 h3
  obtain ⟨nd, w1, w2, w3⟩ := nodup6 hc.there.1 hc.there.2 hc.ne h0 h1 h2 h3
  have c4 : CurAt C_Cursor (mupd (mupd (mupd (mupd M a0 (.lst [])) a1 (.lst [])) a2 (.lst [])) a3 (.lst [])) c t (partToks p ++ (partsTail ps ++ r)) := by
    have := (((hc.new h0).new h1).new h2).new h3 (o := .lst [])
    simpa [partsToks] using this
  have k4 : Keep [] M (mupd (mupd (mupd (mupd M a0 (.lst [])) a1 (.lst [])) a2 (.lst [])) a3 (.lst [])) := (((Keep.new h0).trans (Keep.new h1)).trans (Keep.new h2)).trans (Keep.new h3)
  have nd2 : (a0 ≠ a1 ∧ a0 ≠ a2 ∧ a0 ≠ a3) ∧ (a1 ≠ a2 ∧ a1 ≠ a3) ∧ a2 ≠ a3 := by
    have := (List.nodup_cons.mp (List.nodup_cons.mp nd).2).2
    simpa [List.nodup_cons] using this
  have p4 : PartsAt (mupd (mupd (mupd (mupd M a0 (.lst [])) a1 (.lst [])) a2 (.lst [])) a3 (.lst [])) a0 a1 a2 a3 [] := by
    obtain ⟨⟨z1, z2, z3⟩, ⟨z4, z5⟩, z6⟩ := nd2
    refine ⟨?_, ?_, ?_, ?_⟩ <;> simp [kindL, mupd, z1, z2, z3, z4, z5, z6]
  generalize mupd (mupd (mupd (mupd M a0 (.lst [])) a1 (.lst [])) a2 (.lst [])) a3 (.lst []) = M4 at c4 k4 p4 ⊢
  refine ⟨c, t, a0, a1, a2, a3, p, [], _, rfl, c4, hok p List.mem_cons_self, p4, by decide, nd, fun M5 c5 p5 k5 => ?_⟩
  simp! []
  have kk5 : Keep [c, a0, a1, a2, a3] M M5 := (k4.weaken (by simp)).trans k5
  have kF : ∀ M', Keep [c, a0, a1, a2, a3] M M' → Keep [c] M M' := fun M' k => by
    have q : Keep [a0, a1, a2, a3, c] M M' := k.weaken (by intro x; simp only [List.mem_cons, List.not_mem_nil, or_false]; rintro (h | h | h | h | h) <;> simp [h])
    exact (((q.drop h0).drop w1).drop w2).drop w3
  refine while_inv (fun n e M' => ∃ ds rs, n = rs.length ∧ ds ++ rs = p :: ps ∧ e = [some (D.ob c), some (.tup [.ob a0, .ob a1, .ob a2, .ob a3]), none] ∧ CurAt C_Cursor M' c t (partsTail rs ++ r) ∧ PartsAt M' a0 a1 a2 a3 ds ∧ Keep [c, a0, a1, a2, a3] M M') ?_ ⟨[p], ps, rfl, rfl, rfl, c5, p5, kk5⟩
  rintro n e M' N ⟨ds, rs, rfl, hd, rfl, c6, p6, k6⟩ hN
  obtain ⟨pre, q6, _⟩ := id c6
  simp! [q6]
  cases rs with
  | nil =>
    refine ⟨c, t, tX, _, rfl, c6, by decide +kernel, fun r' e _ _ _ => ?_, fun _ => ?_⟩
    · exact absurd (by rw [show r = tX :: r' from e]; rfl) hr
    · simp! []
      rw [List.append_nil] at hd
      subst hd
      intro l hl
      have hla : ∀ b, (∃ o, M' b = some o) → l ≠ b := fun b ⟨o, hb⟩ z => by rw [z, hb] at hl; cases hl
      refine lc_rule (α := Addr × List D) (fun x => .ob x.1) (fun x o => o = some (.tup x.2)) (fun M => PartsAt M a0 a1 a2 a3 (p :: ps)) [] [(a0, kindL kSame (p :: ps)), (a1, kindL kUnl (p :: ps)), (a2, kindL kCell (p :: ps)), (a3, kindL kChn (p :: ps))] hl (by simp) p6 (fun M2 o hj => ?_) (fun _ _ => trivial) (by rw [← sz]; simp) (fun x hx M2 N2 sk j2 k2 hy _ => ?_) fun M2 out ho j2 k2 e2 => ?_
      · refine hj.keep (S := [l]) (Keep.put (by simp)) ?_ ?_ ?_ ?_
        · simpa using (hla _ ⟨_, p6.h0⟩).symm
        · simpa using (hla _ ⟨_, p6.h1⟩).symm
        · simpa using (hla _ ⟨_, p6.h2⟩).symm
        · simpa using (hla _ ⟨_, p6.h3⟩).symm
      · have e : M2 x.1 = some (.lst x.2) := by
          simp only [List.mem_cons, List.not_mem_nil, or_false] at hx
          rcases hx with rfl | rfl | rfl | rfl
          · exact j2.h0
          · exact j2.h1
          · exact j2.h2
          · exact j2.h3
        simp! [e]
        exact hy _ _ rfl j2 Keep.refl
      · have eo : out = [.tup (kindL kSame (p :: ps)), .tup (kindL kUnl (p :: ps)), .tup (kindL kCell (p :: ps)), .tup (kindL kChn (p :: ps))] := by
          have := outs_map (g := fun x : Addr × List D => D.tup x.2) (fun _ _ z => z) ho
          simpa using this
        subst eo
        simp! [e2]
        exact h _ (c6.keep k2) (kF _ ((k6).trans (k2.weaken (by simp))))
  | cons p2 rs =>
    have c7 : CurAt C_Cursor M' c t (tX :: (partToks p2 ++ (partsTail rs ++ r))) := by simpa [partsTail] using c6
    refine ⟨c, t, tX, _, rfl, c7, by decide +kernel, fun r' e M7 k7 j7 => ?_, fun z => absurd rfl z⟩
    cases e
    simp! []
    have hcn := (List.nodup_cons.mp nd).1
    have p7 : PartsAt M7 a0 a1 a2 a3 ds := p6.keep j7 (by simp at hcn ⊢; exact fun z => hcn.2.1 z.symm) (by simp at hcn ⊢; exact fun z => hcn.2.2.1 z.symm) (by simp at hcn ⊢; exact fun z => hcn.2.2.2.1 z.symm) (by simp at hcn ⊢; exact fun z => hcn.2.2.2.2 z.symm)
    refine ⟨c, t, a0, a1, a2, a3, p2, ds, _, rfl, k7, hok p2 (by rw [← hd]; simp), p7, ?_, nd, fun M8 c8 p8 k8 => ?_⟩
    · have := congrArg List.length hd
      simp only [List.length_append, List.length_cons] at this hlen ⊢
      omega
    simp! []
    exact hN rs.length _ _ (by simp) ⟨ds ++ [p2], rs, rfl, by simpa using hd, rfl, c8, p8, (k6.trans (j7.weaken (by simp))).trans k8⟩
/-! names in a row -/
def listed : List Str → List Str
  | [] => []
  | x :: r => x :: r.flatMap fun y => [tC, y]
def sp_names (C : Addr) : DSp := fun ds M Q E => ∃ (c t : Addr) (least : Int) (ns : List Str) (rest : List Str), ds = [.ob c, .int least] ∧ CurAt C M c t (listed ns ++ rest) ∧ (∀ x ∈ ns, NameOk x) ∧ ns.length ≤ 100 ∧ rest.head? ≠ some tC ∧ (ns = [] → least = 0 ∧ rest.head? = some tR) ∧ ∀ M', CurAt C M' c t rest → Keep [c] M M' → Q (.tup (ns.map D.str)) M'
theorem mono_names {C : Addr} : MonoSp (sp_names C) := by
  rintro ds M Q Q' E E' hQ hE ⟨c, t, l, ns, r, h1, h2, h3, h4, h5, h6, h⟩
  exact ⟨c, t, l, ns, r, h1, h2, h3, h4, h5, h6, fun M' z1 z2 => hQ _ _ (h M' z1 z2)⟩
theorem fn_names (S0 : Src K mg "read_names" s_read_names ["cursor", "least"]) (G : GF K mg C_Cursor C_Block C_ProcReader C_Reader v_proc_name) (M_Cursor_name : MFn P w K mg base 3 C_Cursor "name" (sp_name C_Cursor) []) (M_Cursor_peek : MFn P w K mg base 1 C_Cursor "peek" (sp_peek C_Cursor) [.int 0]) (M_Cursor_skip : MFn P w K mg base 2 C_Cursor "skip" (sp_skip C_Cursor) []) : Fn P w K mg base 4 "read_names" (sp_names C_Cursor) [] := by
  refine S0.fn mono_names fun g fd F => fn_ok F sc_read_names (fun ds M Q E h => by obtain ⟨c, t, l, ns, r, rfl, _⟩ := h; rfl) ⟨_, fun cdv A outer s H E hr => have hu := hr.u200
    (xss_cons (xs_set 2 sc_read_names.nd (xe_lst (n := 0) xa_nil))
 (xss_cons (xs_if (xt_wh (xw_and (xt_cmp (x_eq hu) (xe_var 1) xe_int (nomark _) bl_eq) (xw_and1 (xt_cmp (x_eq hu) (xe_meth0 M_Cursor_peek G.T_Cursor (hr.mono (by first | decide | omega)) bx_takes (xe_var 0)) xe_str (nomark _) bl_eq))))
 (xss_one (xs_ret (xe_tup (n := 0) xa_nil)))
 xss_nil)
 (xss_cons (xs_expr (xe_bm PySem.F.plainAttrs_list PySem.F.slot_list_append PySem.F.type_list_append m_append (xe_var 2) (xa_cons (xe_meth0 M_Cursor_name G.T_Cursor (hr.mono (by first | decide | omega)) bx_takes (xe_var 0)) xa_nil)))
 (xss_cons (xs_while bx_passes (xt_val (xe_meth M_Cursor_skip G.T_Cursor (hr.mono (by first | decide | omega)) bx_takes (xe_var 0) (xa_cons xe_str xa_nil)))
 (xss_one (xs_expr (xe_bm PySem.F.plainAttrs_list PySem.F.slot_list_append PySem.F.type_list_append m_append (xe_var 2) (xa_cons (xe_meth0 M_Cursor_name G.T_Cursor (hr.mono (by first | decide | omega)) bx_takes (xe_var 0)) xa_nil)))))
 (xss_one (xs_ret (xe_callTy c_tuple (by rfl) G.tuple (by decide +kernel) (xa_cons (xe_var 2) xa_nil)))))))), fun ds M Q E h => ?_⟩
  obtain ⟨c, t, l, ns, r, rfl, hc, hok, hlen, hr, h0, h⟩ := h
  have sz : (16777216 : Nat) = sizeLine := sizeLine_eq.symm
  obtain ⟨pre, q1, _⟩ := id hc
  simp! []
  intro f hf
  have cf : CurAt C_Cursor (mupd M f (.lst [])) c t (listed ns ++ r) := hc.new hf
  have hfc : c ≠ f := by rintro rfl; rw [hf] at q1; cases q1
  have hft : t ≠ f := by obtain ⟨o, ho⟩ := hc.there.2; rintro rfl; rw [hf] at ho; cases ho
  have kf : Keep [] M (mupd M f (.lst [])) := Keep.new hf
  have ff : (mupd M f (.lst [])) f = some (.lst []) := mupd_same
  have q2 : (mupd M f (.lst [])) c = some _ := (mupd_ne hfc).trans q1
  generalize mupd M f (.lst []) = M1 at cf kf ff q2 ⊢
  cases ns with
  | nil =>
    obtain ⟨rfl, hr2⟩ := h0 rfl
    simp! [q2]
    refine ⟨c, t, _, rfl, cf, ?_⟩
    have : ((listed [] ++ r).headD e0) = tR := by
      cases r with
      | nil => cases hr2
      | cons x r => simpa [listed] using hr2
    simp! [this]
    exact h _ cf (kf.weaken (by simp))
  | cons x ns =>
    have hx := hok x List.mem_cons_self
    have hxr : x ≠ tR := (place_first (.inr hx)).2.2.2.1
    have go : ∀ (N : Mem → Prop) (M2 : Mem), M2 f = some (.lst [.str x]) → CurAt C_Cursor M2 c t ((ns.flatMap fun y => [tC, y]) ++ r) → Keep [c, f] M M2 → True := fun _ _ _ _ _ => trivial
    have e1 : listed (x :: ns) ++ r = x :: ((ns.flatMap fun y => [tC, y]) ++ r) := rfl
    rw [e1] at cf
    by_cases hl : l = 0
    all_goals
      simp! [hl, q2]
      try
        refine ⟨c, t, _, rfl, cf, ?_⟩
        simp! [List.headD_cons, hxr, ff, q2]
      try simp! [ff]
      refine ⟨c, t, x, _, rfl, cf, hx, fun M2 c2 k2 => ?_⟩
      have f2 := k2 _ _ ff (by simpa using hfc.symm)
      simp! [f2]
      refine ⟨by rw [← sz]; decide, ?_⟩
      have c3 := c2.keep (S := [f]) (Keep.put (a := f) (o := .lst [.str x]) (by simp)) (by simpa using hfc) (by simpa using hft)
      have f3 : (mupd M2 f (.lst [.str x])) f = some (.lst ([x].map D.str)) := mupd_same
      have k3 : Keep [f, c] M (mupd M2 f (.lst [.str x])) := ((kf.weaken (by simp)).trans (k2.weaken (by simp))).trans (Keep.put (by simp))
      generalize mupd M2 f (.lst [.str x]) = M3 at c3 f3 k3 ⊢
      refine while_inv (fun n e M' => ∃ ds rs, n = rs.length ∧ ds ++ rs = x :: ns ∧ e = [some (D.ob c), some (.int l), some (.ob f)] ∧ CurAt C_Cursor M' c t ((rs.flatMap fun y => [tC, y]) ++ r) ∧ M' f = some (.lst (ds.map D.str)) ∧ Keep [f, c] M M') ?_ ⟨[x], ns, rfl, rfl, by simp [hl], c3, f3, k3⟩
      rintro n e M' N ⟨ds, rs, rfl, hd, rfl, c6, f6, k6⟩ hN
      obtain ⟨pre6, q6, _⟩ := id c6
      simp! [q6]
      cases rs with
      | nil =>
        refine ⟨c, t, tC, _, rfl, c6, by decide +kernel, fun r' e _ _ _ => ?_, fun _ => ?_⟩
        · exact absurd (by rw [show r = tC :: r' from e]; rfl) hr
        · rw [List.append_nil] at hd
          subst hd
          simp! [f6]
          exact h _ c6 (k6.drop hf)
      | cons y rs =>
        refine ⟨c, t, tC, _, rfl, c6, by decide +kernel, fun r' e M7 c7 k7 => ?_, fun z => absurd rfl z⟩
        have e : y :: ((rs.flatMap fun y => [tC, y]) ++ r) = r' := (List.cons.inj e).2
        subst e
        have f7 := k7 _ _ f6 (by simpa using hfc.symm)
        obtain ⟨pre7, q7, _⟩ := id c7
        simp! [f7, q7]
        refine ⟨c, t, y, _, rfl, c7, hok y (by rw [← hd]; simp), fun M8 c8 k8 => ?_⟩
        have f8 := k8 _ _ f7 (by simpa using hfc.symm)
        simp! [f8, List.length_map]
        refine ⟨by have := congrArg List.length hd; simp only [List.length_append, List.length_cons] at this hlen; rw [← sz]; omega, ?_⟩
        exact hN rs.length _ _ (by simp) ⟨ds ++ [y], rs, rfl, by simpa using hd, rfl, c8.keep (S := [f]) (Keep.put (by simp)) (by simpa using hfc) (by simpa using hft), by rw [mupd_same]; simp, ((k6.trans (k7.weaken (by simp))).trans (k8.weaken (by simp))).trans (Keep.put (by simp))⟩
end K02

set_option maxHeartbeats 4000000
namespace K02
open PySem PySem.Spec PyProof.Rows L2 PL SX
variable {P : Program} {w : World} {K : PySem.W.Frag} {mg : Str → Option Value} {base : Heap} {C_Cursor C_Block C_ProcReader C_Reader v_proc_name : Addr}
local macro_rules | `(tactic| simp! [$ls,*]) => `(tactic| simp only [s_fld, s_fldK, s_insAt, s_optD, s_obAt, s_fput, s_fputK1, s_fputK2, s_faug, s_faugK1, s_faugK2, s_faugK3, s_meth, s_methK1, s_methK2, s_make, s_makeK, s_makeK2, s_dead, s_tryN, noX_nx, noX_rt, noX_bk, noX_ct, mSplit, opMulS, s_enum, s_enumK, s_sortBy, s_sortByK, look_nil, look_cons, putFD_nil, putFD_cons, List.append_nil, to_nx, to_rt, to_bk, to_ct, to_ex, lp_nx, lp_rt, lp_bk, lp_ct, lp_ex, ret_nx, ret_rt, ret_ex, s_exK, s_bif1, s_bif0, s_optB, s_optE, s_nxD, s_ifK, s_asgN, s_asgT, s_asgL, b_nil, b_nm, b_tp, s_next, s_seq, s_drop, s_ret, s_retN, s_ifS, s_asg, s_brk, s_cont, s_put, s_put1, s_put2, s_put3, s_aug, s_augV, s_augK, s_augK2, s_bin, s_bin1, s_bin2, s_var, s_varK, s_C, s_cb, s_cbK, s_call, s_callK, s_m, s_m1, s_m2, s_nil, s_cons, s_cons1, s_cons2, s_tup, s_tupK, s_lst, s_lstK, s_truth, s_trK, s_tK, s_eK, s_cK, s_and, s_andK, s_or, s_orK, s_not, s_notK, s_ife, s_ifeK, s_andV, s_orV, s_andvK, s_orvK, s_andvK2, s_orvK2, s_notV, s_notvK, s_blK, s_neg, s_negK, s_sl, s_sl1, s_sl2, s_sl3, s_noPart, s_part, s_partK, s_rev, s_revK, s_for, s_forK, s_lc, s_lcK, s_yes, s_walk, s_walkT, s_walkS, s_walkA, s_walkL, s_walkR, s_rng1, s_rng2, s_rng1K, s_rng2K, s_callL, s_callLK, s_callLO, s_clK, s_raise, r_val, r_new, r_put, s_whK, s_lcY, s_lcT, s_lcE, s_cg, s_cgK, s_rng3, s_rng3K, s_lcB, s_lcS, wipeD, Pat.bind, seqOf, rg, s_dict0, s_sortSet, s_sortSetK, q_is_tuple, q_is_str, q_is_int, q_is_bool, q_is_list, q_isR, ofS_inj, String.reduceEq, q_eqI, q_neI, q_eqS, q_neS, decide_true, decide_false, Int.reduceEq, reduceCtorEq, i_NoneType_tuple, i_NoneType_str, i_NoneType_int, i_NoneType_bool, i_NoneType_list, i_bool_tuple, i_bool_str, i_bool_int, i_bool_bool, i_bool_list, i_int_tuple, i_int_str, i_int_int, i_int_bool, i_int_list, i_str_tuple, i_str_str, i_str_int, i_str_bool, i_str_list, i_tuple_tuple, i_tuple_str, i_tuple_int, i_tuple_bool, i_tuple_list, i_list_tuple, i_list_str, i_list_int, i_list_bool, i_list_list, i_dict_tuple, i_dict_str, i_dict_int, i_dict_bool, i_dict_list, tyN, startD, mupd_same, mupd_ne, ne_eq, not_false_eq_true, List.map_cons, List.map_nil, List.length_cons, List.length_nil, List.replicate_succ, List.replicate_zero, Nat.zero_add, Nat.reduceAdd, Nat.reduceSub, Int.cast_ofNat_Int, List.cons_append, List.nil_append, List.getElem?_cons_zero, List.getElem?_cons_succ, List.set_cons_zero, List.set_cons_succ, opIx, atI_cons, ixN, opPut, opAdd, opSub, opMul, opFdiv, opMod, opPow, opLt, opLe, opGt, opGe, opIs, opIsNot, D.isNon, truth, bLen, bAbs, bInt, bTuple, bList, isTy, mAppend, mExtend, mPop, Int.reduceLE, Int.reduceLT, Int.reduceToNat, Int.reduceNeg, Int.reduceNe, Option.bind_some, if_true, if_false, ite_true, ite_false, true_and, and_true, Bool.not_true, Bool.not_false, opIadd, Nat.reduceLT, Nat.reduceLeDiff, Int.ofNat_lt, s_dpNil, s_dpCons, s_dpK1, s_dpK2, s_dpK3, s_disp, s_dispK, s_optKV, kvOf, s_dc, s_dcK, s_keys, s_lockK, s_sortIt, mGet, mDPop, dgetR, bDictC, bTupC, opEqD, opNeD, eqDR, D.key, merge_one, optKV, id, opEqL, opNeL, eqLR, $ls,*])
/-! statements -/
inductive Sim where
  | copy (x y : Str)
  | read (x y : Str)
  | link (x y : Str)
  | new (x : Str)
  | free (x : Str)
  | call (f : Str) (args : List Str)
inductive Stm where
  | sim (s : Sim)
  | whl (s : Bool) (a b : Str) (body : List Stm)
  | ite (s : Bool) (a b : Str) (fst snd : List Stm)
def opT (s : Bool) : Str := if s then tEq else tNe
def kindS (s : Bool) : Str := if s then kSame else kUnl
def testD (s : Bool) (a b : Str) : D := .tup [.str (kindS s), .str a, .str b]
def Sim.enc : Sim → D
  | .copy x y => .tup [.str "copy", .str x, .str y]
  | .read x y => .tup [.str "read", .str x, .str y]
  | .link x y => .tup [.str "link", .str x, .str y]
  | .new x => .tup [.str "new", .str x]
  | .free x => .tup [.str "free", .str x]
  | .call f as => .tup [.str "call", .str f, .tup (as.map D.str)]
def Sim.word : Sim → Str
  | .copy _ _ => "set"
  | .read _ _ => "set"
  | .link _ _ => "set"
  | .new _ => "new"
  | .free _ => "free"
  | .call _ _ => "call"
def Sim.tail : Sim → List Str
  | .copy x y => [x, tA, y]
  | .read x y => [x, tA, "next", y]
  | .link x y => ["next", x, tA, y]
  | .new x => [x]
  | .free x => [x]
  | .call f as => f :: tL :: (listed as ++ [tR])
def Sim.Ok : Sim → Prop
  | .copy x y => NameOk x ∧ PlaceOk y
  | .read x y => NameOk x ∧ NameOk y
  | .link x y => NameOk x ∧ PlaceOk y
  | .new x => NameOk x
  | .free x => NameOk x
  | .call f as => NameOk f ∧ (∀ x ∈ as, NameOk x) ∧ as.length ≤ 20
theorem in_ops (s : Bool) : opT s ∈ [tEq, tNe] := by cases s <;> simp [opT]
theorem tne : (tNe = tEq) = False := by simp; decide +kernel
theorem place_next {x : Str} (h : PlaceOk x) : x ≠ (Str.ofString "next") := by
  rcases h with rfl | h
  · decide +kernel
  · intro z
    exact h.2.1 (by rw [z]; simp [reserved])
def sp_test (C : Addr) : DSp := fun ds M Q E => ∃ (c t : Addr) (s : Bool) (a b : Str) (rest : List Str), ds = [.ob c] ∧ CurAt C M c t (a :: opT s :: b :: rest) ∧ PlaceOk a ∧ PlaceOk b ∧ ∀ M', CurAt C M' c t rest → Keep [c] M M' → Q (testD s a b) M'
theorem mono_test {C : Addr} : MonoSp (sp_test C) := by
  rintro ds M Q Q' E E' hQ hE ⟨c, t, s, a, b, r, h1, h2, h3, h4, h⟩
  exact ⟨c, t, s, a, b, r, h1, h2, h3, h4, fun M' z1 z2 => hQ _ _ (h M' z1 z2)⟩
theorem fn_test (S0 : Src K mg "read_test" s_read_test ["cursor"]) (G : GF K mg C_Cursor C_Block C_ProcReader C_Reader v_proc_name) (M_Cursor_take : MFn P w K mg base 2 C_Cursor "take" (sp_take C_Cursor) []) (M_Cursor_place : MFn P w K mg base 4 C_Cursor "place" (sp_place C_Cursor) []) : Fn P w K mg base 5 "read_test" (sp_test C_Cursor) [] := by
  refine S0.fn mono_test fun g fd F => fn_ok F sc_read_test (fun ds M Q E h => by obtain ⟨c, t, s, a, b, r, rfl, _⟩ := h; rfl) ⟨_, fun cdv A outer s H E hr => have hu := hr.u200
    (xss_cons (xs_set 1 sc_read_test.nd (xe_meth0 M_Cursor_place G.T_Cursor (hr.mono (by first | decide | omega)) bx_takes (xe_var 0)))
 (xss_cons (xs_set 2 sc_read_test.nd (xe_meth0 M_Cursor_take G.T_Cursor (hr.mono (by first | decide | omega)) bx_takes (xe_var 0)))
 (xss_cons (xs_if (xt_cmp (x_notin hu) (xe_var 2) (xe_tup (n := 2) (xa_cons xe_str (xa_cons xe_str xa_nil))) rfl bl_notin)
 (xss_one xs_dead)
 xss_nil)
 (xss_one (xs_ret (xe_tup (n := 3) (xa_cons (xe_if (xt_cmp (x_eq hu) (xe_var 2) xe_str (nomark _) bl_eq) xe_str xe_str) (xa_cons (xe_var 1) (xa_cons (xe_meth0 M_Cursor_place G.T_Cursor (hr.mono (by first | decide | omega)) bx_takes (xe_var 0)) xa_nil))))))))), fun ds M Q E h => ?_⟩
  obtain ⟨c, t, s, a, b, r, rfl, hc, ha, hb, h⟩ := h
  have ie : ∀ (x : Str) (M : Mem) (Q : DK), (opNotIn (.str x) (.tup [.str tEq, .str tNe]) M).run M Q = Q (.bl (!decide (x ∈ [tEq, tNe]))) M := fun x M Q => notIn_tupS (fs := [tEq, tNe])
  obtain ⟨pre, q1, _⟩ := id hc
  simp! [q1]
  refine ⟨c, t, a, _, rfl, hc, ha, fun M1 c1 k1 => ?_⟩
  obtain ⟨pre1, q2, _⟩ := id c1
  simp! [q2]
  refine ⟨c, t, opT s, _, rfl, c1, fun M2 c2 k2 => ?_⟩
  obtain ⟨pre2, q3, _⟩ := id c2
  simp! [ie, in_ops, q3]
  have ek : ∀ R : D → Mem → Prop, R (.str (kindS s)) M2 → bifM (decide (opT s = tEq)) (fun M => R (.str kSame) M) (fun M => R (.str kUnl) M) M2 := fun R hR => by
    cases s with
    | true => exact hR
    | false =>
      have : opT false ≠ tEq := by rw [show opT false = tNe from rfl]; simpa using tne
      exact bif_neg this hR
  cases s with
  | true =>
    have : opT true = tEq := rfl
    simp! [this, q3]
    refine ⟨c, t, b, _, rfl, c2, hb, fun M3 c3 k3 => ?_⟩
    simp! []
    exact h _ c3 ((k1.trans k2).trans k3)
  | false =>
    have : opT false = tNe := rfl
    simp! [this, tne, q3]
    refine ⟨c, t, b, _, rfl, c2, hb, fun M3 c3 k3 => ?_⟩
    simp! []
    exact h _ c3 ((k1.trans k2).trans k3)
def isSet : Sim → Bool
  | .copy _ _ | .read _ _ | .link _ _ => true
  | _ => false
def sp_set (C : Addr) : DSp := fun ds M Q E => ∃ (c t : Addr) (s : Sim) (rest : List Str), ds = [.ob c] ∧ CurAt C M c t (s.tail ++ rest) ∧ isSet s = true ∧ s.Ok ∧ ∀ M', CurAt C M' c t rest → Keep [c] M M' → Q s.enc M'
theorem mono_set {C : Addr} : MonoSp (sp_set C) := by
  rintro ds M Q Q' E E' hQ hE ⟨c, t, s, r, h1, h2, h3, h4, h⟩
  exact ⟨c, t, s, r, h1, h2, h3, h4, fun M' z1 z2 => hQ _ _ (h M' z1 z2)⟩
theorem fn_set (S0 : Src K mg "read_set" s_read_set ["cursor"]) (G : GF K mg C_Cursor C_Block C_ProcReader C_Reader v_proc_name) (M_Cursor_skip : MFn P w K mg base 2 C_Cursor "skip" (sp_skip C_Cursor) []) (M_Cursor_name : MFn P w K mg base 3 C_Cursor "name" (sp_name C_Cursor) []) (M_Cursor_expect : MFn P w K mg base 3 C_Cursor "expect" (sp_expect C_Cursor) []) (M_Cursor_place : MFn P w K mg base 4 C_Cursor "place" (sp_place C_Cursor) []) : Fn P w K mg base 5 "read_set" (sp_set C_Cursor) [] := by
  refine S0.fn mono_set fun g fd F => fn_ok F sc_read_set (fun ds M Q E h => by obtain ⟨c, t, s, r, rfl, _⟩ := h; rfl) ⟨_, fun cdv A outer s H E hr => have hu := hr.u200
    (xss_cons (xs_if (xt_val (xe_meth M_Cursor_skip G.T_Cursor (hr.mono (by first | decide | omega)) bx_takes (xe_var 0) (xa_cons xe_str xa_nil)))
 (xss_cons (xs_set 1 sc_read_set.nd (xe_meth0 M_Cursor_name G.T_Cursor (hr.mono (by first | decide | omega)) bx_takes (xe_var 0)))
 (xss_cons (xs_expr (xe_meth M_Cursor_expect G.T_Cursor (hr.mono (by first | decide | omega)) bx_takes (xe_var 0) (xa_cons xe_str xa_nil)))
 (xss_one (xs_ret (xe_tup (n := 3) (xa_cons xe_str (xa_cons (xe_var 1) (xa_cons (xe_meth0 M_Cursor_place G.T_Cursor (hr.mono (by first | decide | omega)) bx_takes (xe_var 0)) xa_nil))))))))
 xss_nil)
 (xss_cons (xs_set 1 sc_read_set.nd (xe_meth0 M_Cursor_name G.T_Cursor (hr.mono (by first | decide | omega)) bx_takes (xe_var 0)))
 (xss_cons (xs_expr (xe_meth M_Cursor_expect G.T_Cursor (hr.mono (by first | decide | omega)) bx_takes (xe_var 0) (xa_cons xe_str xa_nil)))
 (xss_cons (xs_if (xt_val (xe_meth M_Cursor_skip G.T_Cursor (hr.mono (by first | decide | omega)) bx_takes (xe_var 0) (xa_cons xe_str xa_nil)))
 (xss_one (xs_ret (xe_tup (n := 3) (xa_cons xe_str (xa_cons (xe_var 1) (xa_cons (xe_meth0 M_Cursor_name G.T_Cursor (hr.mono (by first | decide | omega)) bx_takes (xe_var 0)) xa_nil))))))
 xss_nil)
 (xss_one (xs_ret (xe_tup (n := 3) (xa_cons xe_str (xa_cons (xe_var 1) (xa_cons (xe_meth0 M_Cursor_place G.T_Cursor (hr.mono (by first | decide | omega)) bx_takes (xe_var 0)) xa_nil)))))))))), fun ds M Q E h => ?_⟩
  obtain ⟨c, t, s, r, rfl, hc, hs, hok, h⟩ := h
  obtain ⟨pre, q1, _⟩ := id hc
  have nx : Str.ofString "next" ≠ e0 := by decide +kernel
  simp! [q1]
  cases s with
  | new x => cases hs
  | free x => cases hs
  | call f as => cases hs
  | link x y =>
    have hc : CurAt C_Cursor M c t (Str.ofString "next" :: x :: tA :: y :: r) := hc
    refine ⟨c, t, _, _, rfl, hc, nx, fun r' e M1 c1 k1 => ?_, fun z => absurd rfl z⟩
    cases e
    obtain ⟨pre1, q2, _⟩ := id c1
    simp! [q2]
    refine ⟨c, t, x, _, rfl, c1, hok.1, fun M2 c2 k2 => ?_⟩
    obtain ⟨pre2, q3, _⟩ := id c2
    simp! [q3]
    refine ⟨c, t, tA, _, rfl, c2, fun M3 c3 k3 => ?_⟩
    obtain ⟨pre3, q4, _⟩ := id c3
    simp! [q4]
    refine ⟨c, t, y, _, rfl, c3, hok.2, fun M4 c4 k4 => ?_⟩
    simp! []
    exact h _ c4 (((k1.trans k2).trans k3).trans k4)
  | copy x y =>
    have hc : CurAt C_Cursor M c t (x :: tA :: y :: r) := hc
    refine ⟨c, t, _, _, rfl, hc, nx, fun r' e M1 c1 k1 => ?_, fun _ => ?_⟩
    · exact absurd (List.cons.inj e).1 (place_next (.inr hok.1))
    simp! [q1]
    refine ⟨c, t, x, _, rfl, hc, hok.1, fun M2 c2 k2 => ?_⟩
    obtain ⟨pre2, q3, _⟩ := id c2
    simp! [q3]
    refine ⟨c, t, tA, _, rfl, c2, fun M3 c3 k3 => ?_⟩
    obtain ⟨pre3, q4, _⟩ := id c3
    simp! [q4]
    refine ⟨c, t, _, _, rfl, c3, nx, fun r' e M1 c1 k1 => ?_, fun _ => ?_⟩
    · exact absurd (List.cons.inj e).1 (place_next hok.2)
    simp! [q4]
    refine ⟨c, t, y, _, rfl, c3, hok.2, fun M4 c4 k4 => ?_⟩
    simp! []
    exact h _ c4 ((k2.trans k3).trans k4)
  | read x y =>
    have hc : CurAt C_Cursor M c t (x :: tA :: Str.ofString "next" :: y :: r) := hc
    refine ⟨c, t, _, _, rfl, hc, nx, fun r' e M1 c1 k1 => ?_, fun _ => ?_⟩
    · exact absurd (List.cons.inj e).1 (place_next (.inr hok.1))
    simp! [q1]
    refine ⟨c, t, x, _, rfl, hc, hok.1, fun M2 c2 k2 => ?_⟩
    obtain ⟨pre2, q3, _⟩ := id c2
    simp! [q3]
    refine ⟨c, t, tA, _, rfl, c2, fun M3 c3 k3 => ?_⟩
    obtain ⟨pre3, q4, _⟩ := id c3
    simp! [q4]
    refine ⟨c, t, _, _, rfl, c3, nx, fun r' e M4 c4 k4 => ?_, fun z => absurd rfl z⟩
    cases e
    obtain ⟨pre4, q5, _⟩ := id c4
    simp! [q5]
    refine ⟨c, t, y, _, rfl, c4, hok.2, fun M5 c5 k5 => ?_⟩
    simp! []
    exact h _ c5 (((k2.trans k3).trans k4).trans k5)
def sp_call (C : Addr) : DSp := fun ds M Q E => ∃ (c t : Addr) (f : Str) (as : List Str) (rest : List Str), ds = [.ob c] ∧ CurAt C M c t ((Sim.call f as).tail ++ rest) ∧ (Sim.call f as).Ok ∧ ∀ M', CurAt C M' c t rest → Keep [c] M M' → Q (Sim.call f as).enc M'
theorem mono_call {C : Addr} : MonoSp (sp_call C) := by
  rintro ds M Q Q' E E' hQ hE ⟨c, t, f, as, r, h1, h2, h3, h⟩
  exact ⟨c, t, f, as, r, h1, h2, h3, fun M' z1 z2 => hQ _ _ (h M' z1 z2)⟩
theorem fn_call (S0 : Src K mg "read_call" s_read_call ["cursor"]) (G : GF K mg C_Cursor C_Block C_ProcReader C_Reader v_proc_name) (M_Cursor_name : MFn P w K mg base 3 C_Cursor "name" (sp_name C_Cursor) []) (M_Cursor_expect : MFn P w K mg base 3 C_Cursor "expect" (sp_expect C_Cursor) []) (F_read_names : Fn P w K mg base 4 "read_names" (sp_names C_Cursor) []) : Fn P w K mg base 5 "read_call" (sp_call C_Cursor) [] := by
  refine S0.fn mono_call fun g fd F => fn_ok F sc_read_call (fun ds M Q E h => by obtain ⟨c, t, f, as, r, rfl, _⟩ := h; rfl) ⟨_, fun cdv A outer s H E hr => have hu := hr.u200
    (xss_cons (xs_set 1 sc_read_call.nd (xe_meth0 M_Cursor_name G.T_Cursor (hr.mono (by first | decide | omega)) bx_takes (xe_var 0)))
 (xss_cons (xs_expr (xe_meth M_Cursor_expect G.T_Cursor (hr.mono (by first | decide | omega)) bx_takes (xe_var 0) (xa_cons xe_str xa_nil)))
 (xss_cons (xs_set 2 sc_read_call.nd (xe_call F_read_names (hr.mono (by first | decide | omega)) bx_takes (by rfl) (xa_cons (xe_var 0) (xa_cons xe_int xa_nil))))
 (xss_cons (xs_expr (xe_meth M_Cursor_expect G.T_Cursor (hr.mono (by first | decide | omega)) bx_takes (xe_var 0) (xa_cons xe_str xa_nil)))
 (xss_one (xs_ret (xe_tup (n := 3) (xa_cons xe_str (xa_cons (xe_var 1) (xa_cons (xe_var 2) xa_nil)))))))))), fun ds M Q E h => ?_⟩
  obtain ⟨c, t, f, as, r, rfl, hc, ⟨hf, has, hl⟩, h⟩ := h
  obtain ⟨pre, q1, _⟩ := id hc
  have hc : CurAt C_Cursor M c t (f :: tL :: (listed as ++ (tR :: r))) := by simpa [Sim.tail] using hc
  simp! [q1]
  refine ⟨c, t, f, _, rfl, hc, hf, fun M2 c2 k2 => ?_⟩
  obtain ⟨pre2, q3, _⟩ := id c2
  simp! [q3]
  refine ⟨c, t, tL, _, rfl, c2, fun M3 c3 k3 => ?_⟩
  obtain ⟨pre3, q4, _⟩ := id c3
  simp! [q4]
  refine ⟨c, t, 0, as, _, rfl, c3, has, Nat.le_trans hl (by decide), by simp; decide +kernel, fun _ => ⟨rfl, rfl⟩, fun M4 c4 k4 => ?_⟩
  obtain ⟨pre4, q5, _⟩ := id c4
  simp! [q5]
  refine ⟨c, t, tR, _, rfl, c4, fun M5 c5 k5 => ?_⟩
  simp! []
  exact h _ c5 (((k2.trans k3).trans k4).trans k5)
def sp_simple (C : Addr) : DSp := fun ds M Q E => ∃ (c t : Addr) (s : Sim) (rest : List Str), ds = [.str s.word, .ob c] ∧ CurAt C M c t (s.tail ++ rest) ∧ s.Ok ∧ ∀ M', CurAt C M' c t rest → Keep [c] M M' → Q s.enc M'
theorem mono_simple {C : Addr} : MonoSp (sp_simple C) := by
  rintro ds M Q Q' E E' hQ hE ⟨c, t, s, r, h1, h2, h4, h⟩
  exact ⟨c, t, s, r, h1, h2, h4, fun M' z1 z2 => hQ _ _ (h M' z1 z2)⟩
theorem fn_simple (S0 : Src K mg "read_simple" s_read_simple ["word", "cursor"]) (G : GF K mg C_Cursor C_Block C_ProcReader C_Reader v_proc_name) (F_read_set : Fn P w K mg base 5 "read_set" (sp_set C_Cursor) []) (M_Cursor_name : MFn P w K mg base 3 C_Cursor "name" (sp_name C_Cursor) []) (F_read_call : Fn P w K mg base 5 "read_call" (sp_call C_Cursor) []) : Fn P w K mg base 6 "read_simple" (sp_simple C_Cursor) [] := by
  refine S0.fn mono_simple fun g fd F => fn_ok F sc_read_simple (fun ds M Q E h => by obtain ⟨c, t, s, r, rfl, _⟩ := h; rfl) ⟨_, fun cdv A outer s H E hr => have hu := hr.u200
    (xss_cons (xs_if (xt_cmp (x_eq hu) (xe_var 0) xe_str (nomark _) bl_eq)
 (xss_one (xs_ret (xe_call F_read_set (hr.mono (by first | decide | omega)) bx_takes (by rfl) (xa_cons (xe_var 1) xa_nil))))
 xss_nil)
 (xss_cons (xs_if (xt_cmp (x_in hu) (xe_var 0) (xe_tup (n := 2) (xa_cons xe_str (xa_cons xe_str xa_nil))) rfl bl_in)
 (xss_one (xs_ret (xe_tup (n := 2) (xa_cons (xe_var 0) (xa_cons (xe_meth0 M_Cursor_name G.T_Cursor (hr.mono (by first | decide | omega)) bx_takes (xe_var 1)) xa_nil)))))
 xss_nil)
 (xss_cons (xs_if (xt_cmp (x_eq hu) (xe_var 0) xe_str (nomark _) bl_eq)
 (xss_one (xs_ret (xe_call F_read_call (hr.mono (by first | decide | omega)) bx_takes (by rfl) (xa_cons (xe_var 1) xa_nil))))
 xss_nil)
 (xss_one xs_dead)))), fun ds M Q E h => ?_⟩
  obtain ⟨c, t, s, r, rfl, hc, hok, h⟩ := h
  obtain ⟨pre, q1, _⟩ := id hc
  have ie : ∀ (x : Str) (M : Mem) (Q : DK), (opIn (.str x) (.tup [.str (Str.ofString "new"), .str (Str.ofString "free")]) M).run M Q = Q (.bl (decide (x ∈ [Str.ofString "new", Str.ofString "free"]))) M := fun x M Q => in_tupS (fs := [Str.ofString "new", Str.ofString "free"])
  have i1 : (Str.ofString "new" ∈ [Str.ofString "new", Str.ofString "free"]) = True := by simp
  have i2 : (Str.ofString "free" ∈ [Str.ofString "new", Str.ofString "free"]) = True := by simp
  have i3 : (Str.ofString "call" ∈ [Str.ofString "new", Str.ofString "free"]) = False := by simp; decide +kernel
  cases s with
  | copy x y =>
    simp! [q1, Sim.word]
    exact ⟨c, t, _, _, rfl, hc, rfl, hok, fun M' k1 k2 => h _ k1 k2⟩
  | read x y =>
    simp! [q1, Sim.word]
    exact ⟨c, t, _, _, rfl, hc, rfl, hok, fun M' k1 k2 => h _ k1 k2⟩
  | link x y =>
    simp! [q1, Sim.word]
    exact ⟨c, t, _, _, rfl, hc, rfl, hok, fun M' k1 k2 => h _ k1 k2⟩
  | new x =>
    simp! [q1, Sim.word, ie, i1]
    refine ⟨c, t, x, _, rfl, hc, hok, fun M2 c2 k2 => ?_⟩
    simp! []
    exact h _ c2 k2
  | free x =>
    simp! [q1, Sim.word, ie, i2]
    refine ⟨c, t, x, _, rfl, hc, hok, fun M2 c2 k2 => ?_⟩
    simp! []
    exact h _ c2 k2
  | call f as =>
    simp! [q1, Sim.word, ie, i3]
    exact ⟨c, t, _, _, _, rfl, hc, hok, fun M' k1 k2 => h _ k1 k2⟩
end K02

set_option maxHeartbeats 4000000
namespace K02
open PySem PySem.Spec PyProof.Rows L2 PL SX
variable {P : Program} {w : World} {K : PySem.W.Frag} {mg : Str → Option Value} {base : Heap} {C_Cursor C_Block C_ProcReader C_Reader v_proc_name : Addr}
local macro_rules | `(tactic| simp! [$ls,*]) => `(tactic| simp only [s_fld, s_fldK, s_insAt, s_optD, s_obAt, s_fput, s_fputK1, s_fputK2, s_faug, s_faugK1, s_faugK2, s_faugK3, s_meth, s_methK1, s_methK2, s_make, s_makeK, s_makeK2, s_dead, s_tryN, noX_nx, noX_rt, noX_bk, noX_ct, mSplit, opMulS, s_enum, s_enumK, s_sortBy, s_sortByK, look_nil, look_cons, putFD_nil, putFD_cons, List.append_nil, to_nx, to_rt, to_bk, to_ct, to_ex, lp_nx, lp_rt, lp_bk, lp_ct, lp_ex, ret_nx, ret_rt, ret_ex, s_exK, s_bif1, s_bif0, s_optB, s_optE, s_nxD, s_ifK, s_asgN, s_asgT, s_asgL, b_nil, b_nm, b_tp, s_next, s_seq, s_drop, s_ret, s_retN, s_ifS, s_asg, s_brk, s_cont, s_put, s_put1, s_put2, s_put3, s_aug, s_augV, s_augK, s_augK2, s_bin, s_bin1, s_bin2, s_var, s_varK, s_C, s_cb, s_cbK, s_call, s_callK, s_m, s_m1, s_m2, s_nil, s_cons, s_cons1, s_cons2, s_tup, s_tupK, s_lst, s_lstK, s_truth, s_trK, s_tK, s_eK, s_cK, s_and, s_andK, s_or, s_orK, s_not, s_notK, s_ife, s_ifeK, s_andV, s_orV, s_andvK, s_orvK, s_andvK2, s_orvK2, s_notV, s_notvK, s_blK, s_neg, s_negK, s_sl, s_sl1, s_sl2, s_sl3, s_noPart, s_part, s_partK, s_rev, s_revK, s_for, s_forK, s_lc, s_lcK, s_yes, s_walk, s_walkT, s_walkS, s_walkA, s_walkL, s_walkR, s_rng1, s_rng2, s_rng1K, s_rng2K, s_callL, s_callLK, s_callLO, s_clK, s_raise, r_val, r_new, r_put, s_whK, s_lcY, s_lcT, s_lcE, s_cg, s_cgK, s_rng3, s_rng3K, s_lcB, s_lcS, wipeD, Pat.bind, seqOf, rg, s_dict0, s_sortSet, s_sortSetK, q_is_tuple, q_is_str, q_is_int, q_is_bool, q_is_list, q_isR, ofS_inj, String.reduceEq, q_eqI, q_neI, q_eqS, q_neS, decide_true, decide_false, Int.reduceEq, reduceCtorEq, i_NoneType_tuple, i_NoneType_str, i_NoneType_int, i_NoneType_bool, i_NoneType_list, i_bool_tuple, i_bool_str, i_bool_int, i_bool_bool, i_bool_list, i_int_tuple, i_int_str, i_int_int, i_int_bool, i_int_list, i_str_tuple, i_str_str, i_str_int, i_str_bool, i_str_list, i_tuple_tuple, i_tuple_str, i_tuple_int, i_tuple_bool, i_tuple_list, i_list_tuple, i_list_str, i_list_int, i_list_bool, i_list_list, i_dict_tuple, i_dict_str, i_dict_int, i_dict_bool, i_dict_list, tyN, startD, mupd_same, mupd_ne, ne_eq, not_false_eq_true, List.map_cons, List.map_nil, List.length_cons, List.length_nil, List.replicate_succ, List.replicate_zero, Nat.zero_add, Nat.reduceAdd, Nat.reduceSub, Int.cast_ofNat_Int, List.cons_append, List.nil_append, List.getElem?_cons_zero, List.getElem?_cons_succ, List.set_cons_zero, List.set_cons_succ, opIx, atI_cons, ixN, opPut, opAdd, opSub, opMul, opFdiv, opMod, opPow, opLt, opLe, opGt, opGe, opIs, opIsNot, D.isNon, truth, bLen, bAbs, bInt, bTuple, bList, isTy, mAppend, mExtend, mPop, Int.reduceLE, Int.reduceLT, Int.reduceToNat, Int.reduceNeg, Int.reduceNe, Option.bind_some, if_true, if_false, ite_true, ite_false, true_and, and_true, Bool.not_true, Bool.not_false, opIadd, Nat.reduceLT, Nat.reduceLeDiff, Int.ofNat_lt, s_dpNil, s_dpCons, s_dpK1, s_dpK2, s_dpK3, s_disp, s_dispK, s_optKV, kvOf, s_dc, s_dcK, s_keys, s_lockK, s_sortIt, mGet, mDPop, dgetR, bDictC, bTupC, opEqD, opNeD, eqDR, D.key, merge_one, optKV, id, opEqL, opNeL, eqLR, $ls,*])
theorem last_app {α : Type} {x : α} {l : List α} : atI (l ++ [x]) (-1) = some x := by
  unfold atI ixN
  have e : ((-1 : Int) + ((l ++ [x]).length : Nat)).toNat = l.length := by simp only [List.length_append, List.length_cons, List.length_nil]; omega
  rw [if_neg (by decide), if_pos (by simp; omega), Option.bind_some, e]
  simp
/-! open blocks, a procedure that is read -/
structure Blk where
  kind : Str
  test : D
  first : D
  rows : List D
structure Hd where
  name : Str
  params : D
  locals : D
  need : D
  ens : List D
  stage : Int
abbrev Zs := List (Addr × Addr × Blk)
def adr (zs : Zs) : List Addr := zs.flatMap fun z => [z.1, z.2.1]
def insB (b : Blk) (r : Addr) : List (Str × D) := [("kind", .str b.kind), ("test", b.test), ("first", b.first), ("rows", .ob r)]
structure BlkAt (C : Addr) (M : Mem) (z : Addr × Addr × Blk) : Prop where
  i : M z.1 = some (.ins C (insB z.2.2 z.2.1))
  r : M z.2.1 = some (.lst z.2.2.rows)
def insP (st : Hd) (le lb : Addr) : List (Str × D) := [("name", .str st.name), ("parameters", st.params), ("locals", st.locals), ("need", st.need), ("ensures", .ob le), ("stage", .int st.stage), ("blocks", .ob lb)]
structure PrAt (CP CB : Addr) (M : Mem) (p le lb : Addr) (zs : Zs) (st : Hd) : Prop where
  hp : M p = some (.ins CP (insP st le lb))
  he : M le = some (.lst st.ens)
  hb : M lb = some (.lst (zs.map fun z => .ob z.1))
  hz : ∀ z ∈ zs, BlkAt CB M z
  nd : (p :: le :: lb :: adr zs).Nodup
theorem adr_mem {zs : Zs} {z : Addr × Addr × Blk} (h : z ∈ zs) : z.1 ∈ adr zs ∧ z.2.1 ∈ adr zs := ⟨List.mem_flatMap.mpr ⟨z, h, by simp⟩, List.mem_flatMap.mpr ⟨z, h, by simp⟩⟩
theorem adr_app (zs ys : Zs) : adr (zs ++ ys) = adr zs ++ adr ys := List.flatMap_append
theorem BlkAt.keep {C : Addr} {M M' : Mem} {z : Addr × Addr × Blk} {S : List Addr} (h : BlkAt C M z) (k : Keep S M M') (h1 : z.1 ∉ S) (h2 : z.2.1 ∉ S) : BlkAt C M' z := ⟨k _ _ h.i h1, k _ _ h.r h2⟩
theorem PrAt.keep {CP CB : Addr} {M M' : Mem} {p le lb : Addr} {zs : Zs} {st : Hd} {S : List Addr} (h : PrAt CP CB M p le lb zs st) (k : Keep S M M') (hS : ∀ a ∈ p :: le :: lb :: adr zs, a ∉ S) : PrAt CP CB M' p le lb zs st :=
  ⟨k _ _ h.hp (hS _ (by simp)), k _ _ h.he (hS _ (by simp)), k _ _ h.hb (hS _ (by simp)), fun z hz => (h.hz z hz).keep k (hS _ (by simp [(adr_mem hz).1])) (hS _ (by simp [(adr_mem hz).2])), h.nd⟩
/-! a block -/
def sp_binit (C : Addr) : DSp := fun ds M Q E => ∃ (b : Addr) (k : Str) (t : D), ds = [.ob b, .str k, t] ∧ M b = some (.ins C []) ∧ ∀ r M', BlkAt C M' (b, r, ⟨k, t, .tup [], []⟩) → M r = none → Keep [b] M M' → Q .non M'
theorem mono_binit {C : Addr} : MonoSp (sp_binit C) := by
  rintro ds M Q Q' E E' hQ hE ⟨b, k, t, h1, h2, h⟩
  exact ⟨b, k, t, h1, h2, fun r M' z1 z2 z3 => hQ _ _ (h r M' z1 z2 z3)⟩
theorem fn_binit (S0 : KSrc K mg "Block" C_Block "Block.__init__" s_Block___init__ ["self", "kind", "test"]) (G : GF K mg C_Cursor C_Block C_ProcReader C_Reader v_proc_name) : KFn P w K mg base 1 "Block" C_Block (sp_binit C_Block) := by
  refine S0.fn mono_binit fun g fd F => def_ok F sc_Block___init__ (fun ds M Q E h => by obtain ⟨b, k, t, rfl, _⟩ := h; rfl) ⟨_, fun cdv A outer s H E hr => have hu := hr.u200
    (xss_cons (xs_fput G.T_Block (xe_var 1) (xe_var 0))
 (xss_cons (xs_fput G.T_Block (xe_var 2) (xe_var 0))
 (xss_cons (xs_fput G.T_Block (xe_tup (n := 0) xa_nil) (xe_var 0))
 (xss_one (xs_fput G.T_Block (xe_lst (n := 0) xa_nil) (xe_var 0)))))), fun ds M Q E h => ?_⟩
  obtain ⟨b, k, t, rfl, hb, h⟩ := h
  simp! [hb]
  intro r hr
  obtain ⟨n1, n2⟩ : r ≠ b ∧ M r = none := by
    simp only [mupd_mupd] at hr
    exact mupd_none ▸ hr
  simp! [n1, n1.symm, Ne.symm]
  refine h r _ ⟨by rw [mupd_same]; rfl, ?_⟩ n2 ?_
  · simp [mupd, n1]
  · intro x o hx hn
    have hxb : x ≠ b := by simpa using hn
    have hxr : x ≠ r := by rintro rfl; rw [n2] at hx; cases hx
    simp [mupd, hxb, hxr, hx]
def stmtOf (b : Blk) : D := if b.kind = Str.ofString "while" then .tup [.str "while", b.test, .tup b.rows] else if b.kind = Str.ofString "else" then .tup [.str "if", b.test, b.first, .tup b.rows] else .tup [.str "if", b.test, .tup b.rows, .tup []]
def sp_stmt (C : Addr) : DSp := fun ds M Q E => ∃ (z : Addr × Addr × Blk), ds = [.ob z.1] ∧ BlkAt C M z ∧ Q (stmtOf z.2.2) M
theorem mono_stmt {C : Addr} : MonoSp (sp_stmt C) := by
  rintro ds M Q Q' E E' hQ hE ⟨z, h1, h2, h⟩
  exact ⟨z, h1, h2, hQ _ _ h⟩
theorem fn_stmt (S0 : MSrc K C_Block "statement" "Block.statement" s_Block_statement ["self"] []) (G : GF K mg C_Cursor C_Block C_ProcReader C_Reader v_proc_name) : MFn P w K mg base 1 C_Block "statement" (sp_stmt C_Block) [] := by
  refine S0.fn mono_stmt fun g fd F => def_ok F sc_Block_statement (fun ds M Q E h => by obtain ⟨z, rfl, _⟩ := h; rfl) ⟨_, fun cdv A outer s H E hr => have hu := hr.u200
    (xss_cons (xs_if (xt_cmp (x_eq hu) (xe_fld G.T_Block (xe_var 0)) xe_str (nomark _) bl_eq)
 (xss_one (xs_ret (xe_tup (n := 3) (xa_cons xe_str (xa_cons (xe_fld G.T_Block (xe_var 0)) (xa_cons (xe_callTy c_tuple (by rfl) G.tuple (by decide +kernel) (xa_cons (xe_fld G.T_Block (xe_var 0)) xa_nil)) xa_nil))))))
 xss_nil)
 (xss_cons (xs_if (xt_cmp (x_eq hu) (xe_fld G.T_Block (xe_var 0)) xe_str (nomark _) bl_eq)
 (xss_one (xs_ret (xe_tup (n := 4) (xa_cons xe_str (xa_cons (xe_fld G.T_Block (xe_var 0)) (xa_cons (xe_fld G.T_Block (xe_var 0)) (xa_cons (xe_callTy c_tuple (by rfl) G.tuple (by decide +kernel) (xa_cons (xe_fld G.T_Block (xe_var 0)) xa_nil)) xa_nil)))))))
 xss_nil)
 (xss_one (xs_ret (xe_tup (n := 4) (xa_cons xe_str (xa_cons (xe_fld G.T_Block (xe_var 0)) (xa_cons (xe_callTy c_tuple (by rfl) G.tuple (by decide +kernel) (xa_cons (xe_fld G.T_Block (xe_var 0)) xa_nil)) (xa_cons (xe_tup (n := 0) xa_nil) xa_nil))))))))), fun ds M Q E h => ?_⟩
  obtain ⟨⟨b, r, k⟩, rfl, ⟨h1, h2⟩, h⟩ := h
  have h1 : M b = some (.ins C_Block (insB k r)) := h1
  unfold insB at h1
  have h2 : M r = some (.lst k.rows) := h2
  unfold stmtOf at h
  simp! [h1, h2]
  refine bif_dec (fun e => ?_) fun e => ?_
  · simp! [h1, h2]
    rw [if_pos e] at h
    exact h
  · rw [if_neg e] at h
    simp! [h1, h2]
    refine bif_dec (fun e => ?_) fun e => ?_
    · simp! [h1, h2]
      rw [if_pos e] at h
      exact h
    · rw [if_neg e] at h
      simp! [h1, h2]
      exact h
/-! a procedure -/
def emptyD : D := .tup [.tup [], .tup [], .tup [], .tup []]
def hd0 (name : Str) (params : D) : Hd := ⟨name, params, .tup [], emptyD, [], 0⟩
def blk0 : Blk := ⟨"proc", .tup [], .tup [], []⟩
def sp_pinit (CP CB : Addr) : DSp := fun ds M Q E => ∃ (p : Addr) (name : Str) (params : D), ds = [.ob p, .str name, params] ∧ M p = some (.ins CP []) ∧ ∀ le lb b r M', PrAt CP CB M' p le lb [(b, r, blk0)] (hd0 name params) → (∀ a ∈ [le, lb, b, r], M a = none) → Keep [p] M M' → Q .non M'
theorem mono_pinit {CP CB : Addr} : MonoSp (sp_pinit CP CB) := by
  rintro ds M Q Q' E E' hQ hE ⟨b, k, t, h1, h2, h⟩
  exact ⟨b, k, t, h1, h2, fun le lb b r M' z1 z2 z3 => hQ _ _ (h le lb b r M' z1 z2 z3)⟩
theorem fn_pinit (S0 : KSrc K mg "ProcReader" C_ProcReader "ProcReader.__init__" s_ProcReader___init__ ["self", "name", "parameters"]) (G : GF K mg C_Cursor C_Block C_ProcReader C_Reader v_proc_name) (K_Block : KFn P w K mg base 1 "Block" C_Block (sp_binit C_Block)) : KFn P w K mg base 3 "ProcReader" C_ProcReader (sp_pinit C_ProcReader C_Block) := by
  refine S0.fn mono_pinit fun g fd F => def_ok F sc_ProcReader___init__ (fun ds M Q E h => by obtain ⟨b, k, t, rfl, _⟩ := h; rfl) ⟨_, fun cdv A outer s H E hr => have hu := hr.u200
    (xss_cons (xs_fput G.T_ProcReader (xe_var 1) (xe_var 0))
 (xss_cons (xs_fput G.T_ProcReader (xe_var 2) (xe_var 0))
 (xss_cons (xs_fput G.T_ProcReader (xe_tup (n := 0) xa_nil) (xe_var 0))
 (xss_cons (xs_fput G.T_ProcReader (xe_globTE (by rfl) G.EMPTY) (xe_var 0))
 (xss_cons (xs_fput G.T_ProcReader (xe_lst (n := 0) xa_nil) (xe_var 0))
 (xss_cons (xs_fput G.T_ProcReader xe_int (xe_var 0))
 (xss_one (xs_fput G.T_ProcReader (xe_lst (n := 1) (xa_cons (xe_make K_Block (hr.mono (by first | decide | omega)) (by rfl) (xa_cons xe_str (xa_cons (xe_tup (n := 0) xa_nil) xa_nil))) xa_nil)) (xe_var 0))))))))), fun ds M Q E h => ?_⟩
  obtain ⟨p, name, params, rfl, hp, h⟩ := h
  simp! [hp, mupd_mupd]
  intro le hle
  obtain ⟨n1, n2⟩ : le ≠ p ∧ M le = none := mupd_none ▸ hle
  simp! [n1, n1.symm, mupd_mupd]
  have hM : ∃ M1, mupd (mupd (mupd M p (.ins C_ProcReader [("name", .str name), ("parameters", params), ("locals", .tup []), ("need", .tup [.tup [], .tup [], .tup [], .tup []])])) le (.lst [])) p (.ins C_ProcReader [("name", .str name), ("parameters", params), ("locals", .tup []), ("need", .tup [.tup [], .tup [], .tup [], .tup []]), ("ensures", .ob le), ("stage", .int 0)]) = M1 ∧ M1 p = some (.ins C_ProcReader [("name", .str name), ("parameters", params), ("locals", .tup []), ("need", .tup [.tup [], .tup [], .tup [], .tup []]), ("ensures", .ob le), ("stage", .int 0)]) ∧ M1 le = some (.lst []) ∧ Keep [p] M M1 ∧ ∀ a, M1 a = none → M a = none ∧ a ≠ p ∧ a ≠ le := by
    refine ⟨_, rfl, mupd_same, by simp [mupd, n1], ?_, fun a ha => ?_⟩
    · exact ((Keep.put (by simp)).trans (Keep.new (by rw [mupd_ne n1]; exact n2))).trans (Keep.put (by simp))
    · obtain ⟨u1, u2⟩ := (mupd_none ▸ ha : _ ∧ _)
      obtain ⟨u3, u4⟩ := (mupd_none ▸ u2 : _ ∧ _)
      exact ⟨(mupd_none ▸ u4 : _ ∧ _).2, u1, u3⟩
  obtain ⟨M1, eM, m1, m2, m3, m4⟩ := hM
  rw [eM]
  clear eM hle hp
  intro b hb
  obtain ⟨b1, b2, b3⟩ := m4 b hb
  refine ⟨b, _, _, rfl, mupd_same, fun r M2 hb2 hr2 k2 => ?_⟩
  obtain ⟨r1, r2⟩ : r ≠ b ∧ M1 r = none := mupd_none ▸ hr2
  obtain ⟨r3, r4, r5⟩ := m4 r r2
  have p2 : M2 p = _ := k2 _ _ (by rw [mupd_ne b2.symm]; exact m1) (by simpa using b2.symm)
  have l2 : M2 le = _ := k2 _ _ (by rw [mupd_ne b3.symm]; exact m2) (by simpa using b3.symm)
  have kk : Keep [p] M M2 := by
    have : Keep [b, p] M M2 := ((m3.weaken (by simp)).trans (Keep.new hb)).trans (k2.weaken (by simp))
    exact this.drop b1
  simp! []
  intro lb hlb
  have hlM : M lb = none := kk.weaken (T := [p]) (by simp) |> fun k => by
    cases e : M lb with
    | none => rfl
    | some o =>
      by_cases hp : lb = p
      · rw [hp, p2] at hlb; cases hlb
      · rw [k _ _ e (by simpa using hp)] at hlb; cases hlb
  have ne : ∀ x, (∃ o, M2 x = some o) → lb ≠ x := fun x ⟨o, hx⟩ z => by rw [z, hx] at hlb; cases hlb
  have x1 := ne p ⟨_, p2⟩
  have x2 := ne le ⟨_, l2⟩
  have x3 := ne b ⟨_, hb2.i⟩
  have x4 := ne r ⟨_, hb2.r⟩
  simp! [x1.symm, p2]
  refine h le lb b r _ ⟨mupd_same, ?_, ?_, ?_, ?_⟩ (by simp [n2, hlM, b1, r3]) ?_
  · rw [mupd_ne n1, mupd_ne x2.symm]; exact l2
  · rw [mupd_ne x1, mupd_same]; rfl
  · intro z hz
    rw [List.mem_singleton.mp hz]
    exact (hb2.keep (S := [lb, p]) ((Keep.put (by simp)).trans (Keep.put (by simp))) (by simp [x3.symm, b2]) (by simp [x4.symm, r4]))
  · simp [adr, n1.symm, x1.symm, b2.symm, r4.symm, x2.symm, b3.symm, r5.symm, x3, x4, r1.symm]
  · have : Keep [lb, p] M (mupd (mupd M2 lb (.lst [.ob b])) p (.ins C_ProcReader (insP (hd0 name params) le lb))) := ((kk.weaken (by simp)).trans (Keep.put (by simp))).trans (Keep.put (by simp))
    exact this.drop hlM
end K02

set_option maxHeartbeats 4000000
namespace K02
open PySem PySem.Spec PyProof.Rows L2 PL SX
variable {P : Program} {w : World} {K : PySem.W.Frag} {mg : Str → Option Value} {base : Heap} {C_Cursor C_Block C_ProcReader C_Reader v_proc_name : Addr}
local macro_rules | `(tactic| simp! [$ls,*]) => `(tactic| simp only [s_fld, s_fldK, s_insAt, s_optD, s_obAt, s_fput, s_fputK1, s_fputK2, s_faug, s_faugK1, s_faugK2, s_faugK3, s_meth, s_methK1, s_methK2, s_make, s_makeK, s_makeK2, s_dead, s_tryN, noX_nx, noX_rt, noX_bk, noX_ct, mSplit, opMulS, s_enum, s_enumK, s_sortBy, s_sortByK, look_nil, look_cons, putFD_nil, putFD_cons, List.append_nil, to_nx, to_rt, to_bk, to_ct, to_ex, lp_nx, lp_rt, lp_bk, lp_ct, lp_ex, ret_nx, ret_rt, ret_ex, s_exK, s_bif1, s_bif0, s_optB, s_optE, s_nxD, s_ifK, s_asgN, s_asgT, s_asgL, b_nil, b_nm, b_tp, s_next, s_seq, s_drop, s_ret, s_retN, s_ifS, s_asg, s_brk, s_cont, s_put, s_put1, s_put2, s_put3, s_aug, s_augV, s_augK, s_augK2, s_bin, s_bin1, s_bin2, s_var, s_varK, s_C, s_cb, s_cbK, s_call, s_callK, s_m, s_m1, s_m2, s_nil, s_cons, s_cons1, s_cons2, s_tup, s_tupK, s_lst, s_lstK, s_truth, s_trK, s_tK, s_eK, s_cK, s_and, s_andK, s_or, s_orK, s_not, s_notK, s_ife, s_ifeK, s_andV, s_orV, s_andvK, s_orvK, s_andvK2, s_orvK2, s_notV, s_notvK, s_blK, s_neg, s_negK, s_sl, s_sl1, s_sl2, s_sl3, s_noPart, s_part, s_partK, s_rev, s_revK, s_for, s_forK, s_lc, s_lcK, s_yes, s_walk, s_walkT, s_walkS, s_walkA, s_walkL, s_walkR, s_rng1, s_rng2, s_rng1K, s_rng2K, s_callL, s_callLK, s_callLO, s_clK, s_raise, r_val, r_new, r_put, s_whK, s_lcY, s_lcT, s_lcE, s_cg, s_cgK, s_rng3, s_rng3K, s_lcB, s_lcS, wipeD, Pat.bind, seqOf, rg, s_dict0, s_sortSet, s_sortSetK, q_is_tuple, q_is_str, q_is_int, q_is_bool, q_is_list, q_isR, ofS_inj, String.reduceEq, q_eqI, q_neI, q_eqS, q_neS, decide_true, decide_false, Int.reduceEq, reduceCtorEq, i_NoneType_tuple, i_NoneType_str, i_NoneType_int, i_NoneType_bool, i_NoneType_list, i_bool_tuple, i_bool_str, i_bool_int, i_bool_bool, i_bool_list, i_int_tuple, i_int_str, i_int_int, i_int_bool, i_int_list, i_str_tuple, i_str_str, i_str_int, i_str_bool, i_str_list, i_tuple_tuple, i_tuple_str, i_tuple_int, i_tuple_bool, i_tuple_list, i_list_tuple, i_list_str, i_list_int, i_list_bool, i_list_list, i_dict_tuple, i_dict_str, i_dict_int, i_dict_bool, i_dict_list, tyN, startD, mupd_same, mupd_ne, ne_eq, not_false_eq_true, List.map_cons, List.map_nil, List.length_cons, List.length_nil, List.replicate_succ, List.replicate_zero, Nat.zero_add, Nat.reduceAdd, Nat.reduceSub, Int.cast_ofNat_Int, List.cons_append, List.nil_append, List.getElem?_cons_zero, List.getElem?_cons_succ, List.set_cons_zero, List.set_cons_succ, opIx, atI_cons, ixN, opPut, opAdd, opSub, opMul, opFdiv, opMod, opPow, opLt, opLe, opGt, opGe, opIs, opIsNot, D.isNon, truth, bLen, bAbs, bInt, bTuple, bList, isTy, mAppend, mExtend, mPop, Int.reduceLE, Int.reduceLT, Int.reduceToNat, Int.reduceNeg, Int.reduceNe, Option.bind_some, if_true, if_false, ite_true, ite_false, true_and, and_true, Bool.not_true, Bool.not_false, opIadd, Nat.reduceLT, Nat.reduceLeDiff, Int.ofNat_lt, s_dpNil, s_dpCons, s_dpK1, s_dpK2, s_dpK3, s_disp, s_dispK, s_optKV, kvOf, s_dc, s_dcK, s_keys, s_lockK, s_sortIt, mGet, mDPop, dgetR, bDictC, bTupC, opEqD, opNeD, eqDR, D.key, merge_one, optKV, id, opEqL, opNeL, eqLR, $ls,*])
abbrev wLoc : Str := Str.ofString "local"
abbrev wNeed : Str := Str.ofString "need"
abbrev wEns : Str := Str.ofString "ensure"
abbrev wIf : Str := Str.ofString "if"
abbrev wWhile : Str := Str.ofString "while"
abbrev wElse : Str := Str.ofString "else"
abbrev wEnd : Str := Str.ofString "end"
abbrev wProc : Str := Str.ofString "proc"
/-- a line ahead of the statements -/
inductive LineH : Hd → List Str → Hd → Prop
  | loc {st : Hd} (ns : List Str) : st.stage < 1 → ns ≠ [] → (∀ x ∈ ns, NameOk x) → ns.length ≤ 100 → LineH st (wLoc :: listed ns) { st with locals := .tup (ns.map D.str), stage := 1 }
  | need {st : Hd} (ps : List Part) : st.stage < 2 → Pict ps → LineH st (wNeed :: partsToks ps) { st with need := picD ps, stage := 2 }
  | ens {st : Hd} (ps : List Part) : st.stage < 4 → st.ens.length ≤ 1000 → Pict ps → LineH st (wEns :: partsToks ps) { st with ens := st.ens ++ [picD ps], stage := 3 }
def headW (w : Str) : Prop := w = wLoc ∨ w = wNeed ∨ w = wEns
theorem PrAt.setP {CP CB : Addr} {M : Mem} {p le lb : Addr} {zs : Zs} {st : Hd} (h : PrAt CP CB M p le lb zs st) (st' : Hd) (e : st'.ens = st.ens) : PrAt CP CB (mupd M p (.ins CP (insP st' le lb))) p le lb zs st' := by
  have nd := h.nd
  have hp := (List.nodup_cons.mp nd).1
  have ne : ∀ a ∈ le :: lb :: adr zs, a ≠ p := fun a ha z => hp (z ▸ ha)
  refine ⟨mupd_same, ?_, ?_, fun z hz => ?_, nd⟩
  · rw [mupd_ne (ne _ (by simp)), e]; exact h.he
  · rw [mupd_ne (ne _ (by simp))]; exact h.hb
  · exact (h.hz z hz).keep (S := [p]) (Keep.put (by simp)) (by simpa using ne _ (by simp [(adr_mem hz).1])) (by simpa using ne _ (by simp [(adr_mem hz).2]))
theorem PrAt.setE {CP CB : Addr} {M : Mem} {p le lb : Addr} {zs : Zs} {st : Hd} (h : PrAt CP CB M p le lb zs st) (es : List D) : PrAt CP CB (mupd M le (.lst es)) p le lb zs { st with ens := es } := by
  have nd := h.nd
  have hp := (List.nodup_cons.mp nd).1
  have hl := (List.nodup_cons.mp (List.nodup_cons.mp nd).2).1
  have ne : ∀ a ∈ lb :: adr zs, a ≠ le := fun a ha z => hl (z ▸ ha)
  have hpl : p ≠ le := fun z => hp (by simp [z])
  refine ⟨?_, mupd_same, ?_, fun z hz => ?_, nd⟩
  · rw [mupd_ne hpl]; exact h.hp
  · rw [mupd_ne (ne _ (by simp))]; exact h.hb
  · exact (h.hz z hz).keep (S := [le]) (Keep.put (by simp)) (by simpa using ne _ (by simp [(adr_mem hz).1])) (by simpa using ne _ (by simp [(adr_mem hz).2]))
def foot (p le lb : Addr) (zs : Zs) : List Addr := p :: le :: lb :: adr zs
def sp_head (CC CP CB : Addr) : DSp := fun ds M Q E => ∃ (p le lb c t : Addr) (zs : Zs) (st : Hd) (w : Str) (rest : List Str), ds = [.ob p, .str w, .ob c] ∧ PrAt CP CB M p le lb zs st ∧ CurAt CC M c t rest ∧ c ∉ foot p le lb zs ∧ t ∉ foot p le lb zs ∧
  ((¬ headW w ∧ Q (.bl false) M) ∨ ∃ st', LineH st (w :: rest) st' ∧ ∀ M', PrAt CP CB M' p le lb zs st' → CurAt CC M' c t [] → Keep (c :: foot p le lb zs) M M' → Q (.bl true) M')
theorem mono_head {CC CP CB : Addr} : MonoSp (sp_head CC CP CB) := by
  rintro ds M Q Q' E E' hQ hE ⟨p, le, lb, c, t, zs, st, w, rest, h1, h2, h3, h4, h5, h⟩
  refine ⟨p, le, lb, c, t, zs, st, w, rest, h1, h2, h3, h4, h5, ?_⟩
  rcases h with ⟨h6, h⟩ | ⟨st', h6, h⟩
  · exact .inl ⟨h6, hQ _ _ h⟩
  · exact .inr ⟨st', h6, fun M' z1 z2 z3 => hQ _ _ (h M' z1 z2 z3)⟩
theorem wne : wNeed ≠ wLoc ∧ wEns ≠ wLoc ∧ wEns ≠ wNeed := by decide +kernel
theorem fn_head (S0 : MSrc K C_ProcReader "head" "ProcReader.head" s_ProcReader_head ["self", "word", "cursor"] []) (G : GF K mg C_Cursor C_Block C_ProcReader C_Reader v_proc_name) (F_read_names : Fn P w K mg base 4 "read_names" (sp_names C_Cursor) []) (F_read_picture : Fn P w K mg base 6 "read_picture" (sp_pict C_Cursor) []) : MFn P w K mg base 7 C_ProcReader "head" (sp_head C_Cursor C_ProcReader C_Block) [] := by
  refine S0.fn mono_head fun g fd F => def_ok F sc_ProcReader_head (fun ds M Q E h => by obtain ⟨p, le, lb, c, t, zs, st, w, rest, rfl, _⟩ := h; rfl) ⟨_, fun cdv A outer s H E hr => have hu := hr.u200
    (xss_cons (xs_if (xt_wh (xw_and (xt_cmp (x_eq hu) (xe_var 1) xe_str (nomark _) bl_eq) (xw_and1 (xt_cmp x_lt (xe_fld G.T_ProcReader (xe_var 0)) xe_int (nomark _) bl_lt))))
 (xss_cons (xs_fput G.T_ProcReader (xe_call F_read_names (hr.mono (by first | decide | omega)) bx_takes (by rfl) (xa_cons (xe_var 2) (xa_cons xe_int xa_nil))) (xe_var 0))
 (xss_one (xs_fput G.T_ProcReader xe_int (xe_var 0))))
 (xss_one (xs_if (xt_wh (xw_and (xt_cmp (x_eq hu) (xe_var 1) xe_str (nomark _) bl_eq) (xw_and1 (xt_cmp x_lt (xe_fld G.T_ProcReader (xe_var 0)) xe_int (nomark _) bl_lt))))
 (xss_cons (xs_fput G.T_ProcReader (xe_call F_read_picture (hr.mono (by first | decide | omega)) bx_takes (by rfl) (xa_cons (xe_var 2) xa_nil)) (xe_var 0))
 (xss_one (xs_fput G.T_ProcReader xe_int (xe_var 0))))
 (xss_one (xs_if (xt_wh (xw_and (xt_cmp (x_eq hu) (xe_var 1) xe_str (nomark _) bl_eq) (xw_and1 (xt_cmp x_lt (xe_fld G.T_ProcReader (xe_var 0)) xe_int (nomark _) bl_lt))))
 (xss_cons (xs_expr (xe_bm PySem.F.plainAttrs_list PySem.F.slot_list_append PySem.F.type_list_append m_append (xe_fld G.T_ProcReader (xe_var 0)) (xa_cons (xe_call F_read_picture (hr.mono (by first | decide | omega)) bx_takes (by rfl) (xa_cons (xe_var 2) xa_nil)) xa_nil)))
 (xss_one (xs_fput G.T_ProcReader xe_int (xe_var 0))))
 (xss_one (xs_ret xe_bl)))))))
 (xss_one (xs_ret xe_bl))), fun ds M Q E h => ?_⟩
  obtain ⟨p, le, lb, c, t, zs, st, w, rest, rfl, hp, hc, hcf, htf, h⟩ := h
  have sz : (16777216 : Nat) = sizeLine := sizeLine_eq.symm
  have ip := hp.hp
  have ie := hp.he
  unfold insP at ip
  have hcp : c ≠ p ∧ c ≠ le := by simp [foot] at hcf; exact ⟨hcf.1, hcf.2.1⟩
  have htp : t ≠ p ∧ t ≠ le := by simp [foot] at htf; exact ⟨htf.1, htf.2.1⟩
  have hpl : p ≠ le := fun z => (List.nodup_cons.mp hp.nd).1 (by simp [z])
  rcases h with ⟨hw, h⟩ | ⟨st', hl, h⟩
  · have w1 : ¬ w = wLoc := fun z => hw (.inl z)
    have w2 : ¬ w = wNeed := fun z => hw (.inr (.inl z))
    have w3 : ¬ w = wEns := fun z => hw (.inr (.inr z))
    simp! [w1, w2, w3]
    exact h
  · have kF : ∀ {M1 M2 : Mem}, Keep [c] M1 M2 → PrAt C_ProcReader C_Block M1 p le lb zs st → PrAt C_ProcReader C_Block M2 p le lb zs st := fun k q => q.keep k fun a ha z => hcf (by simp only [List.mem_singleton] at z; rw [← z]; exact ha)
    cases hl with
    | loc ns hst hne hok hlen =>
      simp! [ip, hst]
      refine ⟨c, t, 1, ns, [], rfl, by simpa using hc, hok, hlen, by simp, fun z => absurd z hne, fun M1 c1 k1 => ?_⟩
      have p1 := kF k1 hp
      have ip1 := p1.hp
      unfold insP at ip1
      simp! [ip1, mupd_mupd]
      have p2 := p1.setP { st with locals := .tup (ns.map D.str), stage := 1 } rfl
      exact h _ p2 (c1.keep (S := [p]) (Keep.put (by simp)) (by simpa using hcp.1) (by simpa using htp.1)) ((k1.weaken (by simp)).trans (Keep.put (by simp [foot])))
    | need ps hst hps =>
      simp! [ip, hst, wne]
      refine ⟨c, t, ps, [], rfl, by simpa using hc, hps, by simp, fun M1 c1 k1 => ?_⟩
      have p1 := kF k1 hp
      have ip1 := p1.hp
      unfold insP at ip1
      simp! [ip1, mupd_mupd]
      have p2 := p1.setP { st with need := picD ps, stage := 2 } rfl
      exact h _ p2 (c1.keep (S := [p]) (Keep.put (by simp)) (by simpa using hcp.1) (by simpa using htp.1)) ((k1.weaken (by simp)).trans (Keep.put (by simp [foot])))
    | ens ps hst hel hps =>
      simp! [ip, hst, wne, ie]
      refine ⟨c, t, ps, [], rfl, by simpa using hc, hps, by simp, fun M1 c1 k1 => ?_⟩
      have p1 := kF k1 hp
      have ip1 := p1.hp
      have ie1 := p1.he
      unfold insP at ip1
      simp! [ip1, ie1, hpl, mupd_mupd]
      refine ⟨by rw [← sz]; omega, ?_⟩
      have p2 := (p1.setE (st.ens ++ [picD ps])).setP { st with ens := st.ens ++ [picD ps], stage := 3 } rfl
      exact h _ p2 (c1.keep (S := [le, p]) ((Keep.put (by simp)).trans (Keep.put (by simp))) (by simp [hcp]) (by simp [htp])) (((k1.weaken (by simp)).trans (Keep.put (by simp [foot]))).trans (Keep.put (by simp [foot])))
end K02

set_option maxHeartbeats 4000000
namespace K02
open PySem PySem.Spec PyProof.Rows L2 PL SX
variable {P : Program} {w : World} {K : PySem.W.Frag} {mg : Str → Option Value} {base : Heap} {C_Cursor C_Block C_ProcReader C_Reader v_proc_name : Addr}
local macro_rules | `(tactic| simp! [$ls,*]) => `(tactic| simp only [s_fld, s_fldK, s_insAt, s_optD, s_obAt, s_fput, s_fputK1, s_fputK2, s_faug, s_faugK1, s_faugK2, s_faugK3, s_meth, s_methK1, s_methK2, s_make, s_makeK, s_makeK2, s_dead, s_tryN, noX_nx, noX_rt, noX_bk, noX_ct, mSplit, opMulS, s_enum, s_enumK, s_sortBy, s_sortByK, look_nil, look_cons, putFD_nil, putFD_cons, List.append_nil, to_nx, to_rt, to_bk, to_ct, to_ex, lp_nx, lp_rt, lp_bk, lp_ct, lp_ex, ret_nx, ret_rt, ret_ex, s_exK, s_bif1, s_bif0, s_optB, s_optE, s_nxD, s_ifK, s_asgN, s_asgT, s_asgL, b_nil, b_nm, b_tp, s_next, s_seq, s_drop, s_ret, s_retN, s_ifS, s_asg, s_brk, s_cont, s_put, s_put1, s_put2, s_put3, s_aug, s_augV, s_augK, s_augK2, s_bin, s_bin1, s_bin2, s_var, s_varK, s_C, s_cb, s_cbK, s_call, s_callK, s_m, s_m1, s_m2, s_nil, s_cons, s_cons1, s_cons2, s_tup, s_tupK, s_lst, s_lstK, s_truth, s_trK, s_tK, s_eK, s_cK, s_and, s_andK, s_or, s_orK, s_not, s_notK, s_ife, s_ifeK, s_andV, s_orV, s_andvK, s_orvK, s_andvK2, s_orvK2, s_notV, s_notvK, s_blK, s_neg, s_negK, s_sl, s_sl1, s_sl2, s_sl3, s_noPart, s_part, s_partK, s_rev, s_revK, s_for, s_forK, s_lc, s_lcK, s_yes, s_walk, s_walkT, s_walkS, s_walkA, s_walkL, s_walkR, s_rng1, s_rng2, s_rng1K, s_rng2K, s_callL, s_callLK, s_callLO, s_clK, s_raise, r_val, r_new, r_put, s_whK, s_lcY, s_lcT, s_lcE, s_cg, s_cgK, s_rng3, s_rng3K, s_lcB, s_lcS, wipeD, Pat.bind, seqOf, rg, s_dict0, s_sortSet, s_sortSetK, q_is_tuple, q_is_str, q_is_int, q_is_bool, q_is_list, q_isR, ofS_inj, String.reduceEq, q_eqI, q_neI, q_eqS, q_neS, decide_true, decide_false, Int.reduceEq, reduceCtorEq, i_NoneType_tuple, i_NoneType_str, i_NoneType_int, i_NoneType_bool, i_NoneType_list, i_bool_tuple, i_bool_str, i_bool_int, i_bool_bool, i_bool_list, i_int_tuple, i_int_str, i_int_int, i_int_bool, i_int_list, i_str_tuple, i_str_str, i_str_int, i_str_bool, i_str_list, i_tuple_tuple, i_tuple_str, i_tuple_int, i_tuple_bool, i_tuple_list, i_list_tuple, i_list_str, i_list_int, i_list_bool, i_list_list, i_dict_tuple, i_dict_str, i_dict_int, i_dict_bool, i_dict_list, tyN, startD, mupd_same, mupd_ne, ne_eq, not_false_eq_true, List.map_cons, List.map_nil, List.length_cons, List.length_nil, List.replicate_succ, List.replicate_zero, Nat.zero_add, Nat.reduceAdd, Nat.reduceSub, Int.cast_ofNat_Int, List.cons_append, List.nil_append, List.getElem?_cons_zero, List.getElem?_cons_succ, List.set_cons_zero, List.set_cons_succ, opIx, atI_cons, ixN, opPut, opAdd, opSub, opMul, opFdiv, opMod, opPow, opLt, opLe, opGt, opGe, opIs, opIsNot, D.isNon, truth, bLen, bAbs, bInt, bTuple, bList, isTy, mAppend, mExtend, mPop, Int.reduceLE, Int.reduceLT, Int.reduceToNat, Int.reduceNeg, Int.reduceNe, Option.bind_some, if_true, if_false, ite_true, ite_false, true_and, and_true, Bool.not_true, Bool.not_false, opIadd, Nat.reduceLT, Nat.reduceLeDiff, Int.ofNat_lt, s_dpNil, s_dpCons, s_dpK1, s_dpK2, s_dpK3, s_disp, s_dispK, s_optKV, kvOf, s_dc, s_dcK, s_keys, s_lockK, s_sortIt, mGet, mDPop, dgetR, bDictC, bTupC, opEqD, opNeD, eqDR, D.key, merge_one, optKV, id, opEqL, opNeL, eqLR, $ls,*])
theorem foot_app {p le lb : Addr} {zs : Zs} {z : Addr × Addr × Blk} : foot p le lb (zs ++ [z]) = foot p le lb zs ++ [z.1, z.2.1] := by simp [foot, adr]
theorem PrAt.top {CP CB : Addr} {M M' : Mem} {p le lb b r r' : Addr} {zs : Zs} {k k' : Blk} {st : Hd} (h : PrAt CP CB M p le lb (zs ++ [(b, r, k)]) st) (kk : Keep [b, r] M M') (hb : BlkAt CB M' (b, r', k')) (hr : r' = r ∨ r' ∉ foot p le lb (zs ++ [(b, r, k)])) : PrAt CP CB M' p le lb (zs ++ [(b, r', k')]) st := by
  have nd := h.nd
  rw [show p :: le :: lb :: adr (zs ++ [(b, r, k)]) = foot p le lb zs ++ [b, r] from foot_app] at nd
  obtain ⟨n1, n2, n3⟩ := List.nodup_append.mp nd
  have nb : ∀ a ∈ foot p le lb zs, a ∉ [b, r] := fun a ha z => n3 a ha a z rfl
  refine ⟨kk _ _ h.hp (nb _ (by simp [foot])), kk _ _ h.he (nb _ (by simp [foot])), ?_, fun z hz => ?_, ?_⟩
  · rw [kk _ _ h.hb (nb _ (by simp [foot]))]
    simp
  · rcases List.mem_append.mp hz with q | q
    · exact (h.hz z (List.mem_append_left _ q)).keep kk (nb _ (by simp [foot, (adr_mem q).1])) (nb _ (by simp [foot, (adr_mem q).2]))
    · rw [List.mem_singleton.mp q]; exact hb
  · show (p :: le :: lb :: adr (zs ++ [(b, r', k')])).Nodup
    rw [show p :: le :: lb :: adr (zs ++ [(b, r', k')]) = foot p le lb zs ++ [b, r'] from foot_app]
    rcases hr with rfl | hr
    · exact nd
    · rw [foot_app] at hr
      simp only [List.mem_append, not_or, List.mem_cons, List.not_mem_nil, or_false] at hr
      refine List.nodup_append.mpr ⟨n1, by simpa using Ne.symm hr.2.1, fun a ha b' hb' => ?_⟩
      rcases List.mem_cons.mp hb' with e | e
      · rw [e]; exact n3 a ha b (by simp)
      · rw [List.mem_singleton.mp e]; rintro rfl; exact hr.1 ha
theorem PrAt.push {CP CB : Addr} {M : Mem} {p le lb : Addr} {zs : Zs} {z : Addr × Addr × Blk} {st : Hd} (h : PrAt CP CB M p le lb zs st) (hz : BlkAt CB M z) (h1 : z.1 ∉ foot p le lb zs) (h2 : z.2.1 ∉ foot p le lb zs) (h3 : z.1 ≠ z.2.1) : PrAt CP CB (mupd M lb (.lst ((zs.map fun z => .ob z.1) ++ [.ob z.1]))) p le lb (zs ++ [z]) st := by
  have nd : (foot p le lb zs).Nodup := h.nd
  obtain ⟨u1, u2, u3⟩ : p ≠ lb ∧ le ≠ lb ∧ lb ∉ adr zs := by
    have a1 := (List.nodup_cons.mp nd).1
    have a2 := (List.nodup_cons.mp (List.nodup_cons.mp nd).2).1
    have a3 := (List.nodup_cons.mp (List.nodup_cons.mp (List.nodup_cons.mp nd).2).2).1
    exact ⟨fun z => a1 (by simp [z]), fun z => a2 (by simp [z]), a3⟩
  refine ⟨by rw [mupd_ne u1]; exact h.hp, by rw [mupd_ne u2]; exact h.he, by rw [mupd_same]; simp, fun y hy => ?_, ?_⟩
  · rcases List.mem_append.mp hy with q | q
    · exact (h.hz y q).keep (S := [lb]) (Keep.put (by simp)) (by simp; rintro rfl; exact u3 (adr_mem q).1) (by simp; rintro rfl; exact u3 (adr_mem q).2)
    · rw [List.mem_singleton.mp q]
      exact hz.keep (S := [lb]) (Keep.put (by simp)) (by simp; intro e; exact h1 (by simp [foot, e])) (by simp; intro e; exact h2 (by simp [foot, e]))
  · rw [show p :: le :: lb :: adr (zs ++ [z]) = foot p le lb zs ++ [z.1, z.2.1] from foot_app]
    refine List.nodup_append.mpr ⟨nd, by simpa using h3, fun a ha b' hb' => ?_⟩
    rcases List.mem_cons.mp hb' with e | e
    · rw [e]; rintro rfl; exact h1 ha
    · rw [List.mem_singleton.mp e]; rintro rfl; exact h2 ha
theorem PrAt.pop {CP CB : Addr} {M : Mem} {p le lb : Addr} {zs : Zs} {z : Addr × Addr × Blk} {st : Hd} (h : PrAt CP CB M p le lb (zs ++ [z]) st) : PrAt CP CB (mupd M lb (.lst (zs.map fun z => .ob z.1))) p le lb zs st ∧ BlkAt CB (mupd M lb (.lst (zs.map fun z => .ob z.1))) z := by
  have nd := h.nd
  rw [show p :: le :: lb :: adr (zs ++ [z]) = foot p le lb zs ++ [z.1, z.2.1] from foot_app] at nd
  obtain ⟨n1, n2, n3⟩ := List.nodup_append.mp nd
  obtain ⟨u1, u2, u3⟩ : p ≠ lb ∧ le ≠ lb ∧ lb ∉ adr zs := by
    have a1 := (List.nodup_cons.mp n1).1
    have a2 := (List.nodup_cons.mp (List.nodup_cons.mp n1).2).1
    have a3 := (List.nodup_cons.mp (List.nodup_cons.mp (List.nodup_cons.mp n1).2).2).1
    exact ⟨fun z => a1 (by simp [z]), fun z => a2 (by simp [z]), a3⟩
  have hl : lb ∈ foot p le lb zs := by simp [foot]
  refine ⟨⟨by rw [mupd_ne u1]; exact h.hp, by rw [mupd_ne u2]; exact h.he, mupd_same, fun y q => ?_, n1⟩, ?_⟩
  · exact (h.hz y (List.mem_append_left _ q)).keep (S := [lb]) (Keep.put (by simp)) (by simp; rintro rfl; exact u3 (adr_mem q).1) (by simp; rintro rfl; exact u3 (adr_mem q).2)
  · exact (h.hz z (by simp)).keep (S := [lb]) (Keep.put (by simp)) (by simp; exact (n3 _ hl _ (by simp)).symm) (by simp; exact (n3 _ hl _ (by simp)).symm)
/-- a line within a procedure -/
inductive LineT : Hd → List Blk → List Str → Hd → List Blk → Prop
  | head {st st' : Hd} {bs : List Blk} {l : List Str} : LineH st l st' → LineT st bs l st' bs
  | opn {st : Hd} {bs : List Blk} (kw : Str) (s : Bool) (a b : Str) : kw = wIf ∨ kw = wWhile → PlaceOk a → PlaceOk b → bs.length ≤ 30 → LineT st bs [kw, a, opT s, b] { st with stage := 4 } (bs ++ [⟨kw, testD s a b, .tup [], []⟩])
  | els {st : Hd} {bs : List Blk} {t f : D} {rows : List D} : LineT st (bs ++ [⟨wIf, t, f, rows⟩]) [wElse] { st with stage := 4 } (bs ++ [⟨wElse, t, .tup rows, []⟩])
  | sim {st : Hd} {bs : List Blk} {b : Blk} (s : Sim) : s.Ok → b.rows.length ≤ 1000 → LineT st (bs ++ [b]) (s.word :: s.tail) { st with stage := 4 } (bs ++ [{ b with rows := b.rows ++ [s.enc] }])
def sp_ptake (CC CP CB : Addr) : DSp := fun ds M Q E => ∃ (p le lb c t : Addr) (zs : Zs) (st st' : Hd) (bs' : List Blk) (w : Str) (rest : List Str), ds = [.ob p, .str w, .ob c] ∧ PrAt CP CB M p le lb zs st ∧ CurAt CC M c t rest ∧ c ∉ foot p le lb zs ∧ t ∉ foot p le lb zs ∧
  LineT st (zs.map (·.2.2)) (w :: rest) st' bs' ∧ ∀ M' zs', zs'.map (·.2.2) = bs' → PrAt CP CB M' p le lb zs' st' → CurAt CC M' c t [] → Keep (c :: foot p le lb zs) M M' → (∀ a ∈ adr zs', a ∈ adr zs ∨ M a = none) → Q .non M'
theorem mono_ptake {CC CP CB : Addr} : MonoSp (sp_ptake CC CP CB) := by
  rintro ds M Q Q' E E' hQ hE ⟨p, le, lb, c, t, zs, st, st', bs', w, rest, h1, h2, h3, h4, h5, h6, h⟩
  exact ⟨p, le, lb, c, t, zs, st, st', bs', w, rest, h1, h2, h3, h4, h5, h6, fun M' zs' z1 z2 z3 z4 z5 => hQ _ _ (h M' zs' z1 z2 z3 z4 z5)⟩
theorem map_snoc {α β : Type} {f : α → β} {l : List α} {bs : List β} {b : β} (h : l.map f = bs ++ [b]) : ∃ l' x, l = l' ++ [x] ∧ l'.map f = bs ∧ f x = b := by
  obtain ⟨l1, l2, rfl, h1, h2⟩ := List.map_eq_append_iff.mp h
  obtain ⟨x, rfl⟩ : ∃ x, l2 = [x] := by
    have := congrArg List.length h2
    rw [List.length_map] at this
    exact List.length_eq_one_iff.mp this
  exact ⟨l1, x, rfl, h1, by simpa using h2⟩
theorem not_head {w : Str} (h : w = wIf ∨ w = wWhile ∨ w = wElse ∨ ∃ s : Sim, w = s.word) : ¬ headW w := by
  have : ∀ w ∈ [wIf, wWhile, wElse, Str.ofString "set", Str.ofString "new", Str.ofString "free", Str.ofString "call"], ¬ headW w := by
    unfold headW
    decide +kernel
  rcases h with rfl | rfl | rfl | ⟨s, rfl⟩
  · exact this _ (by simp)
  · exact this _ (by simp)
  · exact this _ (by simp)
  · cases s <;> exact this _ (by simp [Sim.word])
theorem sim_word (s : Sim) : s.word ∉ [wIf, wWhile] ∧ s.word ≠ wElse ∧ s.word ≠ wEnd := by
  have : ∀ w ∈ [Str.ofString "set", Str.ofString "new", Str.ofString "free", Str.ofString "call"], w ∉ [wIf, wWhile] ∧ w ≠ wElse ∧ w ≠ wEnd := by decide +kernel
  cases s <;> exact this _ (by simp [Sim.word])
theorem fn_ptake (S0 : MSrc K C_ProcReader "take" "ProcReader.take" s_ProcReader_take ["self", "word", "cursor"] []) (G : GF K mg C_Cursor C_Block C_ProcReader C_Reader v_proc_name) (M_ProcReader_head : MFn P w K mg base 7 C_ProcReader "head" (sp_head C_Cursor C_ProcReader C_Block) []) (K_Block : KFn P w K mg base 1 "Block" C_Block (sp_binit C_Block)) (F_read_test : Fn P w K mg base 5 "read_test" (sp_test C_Cursor) [])
    (F_read_simple : Fn P w K mg base 6 "read_simple" (sp_simple C_Cursor) []) : MFn P w K mg base 8 C_ProcReader "take" (sp_ptake C_Cursor C_ProcReader C_Block) [] := by
  refine S0.fn mono_ptake fun g fd F => def_ok F sc_ProcReader_take (fun ds M Q E h => by obtain ⟨p, le, lb, c, t, zs, st, st', bs', w, rest, rfl, _⟩ := h; rfl) ⟨_, fun cdv A outer s H E hr => have hu := hr.u200
    (xss_cons (xs_if (xt_val (xe_meth M_ProcReader_head G.T_ProcReader (hr.mono (by first | decide | omega)) bx_takes (xe_var 0) (xa_cons (xe_var 1) (xa_cons (xe_var 2) xa_nil))))
 (xss_one xs_retN)
 xss_nil)
 (xss_cons (xs_fput G.T_ProcReader xe_int (xe_var 0))
 (xss_one (xs_if (xt_cmp (x_in hu) (xe_var 1) (xe_tup (n := 2) (xa_cons xe_str (xa_cons xe_str xa_nil))) rfl bl_in)
 (xss_cons (xs_if (xt_cmp x_gt (xe_callB c_len (by rfl) G.len (by decide +kernel) (xa_cons (xe_fld G.T_ProcReader (xe_var 0)) xa_nil)) (xe_globE (by rfl) G.MOST_OPEN) (nomark _) bl_gt)
 (xss_one xs_dead)
 xss_nil)
 (xss_one (xs_expr (xe_bm PySem.F.plainAttrs_list PySem.F.slot_list_append PySem.F.type_list_append m_append (xe_fld G.T_ProcReader (xe_var 0)) (xa_cons (xe_make K_Block (hr.mono (by first | decide | omega)) (by rfl) (xa_cons (xe_var 1) (xa_cons (xe_call F_read_test (hr.mono (by first | decide | omega)) bx_takes (by rfl) (xa_cons (xe_var 2) xa_nil)) xa_nil))) xa_nil)))))
 (xss_one (xs_if (xt_cmp (x_eq hu) (xe_var 1) xe_str (nomark _) bl_eq)
 (xss_cons (xs_set 3 sc_ProcReader_take.nd (xe_ix hu (xe_fld G.T_ProcReader (xe_var 0)) (xe_neg xe_int)))
 (xss_cons (xs_if (xt_cmp (x_ne hu) (xe_fld G.T_Block (xe_var 3)) xe_str (nomark _) bl_ne)
 (xss_one xs_dead)
 xss_nil)
 (xss_cons (xs_fput G.T_Block xe_str (xe_var 3))
 (xss_cons (xs_fput G.T_Block (xe_callTy c_tuple (by rfl) G.tuple (by decide +kernel) (xa_cons (xe_fld G.T_Block (xe_var 3)) xa_nil)) (xe_var 3))
 (xss_one (xs_fput G.T_Block (xe_lst (n := 0) xa_nil) (xe_var 3)))))))
 (xss_one (xs_expr (xe_bm PySem.F.plainAttrs_list PySem.F.slot_list_append PySem.F.type_list_append m_append (xe_fld G.T_Block (xe_ix hu (xe_fld G.T_ProcReader (xe_var 0)) (xe_neg xe_int))) (xa_cons (xe_call F_read_simple (hr.mono (by first | decide | omega)) bx_takes (by rfl) (xa_cons (xe_var 1) (xa_cons (xe_var 2) xa_nil))) xa_nil)))))))))), fun ds M Q E h => ?_⟩
  obtain ⟨p, le, lb, c, t, zs, st, st', bs', w, rest, rfl, hp, hc, hcf, htf, hl, h⟩ := h
  have sz : (16777216 : Nat) = sizeLine := sizeLine_eq.symm
  have ip := hp.hp
  unfold insP at ip
  have iw : ∀ (x : Str) (M : Mem) (Q : DK), (opIn (.str x) (.tup [.str wIf, .str wWhile]) M).run M Q = Q (.bl (decide (x ∈ [wIf, wWhile]))) M := fun x M Q => in_tupS (fs := [wIf, wWhile])
  have hcp : c ≠ p := fun z => hcf (by simp [foot, z])
  have htp : t ≠ p := fun z => htf (by simp [foot, z])
  generalize hb0 : zs.map (·.2.2) = bs at hl
  generalize hl0 : w :: rest = l0 at hl
  cases hl with
  | head hl =>
    subst hl0
    simp! [ip]
    refine ⟨p, le, lb, c, t, zs, st, w, rest, rfl, hp, hc, hcf, htf, .inr ⟨st', hl, fun M1 p1 c1 k1 => ?_⟩⟩
    simp! []
    exact h M1 zs hb0 p1 c1 k1 fun a ha => .inl ha
  | opn kw s a b hkw ha hb hlen =>
    cases hl0
    have hm : w ∈ [wIf, wWhile] := by rcases hkw with rfl | rfl <;> simp
    simp! [ip]
    refine ⟨p, le, lb, c, t, zs, st, w, _, rfl, hp, hc, hcf, htf, .inl ⟨not_head (by rcases hkw with e | e <;> simp [e]), ?_⟩⟩
    have p1 := hp.setP { st with stage := 4 } rfl
    have b1 := p1.hb
    have c1 : CurAt C_Cursor (mupd M p (.ins C_ProcReader (insP { st with stage := 4 } le lb))) c t [a, opT s, b] := hc.keep (S := [p]) (Keep.put (by simp)) (by simpa using hcp) (by simpa using htp)
    have k1 : Keep [p] M (mupd M p (.ins C_ProcReader (insP { st with stage := 4 } le lb))) := Keep.put (by simp)
    have i1 := p1.hp
    unfold insP at i1 b1 c1 k1 p1
    simp! [ip, iw, hm]
    generalize mupd M p _ = M1 at i1 b1 c1 k1 p1 ⊢
    have hzl : zs.length ≤ 30 := by rw [← hb0, List.length_map] at hlen; exact hlen
    simp! [i1, b1, List.length_map]
    refine bif_dec (fun z => absurd z (by omega)) fun _ => ?_
    simp! [i1, b1]
    refine ⟨c, t, s, a, b, [], rfl, c1, ha, hb, fun M2 c2 k2 => ?_⟩
    simp! []
    intro x hx
    have kf : ∀ {M1 M2 : Mem}, Keep [c] M1 M2 → PrAt C_ProcReader C_Block M1 p le lb zs { st with stage := 4 } → PrAt C_ProcReader C_Block M2 p le lb zs { st with stage := 4 } := fun k q => q.keep k fun a ha z => hcf (by simp only [List.mem_singleton] at z; rw [← z]; exact ha)
    have p2 := kf k2 p1
    refine ⟨x, _, _, rfl, mupd_same, fun r M3 hb3 hr3 k3 => ?_⟩
    simp! []
    obtain ⟨rx, r2⟩ : r ≠ x ∧ M2 r = none := mupd_none ▸ hr3
    have fresh : ∀ y, M2 y = none → y ∉ foot p le lb zs := fun y hy hm => by
      have := p2
      simp only [foot, List.mem_cons] at hm
      rcases hm with rfl | rfl | rfl | hm
      · rw [this.hp] at hy; cases hy
      · rw [this.he] at hy; cases hy
      · rw [this.hb] at hy; cases hy
      · obtain ⟨z, hz, hm⟩ := List.mem_flatMap.mp hm
        simp only [List.mem_cons, List.not_mem_nil, or_false] at hm
        rcases hm with rfl | rfl
        · rw [(this.hz z hz).i] at hy; cases hy
        · rw [(this.hz z hz).r] at hy; cases hy
    have fx := fresh x hx
    have fr := fresh r r2
    have k23 : Keep [] M2 M3 := ((Keep.new (S := [x]) hx).trans k3).drop hx
    have p3 : PrAt C_ProcReader C_Block M3 p le lb zs { st with stage := 4 } := p2.keep k23 (by simp)
    have b3 := p3.hb
    simp! [b3, List.length_map]
    refine ⟨by rw [← sz]; omega, ?_⟩
    have hcl : c ≠ lb := fun z => hcf (by simp [foot, z])
    have htl : t ≠ lb := fun z => htf (by simp [foot, z])
    refine h _ (zs ++ [(x, r, ⟨w, testD s a b, .tup [], []⟩)]) (by simp [hb0]) (p3.push hb3 fx fr rx.symm) ((c2.keep k23).keep (S := [lb]) (Keep.put (by simp)) (by simpa using hcl) (by simpa using htl)) ?_ ?_
    · exact (((k1.weaken (by simp [foot])).trans (k2.weaken (by simp))).trans (k23.weaken (by simp))).trans (Keep.put (by simp [foot]))
    · intro y hy
      rw [adr_app] at hy
      rcases List.mem_append.mp hy with q | q
      · exact .inl q
      · have back : ∀ y, M2 y = none → y ∉ foot p le lb zs → M y = none := fun y hy hn => by
          cases e : M y with
          | none => rfl
          | some o =>
            have e1 := k1 _ _ e (by simp only [List.mem_singleton]; rintro rfl; exact hn (by simp [foot]))
            have hyc : y ≠ c := fun z => by
              obtain ⟨o, ho⟩ := c2.there.1
              rw [z, ho] at hy; cases hy
            rw [k2 _ _ e1 (by simpa using hyc)] at hy
            cases hy
        simp only [adr, List.flatMap_cons, List.flatMap_nil, List.append_nil, List.mem_cons, List.not_mem_nil, or_false] at q
        rcases q with rfl | rfl
        · exact .inr (back _ hx fx)
        · exact .inr (back _ r2 fr)
  | @els bs0 tt ff rows =>
    cases hl0
    obtain ⟨zs0, ⟨b, r, k⟩, rfl, hm0, hk⟩ := map_snoc hb0
    have hk : k = ⟨wIf, tt, ff, rows⟩ := hk
    subst hk
    have hm : wElse ∉ [wIf, wWhile] := by decide +kernel
    simp! [ip]
    refine ⟨p, le, lb, c, t, _, st, wElse, [], rfl, hp, hc, hcf, htf, .inl ⟨not_head (by simp), ?_⟩⟩
    have p1 := hp.setP { st with stage := 4 } rfl
    have b1 := p1.hb
    have c1 : CurAt C_Cursor (mupd M p (.ins C_ProcReader (insP { st with stage := 4 } le lb))) c t [] := hc.keep (S := [p]) (Keep.put (by simp)) (by simpa using hcp) (by simpa using htp)
    have k1 : Keep [p] M (mupd M p (.ins C_ProcReader (insP { st with stage := 4 } le lb))) := Keep.put (by simp)
    have i1 := p1.hp
    unfold insP at i1 b1 c1 k1 p1
    simp! [ip, iw, hm]
    generalize mupd M p _ = M1 at i1 b1 c1 k1 p1 ⊢
    have hbk := p1.hz (b, r, ⟨wIf, tt, ff, rows⟩) (by simp)
    have ib := hbk.i
    have ir := hbk.r
    dsimp only [insB] at ib ir
    have hbr : b ≠ r := by rintro rfl; rw [ib] at ir; cases ir
    rw [List.map_append] at b1
    have la : atI (zs0.map (fun z => D.ob z.1) ++ [D.ob b]) (-1) = some (D.ob b) := last_app
    simp! [i1, b1, la, ib, ir, hbr, hbr.symm, mupd_mupd]
    intro r' hr'
    obtain ⟨x1, x2⟩ : r' ≠ b ∧ M1 r' = none := mupd_none ▸ hr'
    simp! [x1, x1.symm, ib, mupd_mupd]
    have kk : ∀ (o1 o2 o3 : Ob), Keep [b, r] M1 (mupd (mupd (mupd M1 b o1) r' o2) b o3) := fun o1 o2 o3 => ((Keep.put (by simp)).trans ((Keep.new (S := [b, r]) (by rw [mupd_ne x1]; exact x2)))).trans (Keep.put (by simp))
    have hft : ∀ a ∈ foot p le lb (zs0 ++ [(b, r, (⟨wIf, tt, ff, rows⟩ : Blk))]), ∃ o, M1 a = some o := fun a ha => by
      simp only [foot, List.mem_cons] at ha
      rcases ha with rfl | rfl | rfl | hm
      · exact ⟨_, p1.hp⟩
      · exact ⟨_, p1.he⟩
      · exact ⟨_, p1.hb⟩
      · obtain ⟨z, hz, hm⟩ := List.mem_flatMap.mp hm
        simp only [List.mem_cons, List.not_mem_nil, or_false] at hm
        rcases hm with rfl | rfl
        · exact ⟨_, (p1.hz z hz).i⟩
        · exact ⟨_, (p1.hz z hz).r⟩
    have hfoot : ∀ a, a ∉ foot p le lb (zs0 ++ [(b, r, (⟨wIf, tt, ff, rows⟩ : Blk))]) → a ∉ [b, r] := fun a ha z => ha (by rw [foot_app]; exact List.mem_append_right _ z)
    refine h _ (zs0 ++ [(b, r', ⟨wElse, tt, .tup rows, []⟩)]) (by simp [hm0]) (p1.top (kk _ _ _) ⟨mupd_same, ?_⟩ (.inr fun z => ?_)) (c1.keep (kk _ _ _) (hfoot _ hcf) (hfoot _ htf)) ((k1.weaken (by simp [foot])).trans ((kk _ _ _).weaken ?_)) ?_
    · rw [mupd_ne x1, mupd_same]
    · obtain ⟨o, ho⟩ := hft _ z
      rw [x2] at ho; cases ho
    · intro a ha
      rw [foot_app]
      exact List.mem_cons_of_mem _ (List.mem_append_right _ ha)
    · intro a ha
      rw [adr_app] at ha ⊢
      rcases List.mem_append.mp ha with q | q
      · exact .inl (List.mem_append_left _ q)
      · simp only [adr, List.flatMap_cons, List.flatMap_nil, List.append_nil, List.mem_cons, List.not_mem_nil, or_false] at q
        rcases q with rfl | rfl
        · exact .inl (List.mem_append_right _ (by simp [adr]))
        · refine .inr ?_
          cases e : M a with
          | none => rfl
          | some o =>
            have hap : a ≠ p := by
              rintro rfl
              rw [i1] at x2; cases x2
            rw [k1 _ _ e (by simpa using hap)] at x2
            cases x2
  | @sim bs0 k0 s hok hrl =>
    cases hl0
    obtain ⟨zs0, ⟨b, r, k⟩, rfl, hm0, hk⟩ := map_snoc hb0
    have hk : k = k0 := hk
    subst hk
    obtain ⟨hm, hse, _⟩ := sim_word s
    simp! [ip]
    refine ⟨p, le, lb, c, t, _, st, s.word, _, rfl, hp, hc, hcf, htf, .inl ⟨not_head (.inr (.inr (.inr ⟨s, rfl⟩))), ?_⟩⟩
    have p1 := hp.setP { st with stage := 4 } rfl
    have b1 := p1.hb
    have c1 : CurAt C_Cursor (mupd M p (.ins C_ProcReader (insP { st with stage := 4 } le lb))) c t s.tail := hc.keep (S := [p]) (Keep.put (by simp)) (by simpa using hcp) (by simpa using htp)
    have k1 : Keep [p] M (mupd M p (.ins C_ProcReader (insP { st with stage := 4 } le lb))) := Keep.put (by simp)
    have i1 := p1.hp
    unfold insP at i1 b1 c1 k1 p1
    simp! [ip, iw, hm, hse]
    generalize mupd M p _ = M1 at i1 b1 c1 k1 p1 ⊢
    have hbk := p1.hz (b, r, k) (by simp)
    have ib := hbk.i
    have ir := hbk.r
    dsimp only [insB] at ib ir
    rw [List.map_append] at b1
    have la : atI (zs0.map (fun z => D.ob z.1) ++ [D.ob b]) (-1) = some (D.ob b) := last_app
    simp! [i1, b1, la, ib, ir]
    refine ⟨c, t, s, [], rfl, by simpa using c1, hok, fun M2 c2 k2 => ?_⟩
    have hfoot : ∀ a, a ∉ foot p le lb (zs0 ++ [(b, r, k)]) → a ∉ [b, r] := fun a ha z => ha (by rw [foot_app]; exact List.mem_append_right _ z)
    have p2 : PrAt C_ProcReader C_Block M2 p le lb (zs0 ++ [(b, r, k)]) { st with stage := 4 } := p1.keep k2 fun a ha z => hcf (by simp only [List.mem_singleton] at z; rw [← z]; exact ha)
    have hb2 := p2.hz (b, r, k) (by simp)
    have ir2 := hb2.r
    dsimp only at ir2
    have hbr : b ≠ r := by rintro rfl; rw [hb2.i] at ir2; cases ir2
    simp! [ir2]
    refine ⟨by rw [← sz]; omega, ?_⟩
    have kk : ∀ o, Keep [b, r] M2 (mupd M2 r o) := fun o => Keep.put (by simp)
    refine h _ (zs0 ++ [(b, r, { k with rows := k.rows ++ [s.enc] })]) (by simp [hm0]) (p2.top (kk _) ⟨by rw [mupd_ne hbr]; exact hb2.i, mupd_same⟩ (.inl rfl)) (c2.keep (kk _) (hfoot _ hcf) (hfoot _ htf)) (((k1.weaken (by simp [foot])).trans (k2.weaken (by simp))).trans ((kk _).weaken ?_)) ?_
    · intro a ha
      rw [foot_app]
      exact List.mem_cons_of_mem _ (List.mem_append_right _ ha)
    · intro a ha
      rw [adr_app] at ha ⊢
      exact .inl ha
end K02

set_option maxHeartbeats 4000000
namespace K02
open PySem PySem.Spec PyProof.Rows L2 PL SX
variable {P : Program} {w : World} {K : PySem.W.Frag} {mg : Str → Option Value} {base : Heap} {C_Cursor C_Block C_ProcReader C_Reader v_proc_name : Addr}
local macro_rules | `(tactic| simp! [$ls,*]) => `(tactic| simp only [s_fld, s_fldK, s_insAt, s_optD, s_obAt, s_fput, s_fputK1, s_fputK2, s_faug, s_faugK1, s_faugK2, s_faugK3, s_meth, s_methK1, s_methK2, s_make, s_makeK, s_makeK2, s_dead, s_tryN, noX_nx, noX_rt, noX_bk, noX_ct, mSplit, opMulS, s_enum, s_enumK, s_sortBy, s_sortByK, look_nil, look_cons, putFD_nil, putFD_cons, List.append_nil, to_nx, to_rt, to_bk, to_ct, to_ex, lp_nx, lp_rt, lp_bk, lp_ct, lp_ex, ret_nx, ret_rt, ret_ex, s_exK, s_bif1, s_bif0, s_optB, s_optE, s_nxD, s_ifK, s_asgN, s_asgT, s_asgL, b_nil, b_nm, b_tp, s_next, s_seq, s_drop, s_ret, s_retN, s_ifS, s_asg, s_brk, s_cont, s_put, s_put1, s_put2, s_put3, s_aug, s_augV, s_augK, s_augK2, s_bin, s_bin1, s_bin2, s_var, s_varK, s_C, s_cb, s_cbK, s_call, s_callK, s_m, s_m1, s_m2, s_nil, s_cons, s_cons1, s_cons2, s_tup, s_tupK, s_lst, s_lstK, s_truth, s_trK, s_tK, s_eK, s_cK, s_and, s_andK, s_or, s_orK, s_not, s_notK, s_ife, s_ifeK, s_andV, s_orV, s_andvK, s_orvK, s_andvK2, s_orvK2, s_notV, s_notvK, s_blK, s_neg, s_negK, s_sl, s_sl1, s_sl2, s_sl3, s_noPart, s_part, s_partK, s_rev, s_revK, s_for, s_forK, s_lc, s_lcK, s_yes, s_walk, s_walkT, s_walkS, s_walkA, s_walkL, s_walkR, s_rng1, s_rng2, s_rng1K, s_rng2K, s_callL, s_callLK, s_callLO, s_clK, s_raise, r_val, r_new, r_put, s_whK, s_lcY, s_lcT, s_lcE, s_cg, s_cgK, s_rng3, s_rng3K, s_lcB, s_lcS, wipeD, Pat.bind, seqOf, rg, s_dict0, s_sortSet, s_sortSetK, q_is_tuple, q_is_str, q_is_int, q_is_bool, q_is_list, q_isR, ofS_inj, String.reduceEq, q_eqI, q_neI, q_eqS, q_neS, decide_true, decide_false, Int.reduceEq, reduceCtorEq, i_NoneType_tuple, i_NoneType_str, i_NoneType_int, i_NoneType_bool, i_NoneType_list, i_bool_tuple, i_bool_str, i_bool_int, i_bool_bool, i_bool_list, i_int_tuple, i_int_str, i_int_int, i_int_bool, i_int_list, i_str_tuple, i_str_str, i_str_int, i_str_bool, i_str_list, i_tuple_tuple, i_tuple_str, i_tuple_int, i_tuple_bool, i_tuple_list, i_list_tuple, i_list_str, i_list_int, i_list_bool, i_list_list, i_dict_tuple, i_dict_str, i_dict_int, i_dict_bool, i_dict_list, tyN, startD, mupd_same, mupd_ne, ne_eq, not_false_eq_true, List.map_cons, List.map_nil, List.length_cons, List.length_nil, List.replicate_succ, List.replicate_zero, Nat.zero_add, Nat.reduceAdd, Nat.reduceSub, Int.cast_ofNat_Int, List.cons_append, List.nil_append, List.getElem?_cons_zero, List.getElem?_cons_succ, List.set_cons_zero, List.set_cons_succ, opIx, atI_cons, ixN, opPut, opAdd, opSub, opMul, opFdiv, opMod, opPow, opLt, opLe, opGt, opGe, opIs, opIsNot, D.isNon, truth, bLen, bAbs, bInt, bTuple, bList, isTy, mAppend, mExtend, mPop, Int.reduceLE, Int.reduceLT, Int.reduceToNat, Int.reduceNeg, Int.reduceNe, Option.bind_some, if_true, if_false, ite_true, ite_false, true_and, and_true, Bool.not_true, Bool.not_false, opIadd, Nat.reduceLT, Nat.reduceLeDiff, Int.ofNat_lt, s_dpNil, s_dpCons, s_dpK1, s_dpK2, s_dpK3, s_disp, s_dispK, s_optKV, kvOf, s_dc, s_dcK, s_keys, s_lockK, s_sortIt, mGet, mDPop, dgetR, bDictC, bTupC, opEqD, opNeD, eqDR, D.key, merge_one, optKV, id, opEqL, opNeL, eqLR, $ls,*])
def procD (st : Hd) (b : Blk) : D := .tup [.str st.name, st.params, st.locals, st.need, .tup st.ens, .tup b.rows]
def sp_close (CP CB : Addr) : DSp := fun ds M Q E => ∃ (p le lb : Addr) (zs : Zs) (st : Hd), ds = [.ob p] ∧ PrAt CP CB M p le lb zs st ∧
  ((∃ zs0 b1 r1 k1 z2, zs = zs0 ++ [(b1, r1, k1)] ++ [z2] ∧ k1.rows.length ≤ 1000 ∧ ∀ M', PrAt CP CB M' p le lb (zs0 ++ [(b1, r1, { k1 with rows := k1.rows ++ [stmtOf z2.2.2] })]) st → Keep (foot p le lb zs) M M' → Q .non M') ∨
   (∃ z, zs = [z] ∧ ∀ M', Keep (foot p le lb zs) M M' → Q (procD st z.2.2) M'))
theorem mono_close {CP CB : Addr} : MonoSp (sp_close CP CB) := by
  rintro ds M Q Q' E E' hQ hE ⟨p, le, lb, zs, st, h1, h2, h⟩
  refine ⟨p, le, lb, zs, st, h1, h2, ?_⟩
  rcases h with ⟨zs0, b1, r1, k1, z2, h3, h4, h⟩ | ⟨z, h3, h⟩
  · exact .inl ⟨zs0, b1, r1, k1, z2, h3, h4, fun M' u1 u2 => hQ _ _ (h M' u1 u2)⟩
  · exact .inr ⟨z, h3, fun M' u1 => hQ _ _ (h M' u1)⟩
theorem get_last {α : Type} {l : List α} {x : α} : (l ++ [x])[(l ++ [x]).length - 1]? = some x := by simp
theorem fn_close (S0 : MSrc K C_ProcReader "close" "ProcReader.close" s_ProcReader_close ["self"] []) (G : GF K mg C_Cursor C_Block C_ProcReader C_Reader v_proc_name) (M_Block_statement : MFn P w K mg base 1 C_Block "statement" (sp_stmt C_Block) []) : MFn P w K mg base 2 C_ProcReader "close" (sp_close C_ProcReader C_Block) [] := by
  refine S0.fn mono_close fun g fd F => def_ok F sc_ProcReader_close (fun ds M Q E h => by obtain ⟨p, le, lb, zs, st, rfl, _⟩ := h; rfl) ⟨_, fun cdv A outer s H E hr => have hu := hr.u200
    (xss_cons (xs_set 1 sc_ProcReader_close.nd (xe_bm0 PySem.F.plainAttrs_list PySem.F.slot_list_pop PySem.F.type_list_pop m_pop (xe_fld G.T_ProcReader (xe_var 0))))
 (xss_cons (xs_if (xt_val (xe_fld G.T_ProcReader (xe_var 0)))
 (xss_cons (xs_expr (xe_bm PySem.F.plainAttrs_list PySem.F.slot_list_append PySem.F.type_list_append m_append (xe_fld G.T_Block (xe_ix hu (xe_fld G.T_ProcReader (xe_var 0)) (xe_neg xe_int))) (xa_cons (xe_meth0 M_Block_statement G.T_Block (hr.mono (by first | decide | omega)) bx_takes (xe_var 1)) xa_nil)))
 (xss_one (xs_ret xe_non)))
 xss_nil)
 (xss_one (xs_ret (xe_tup (n := 6) (xa_cons (xe_fld G.T_ProcReader (xe_var 0)) (xa_cons (xe_fld G.T_ProcReader (xe_var 0)) (xa_cons (xe_fld G.T_ProcReader (xe_var 0)) (xa_cons (xe_fld G.T_ProcReader (xe_var 0)) (xa_cons (xe_callTy c_tuple (by rfl) G.tuple (by decide +kernel) (xa_cons (xe_fld G.T_ProcReader (xe_var 0)) xa_nil)) (xa_cons (xe_callTy c_tuple (by rfl) G.tuple (by decide +kernel) (xa_cons (xe_fld G.T_Block (xe_var 1)) xa_nil)) xa_nil))))))))))), fun ds M Q E h => ?_⟩
  obtain ⟨p, le, lb, zs, st, rfl, hp, h⟩ := h
  have sz : (16777216 : Nat) = sizeLine := sizeLine_eq.symm
  have ip := hp.hp
  unfold insP at ip
  rcases h with ⟨zs0, b1, r1, k1, ⟨b2, r2, k2⟩, rfl, hl, h⟩ | ⟨⟨b, r, k⟩, rfl, h⟩
  · have hb := hp.hb
    rw [List.map_append] at hb
    have gl : ((zs0 ++ [(b1, r1, k1)]).map (fun z => D.ob z.1) ++ [D.ob b2])[((zs0 ++ [(b1, r1, k1)]).map (fun z => D.ob z.1) ++ [D.ob b2]).length - 1]? = some (D.ob b2) := get_last
    have dl : ((zs0 ++ [(b1, r1, k1)]).map (fun z => D.ob z.1) ++ [D.ob b2]).dropLast = (zs0 ++ [(b1, r1, k1)]).map fun z => D.ob z.1 := List.dropLast_concat
    simp! [ip, hb, gl, dl]
    obtain ⟨p1, z1⟩ := hp.pop
    have k1' : Keep (foot p le lb (zs0 ++ [(b1, r1, k1)] ++ [(b2, r2, k2)])) M (mupd M lb (.lst ((zs0 ++ [(b1, r1, k1)]).map fun z => D.ob z.1))) := Keep.put (by simp [foot])
    have hb1 := p1.hb
    have ip1 := p1.hp
    unfold insP at ip1
    generalize mupd M lb _ = M1 at p1 z1 k1' hb1 ip1 ⊢
    rw [List.map_append] at hb1
    have ne : ((zs0.map fun z => D.ob z.1) ++ [D.ob b1]).isEmpty = false := by simp
    have la : atI (zs0.map (fun z => D.ob z.1) ++ [D.ob b1]) (-1) = some (D.ob b1) := last_app
    have q1 := p1.hz (b1, r1, k1) (by simp)
    have ib := q1.i
    have ir := q1.r
    dsimp only [insB] at ib ir
    have hbr : b1 ≠ r1 := by rintro rfl; rw [ib] at ir; cases ir
    have ib2 := z1.i
    dsimp only [insB] at ib2
    simp! [ip1, hb1, ne, la, ib, ir, ib2]
    refine ⟨(b2, r2, k2), rfl, z1, ?_⟩
    simp! [ir]
    refine ⟨by rw [← sz]; omega, ?_⟩
    have kk : ∀ o, Keep [b1, r1] M1 (mupd M1 r1 o) := fun o => Keep.put (by simp)
    refine h _ (p1.top (kk _) ⟨by rw [mupd_ne hbr]; exact q1.i, mupd_same⟩ (.inl rfl)) (k1'.trans ((kk _).weaken fun a ha => ?_))
    rw [foot_app, foot_app]
    exact List.mem_append_left _ (List.mem_append_right _ ha)
  · have hb := hp.hb
    simp! [ip, hb]
    obtain ⟨p1, z1⟩ := PrAt.pop (zs := []) (z := (b, r, k)) hp
    have k1' : Keep (foot p le lb [(b, r, k)]) M (mupd M lb (.lst [])) := Keep.put (by simp [foot])
    have hb1 := p1.hb
    have ip1 := p1.hp
    have ie1 := p1.he
    have ib := z1.i
    have ir := z1.r
    dsimp only [insB, List.map_nil] at ib ir hb1
    unfold insP at ip1
    simp only [List.map_nil] at ip1 hb1 ie1 ib ir
    have gl : ([D.ob b] : List D)[0]? = some (D.ob b) := rfl
    simp! [List.dropLast, gl]
    generalize mupd M lb (.lst []) = M1 at k1' hb1 ip1 ie1 ib ir ⊢
    simp! [ip1, hb1, ie1, ib, ir, List.isEmpty_nil]
    exact h _ k1'
/-! the reader -/
structure NowA where
  p : Addr
  le : Addr
  lb : Addr
  zs : Zs
  st : Hd
def nowD : Option NowA → D
  | none => .non
  | some n => .ob n.p
def nowF : Option NowA → List Addr
  | none => []
  | some n => foot n.p n.le n.lb n.zs
def nowS (n : Option NowA) : Option (Hd × List Blk) := n.map fun n => (n.st, n.zs.map (·.2.2))
def nowAt (CP CB : Addr) (M : Mem) : Option NowA → Prop
  | none => True
  | some n => PrAt CP CB M n.p n.le n.lb n.zs n.st
structure RdAt (CR CP CB : Addr) (M : Mem) (r lp : Addr) (ps : List D) (n : Option NowA) : Prop where
  hr : M r = some (.ins CR [("procs", .ob lp), ("now", nowD n)])
  hl : M lp = some (.lst ps)
  hn : nowAt CP CB M n
  nd : (r :: lp :: nowF n).Nodup
def sp_rinit (CR CP CB : Addr) : DSp := fun ds M Q E => ∃ (r : Addr), ds = [.ob r] ∧ M r = some (.ins CR []) ∧ ∀ lp M', RdAt CR CP CB M' r lp [] none → M lp = none → Keep [r] M M' → Q .non M'
theorem mono_rinit {CR CP CB : Addr} : MonoSp (sp_rinit CR CP CB) := by
  rintro ds M Q Q' E E' hQ hE ⟨r, h1, h2, h⟩
  exact ⟨r, h1, h2, fun lp M' z1 z2 z3 => hQ _ _ (h lp M' z1 z2 z3)⟩
theorem fn_rinit (S0 : KSrc K mg "Reader" C_Reader "Reader.__init__" s_Reader___init__ ["self"]) (G : GF K mg C_Cursor C_Block C_ProcReader C_Reader v_proc_name) : KFn P w K mg base 1 "Reader" C_Reader (sp_rinit C_Reader C_ProcReader C_Block) := by
  refine S0.fn mono_rinit fun g fd F => def_ok F sc_Reader___init__ (fun ds M Q E h => by obtain ⟨r, rfl, _⟩ := h; rfl) ⟨_, fun cdv A outer s H E hr => have hu := hr.u200
    (xss_cons (xs_fput G.T_Reader (xe_lst (n := 0) xa_nil) (xe_var 0))
 (xss_one (xs_fput G.T_Reader xe_non (xe_var 0)))), fun ds M Q E h => ?_⟩
  obtain ⟨r, rfl, hr, h⟩ := h
  simp! [hr]
  intro l hl
  have n1 : l ≠ r := by rintro rfl; rw [hr] at hl; cases hl
  simp! [n1.symm, hr, mupd_mupd]
  refine h l _ ⟨mupd_same, by simp [mupd, n1], trivial, by simp [nowF, n1.symm]⟩ hl ?_
  have : Keep [r] M (mupd M l (.lst [])) := Keep.new hl
  exact (this.trans (Keep.put (by simp))).trans (Keep.refl)
/-- a line of a text -/
inductive LineR : List D → Option (Hd × List Blk) → List Str → List D → Option (Hd × List Blk) → Prop
  | new {ps : List D} (name : Str) (params : List Str) : NameOk name → (∀ x ∈ params, NameOk x) → params.length ≤ 100 → LineR ps none (wProc :: name :: tL :: (listed params ++ [tR])) ps (some (hd0 name (.tup (params.map D.str)), [blk0]))
  | mid {ps : List D} {st st' : Hd} {bs bs' : List Blk} {w : Str} {l : List Str} : LineT st bs (w :: l) st' bs' → w ≠ wEnd → LineR ps (some (st, bs)) (w :: l) ps (some (st', bs'))
  | cls {ps : List D} {st : Hd} {bs : List Blk} {b1 b2 : Blk} : b1.rows.length ≤ 1000 → LineR ps (some (st, bs ++ [b1] ++ [b2])) [wEnd] ps (some (st, bs ++ [{ b1 with rows := b1.rows ++ [stmtOf b2] }]))
  | fin {ps : List D} {st : Hd} {b : Blk} : ps.length ≤ 1000 → LineR ps (some (st, [b])) [wEnd] (ps ++ [procD st b]) none
def sp_line (CR CP CB : Addr) : DSp := fun ds M Q E => ∃ (r lp t : Addr) (ps ps' : List D) (n : Option NowA) (n' : Option (Hd × List Blk)) (ts : List Str), ds = [.ob r, .ob t] ∧ RdAt CR CP CB M r lp ps n ∧ M t = some (.lst (ts.map D.str)) ∧ ts.length ≤ 1000 ∧ (∀ x ∈ ts, x ≠ e0) ∧ t ∉ r :: lp :: nowF n ∧
  LineR ps (nowS n) ts ps' n' ∧ ∀ M' nA, nowS nA = n' → RdAt CR CP CB M' r lp ps' nA → Keep (r :: lp :: nowF n) M M' → (∀ a ∈ nowF nA, a ∈ nowF n ∨ M a = none) → Q .non M'
theorem mono_line {CR CP CB : Addr} : MonoSp (sp_line CR CP CB) := by
  rintro ds M Q Q' E E' hQ hE ⟨r, lp, t, ps, ps', n, n', ts, h1, h2, h3, h4, h5, h6, h7, h⟩
  exact ⟨r, lp, t, ps, ps', n, n', ts, h1, h2, h3, h4, h5, h6, h7, fun M' nA z1 z2 z3 z4 => hQ _ _ (h M' nA z1 z2 z3 z4)⟩
end K02

set_option maxHeartbeats 4000000
namespace K02
open PySem PySem.Spec PyProof.Rows L2 PL SX
variable {P : Program} {w : World} {K : PySem.W.Frag} {mg : Str → Option Value} {base : Heap} {C_Cursor C_Block C_ProcReader C_Reader v_proc_name : Addr}
local macro_rules | `(tactic| simp! [$ls,*]) => `(tactic| simp only [s_fld, s_fldK, s_insAt, s_optD, s_obAt, s_fput, s_fputK1, s_fputK2, s_faug, s_faugK1, s_faugK2, s_faugK3, s_meth, s_methK1, s_methK2, s_make, s_makeK, s_makeK2, s_dead, s_tryN, noX_nx, noX_rt, noX_bk, noX_ct, mSplit, opMulS, s_enum, s_enumK, s_sortBy, s_sortByK, look_nil, look_cons, putFD_nil, putFD_cons, List.append_nil, to_nx, to_rt, to_bk, to_ct, to_ex, lp_nx, lp_rt, lp_bk, lp_ct, lp_ex, ret_nx, ret_rt, ret_ex, s_exK, s_bif1, s_bif0, s_optB, s_optE, s_nxD, s_ifK, s_asgN, s_asgT, s_asgL, b_nil, b_nm, b_tp, s_next, s_seq, s_drop, s_ret, s_retN, s_ifS, s_asg, s_brk, s_cont, s_put, s_put1, s_put2, s_put3, s_aug, s_augV, s_augK, s_augK2, s_bin, s_bin1, s_bin2, s_var, s_varK, s_C, s_cb, s_cbK, s_call, s_callK, s_m, s_m1, s_m2, s_nil, s_cons, s_cons1, s_cons2, s_tup, s_tupK, s_lst, s_lstK, s_truth, s_trK, s_tK, s_eK, s_cK, s_and, s_andK, s_or, s_orK, s_not, s_notK, s_ife, s_ifeK, s_andV, s_orV, s_andvK, s_orvK, s_andvK2, s_orvK2, s_notV, s_notvK, s_blK, s_neg, s_negK, s_sl, s_sl1, s_sl2, s_sl3, s_noPart, s_part, s_partK, s_rev, s_revK, s_for, s_forK, s_lc, s_lcK, s_yes, s_walk, s_walkT, s_walkS, s_walkA, s_walkL, s_walkR, s_rng1, s_rng2, s_rng1K, s_rng2K, s_callL, s_callLK, s_callLO, s_clK, s_raise, r_val, r_new, r_put, s_whK, s_lcY, s_lcT, s_lcE, s_cg, s_cgK, s_rng3, s_rng3K, s_lcB, s_lcS, wipeD, Pat.bind, seqOf, rg, s_dict0, s_sortSet, s_sortSetK, q_is_tuple, q_is_str, q_is_int, q_is_bool, q_is_list, q_isR, ofS_inj, String.reduceEq, q_eqI, q_neI, q_eqS, q_neS, decide_true, decide_false, Int.reduceEq, reduceCtorEq, i_NoneType_tuple, i_NoneType_str, i_NoneType_int, i_NoneType_bool, i_NoneType_list, i_bool_tuple, i_bool_str, i_bool_int, i_bool_bool, i_bool_list, i_int_tuple, i_int_str, i_int_int, i_int_bool, i_int_list, i_str_tuple, i_str_str, i_str_int, i_str_bool, i_str_list, i_tuple_tuple, i_tuple_str, i_tuple_int, i_tuple_bool, i_tuple_list, i_list_tuple, i_list_str, i_list_int, i_list_bool, i_list_list, i_dict_tuple, i_dict_str, i_dict_int, i_dict_bool, i_dict_list, tyN, startD, mupd_same, mupd_ne, ne_eq, not_false_eq_true, List.map_cons, List.map_nil, List.length_cons, List.length_nil, List.replicate_succ, List.replicate_zero, Nat.zero_add, Nat.reduceAdd, Nat.reduceSub, Int.cast_ofNat_Int, List.cons_append, List.nil_append, List.getElem?_cons_zero, List.getElem?_cons_succ, List.set_cons_zero, List.set_cons_succ, opIx, atI_cons, ixN, opPut, opAdd, opSub, opMul, opFdiv, opMod, opPow, opLt, opLe, opGt, opGe, opIs, opIsNot, D.isNon, truth, bLen, bAbs, bInt, bTuple, bList, isTy, mAppend, mExtend, mPop, Int.reduceLE, Int.reduceLT, Int.reduceToNat, Int.reduceNeg, Int.reduceNe, Option.bind_some, if_true, if_false, ite_true, ite_false, true_and, and_true, Bool.not_true, Bool.not_false, opIadd, Nat.reduceLT, Nat.reduceLeDiff, Int.ofNat_lt, s_dpNil, s_dpCons, s_dpK1, s_dpK2, s_dpK3, s_disp, s_dispK, s_optKV, kvOf, s_dc, s_dcK, s_keys, s_lockK, s_sortIt, mGet, mDPop, dgetR, bDictC, bTupC, opEqD, opNeD, eqDR, D.key, merge_one, optKV, id, opEqL, opNeL, eqLR, $ls,*])
theorem RdAt.keep {CR CP CB : Addr} {M M' : Mem} {r lp : Addr} {ps : List D} {n : Option NowA} {S : List Addr} (h : RdAt CR CP CB M r lp ps n) (k : Keep S M M') (hS : ∀ a ∈ r :: lp :: nowF n, a ∉ S) : RdAt CR CP CB M' r lp ps n := by
  refine ⟨k _ _ h.hr (hS _ (by simp)), k _ _ h.hl (hS _ (by simp)), ?_, h.nd⟩
  cases n with
  | none => trivial
  | some n => exact PrAt.keep h.hn k fun a ha => hS a (by simp [nowF]; exact .inr (.inr ha))
theorem PrAt.there {CP CB : Addr} {M : Mem} {p le lb : Addr} {zs : Zs} {st : Hd} (h : PrAt CP CB M p le lb zs st) : ∀ a ∈ foot p le lb zs, ∃ o, M a = some o := by
  intro a ha
  simp only [foot, List.mem_cons] at ha
  rcases ha with rfl | rfl | rfl | hm
  · exact ⟨_, h.hp⟩
  · exact ⟨_, h.he⟩
  · exact ⟨_, h.hb⟩
  · obtain ⟨z, hz, hm⟩ := List.mem_flatMap.mp hm
    simp only [List.mem_cons, List.not_mem_nil, or_false] at hm
    rcases hm with rfl | rfl
    · exact ⟨_, (h.hz z hz).i⟩
    · exact ⟨_, (h.hz z hz).r⟩
theorem RdAt.there {CR CP CB : Addr} {M : Mem} {r lp : Addr} {ps : List D} {n : Option NowA} (h : RdAt CR CP CB M r lp ps n) : ∀ a ∈ r :: lp :: nowF n, ∃ o, M a = some o := by
  intro a ha
  simp only [List.mem_cons] at ha
  rcases ha with rfl | rfl | ha
  · exact ⟨_, h.hr⟩
  · exact ⟨_, h.hl⟩
  · cases n with
    | none => cases ha
    | some n => exact PrAt.there h.hn a ha
theorem Keep.back {S : List Addr} {M M' : Mem} {a : Addr} (k : Keep S M M') (h : M' a = none) (hs : a ∉ S) : M a = none := by
  cases e : M a with
  | none => rfl
  | some o => rw [k _ _ e hs] at h; cases h
theorem fn_line (S0 : MSrc K C_Reader "line" "Reader.line" s_Reader_line ["self", "tokens"] []) (G : GF K mg C_Cursor C_Block C_ProcReader C_Reader v_proc_name) (K_Cursor : KFn P w K mg base 1 "Cursor" C_Cursor (sp_cinit C_Cursor)) (M_Cursor_take : MFn P w K mg base 2 C_Cursor "take" (sp_take C_Cursor) []) (M_Cursor_name : MFn P w K mg base 3 C_Cursor "name" (sp_name C_Cursor) []) (M_Cursor_expect : MFn P w K mg base 3 C_Cursor "expect" (sp_expect C_Cursor) [])
    (M_Cursor_finish : MFn P w K mg base 2 C_Cursor "finish" (sp_finish C_Cursor) []) (K_ProcReader : KFn P w K mg base 3 "ProcReader" C_ProcReader (sp_pinit C_ProcReader C_Block)) (F_read_names : Fn P w K mg base 4 "read_names" (sp_names C_Cursor) [])
    (M_ProcReader_close : MFn P w K mg base 2 C_ProcReader "close" (sp_close C_ProcReader C_Block) []) (M_ProcReader_take : MFn P w K mg base 8 C_ProcReader "take" (sp_ptake C_Cursor C_ProcReader C_Block) []) : MFn P w K mg base 9 C_Reader "line" (sp_line C_Reader C_ProcReader C_Block) [] := by
  refine S0.fn mono_line fun g fd F => def_ok F sc_Reader_line (fun ds M Q E h => by obtain ⟨r, lp, t, ps, ps', n, n', ts, rfl, _⟩ := h; rfl) ⟨_, fun cdv A outer s H E hr => have hu := hr.u200
    (xss_cons (xs_set 2 sc_Reader_line.nd (xe_make K_Cursor (hr.mono (by first | decide | omega)) (by rfl) (xa_cons (xe_var 1) xa_nil)))
 (xss_cons (xs_set 3 sc_Reader_line.nd (xe_meth0 M_Cursor_take G.T_Cursor (hr.mono (by first | decide | omega)) bx_takes (xe_var 2)))
 (xss_cons (xs_if (xt_cmp x_is (xe_fld G.T_Reader (xe_var 0)) xe_non (nomark _) bl_is)
 (xss_cons (xs_if (xt_cmp (x_ne hu) (xe_var 3) xe_str (nomark _) bl_ne)
 (xss_one xs_dead)
 xss_nil)
 (xss_cons (xs_set 4 sc_Reader_line.nd (xe_meth0 M_Cursor_name G.T_Cursor (hr.mono (by first | decide | omega)) bx_takes (xe_var 2)))
 (xss_cons (xs_expr (xe_meth M_Cursor_expect G.T_Cursor (hr.mono (by first | decide | omega)) bx_takes (xe_var 2) (xa_cons xe_str xa_nil)))
 (xss_cons (xs_fput G.T_Reader (xe_make K_ProcReader (hr.mono (by first | decide | omega)) (by rfl) (xa_cons (xe_var 4) (xa_cons (xe_call F_read_names (hr.mono (by first | decide | omega)) bx_takes (by rfl) (xa_cons (xe_var 2) (xa_cons xe_int xa_nil))) xa_nil))) (xe_var 0))
 (xss_one (xs_expr (xe_meth M_Cursor_expect G.T_Cursor (hr.mono (by first | decide | omega)) bx_takes (xe_var 2) (xa_cons xe_str xa_nil))))))))
 (xss_one (xs_if (xt_cmp (x_eq hu) (xe_var 3) xe_str (nomark _) bl_eq)
 (xss_cons (xs_set 5 sc_Reader_line.nd (xe_meth0 M_ProcReader_close G.T_ProcReader (hr.mono (by first | decide | omega)) bx_takes (xe_fld G.T_Reader (xe_var 0))))
 (xss_one (xs_if (xt_cmp x_isnot (xe_var 5) xe_non (nomark _) bl_isnot)
 (xss_cons (xs_expr (xe_bm PySem.F.plainAttrs_list PySem.F.slot_list_append PySem.F.type_list_append m_append (xe_fld G.T_Reader (xe_var 0)) (xa_cons (xe_var 5) xa_nil)))
 (xss_one (xs_fput G.T_Reader xe_non (xe_var 0))))
 xss_nil)))
 (xss_one (xs_expr (xe_meth M_ProcReader_take G.T_ProcReader (hr.mono (by first | decide | omega)) bx_takes (xe_fld G.T_Reader (xe_var 0)) (xa_cons (xe_var 3) (xa_cons (xe_var 2) xa_nil))))))))
 (xss_one (xs_expr (xe_meth0 M_Cursor_finish G.T_Cursor (hr.mono (by first | decide | omega)) bx_takes (xe_var 2))))))), fun ds M Q E h => ?_⟩
  obtain ⟨r, lp, t, ps, ps', n, n', ts, rfl, hr, ht, htl, hte, htf, hl, h⟩ := h
  have sz : (16777216 : Nat) = sizeLine := sizeLine_eq.symm
  simp! []
  intro c hc
  have hct : t ≠ c := by rintro rfl; rw [hc] at ht; cases ht
  have hcf : c ∉ r :: lp :: nowF n := fun z => by
    obtain ⟨o, ho⟩ := hr.there c z
    rw [hc] at ho; cases ho
  refine ⟨c, t, ts, rfl, mupd_same, by rw [mupd_ne hct]; exact ht, htl, hte, fun M1 c1 k1 => ?_⟩
  have j1 : Keep [] M M1 := ((Keep.new (S := [c]) hc).trans k1).drop hc
  have r1 : RdAt C_Reader C_ProcReader C_Block M1 r lp ps n := hr.keep j1 (by simp)
  simp! []
  obtain ⟨pre1, q1, _⟩ := id c1
  obtain ⟨w, rest, ew⟩ : ∃ w rest, ts = w :: rest := by
    generalize nowS n = m at hl
    cases hl <;> exact ⟨_, _, rfl⟩
  subst ew
  simp! [q1]
  refine ⟨c, t, w, rest, rfl, c1, fun M2 c2 k2 => ?_⟩
  have keepR : ∀ {n : Option NowA} {ps} {M1 M2 : Mem}, c ∉ r :: lp :: nowF n → Keep [c] M1 M2 → RdAt C_Reader C_ProcReader C_Block M1 r lp ps n → RdAt C_Reader C_ProcReader C_Block M2 r lp ps n := fun hcf k q => q.keep k fun a ha z => hcf (by rw [← List.mem_singleton.mp z]; exact ha)
  have r2 := keepR hcf k2 r1
  have j2 : Keep [c] M M2 := (j1.weaken (by simp)).trans k2
  have ir2 := r2.hr
  have hrc : r ≠ c := fun z => hcf (by simp [z])
  have hlc : lp ≠ c := fun z => hcf (by simp [z])
  have hrl : r ≠ lp := fun z => (List.nodup_cons.mp hr.nd).1 (by simp [z])
  generalize hn0 : nowS n = n0 at hl
  generalize hts : w :: rest = l0 at hl
  cases hl with
  | new name params hname hpar hlen =>
    cases hts
    have hnn : n = none := by cases n with
      | none => rfl
      | some n => cases hn0
    subst hnn
    simp only [nowD] at ir2
    simp! [ir2]
    obtain ⟨pre2, q2, _⟩ := id c2
    simp! [q2]
    refine ⟨c, t, name, _, rfl, c2, hname, fun M3 c3 k3 => ?_⟩
    obtain ⟨pre3, q3, _⟩ := id c3
    simp! [q3]
    refine ⟨c, t, tL, _, rfl, c3, fun M4 c4 k4 => ?_⟩
    obtain ⟨pre4, q4, _⟩ := id c4
    simp! [q4]
    refine ⟨c, t, 0, params, [tR], rfl, c4, hpar, hlen, by simp; decide +kernel, fun _ => ⟨rfl, rfl⟩, fun M5 c5 k5 => ?_⟩
    have k25 : Keep [c] M2 M5 := (k3.trans k4).trans k5
    have r5 := keepR hcf k25 r2
    have j5 : Keep [c] M M5 := j2.trans k25
    simp! []
    intro p hp
    have hpc : p ≠ c := by obtain ⟨o, ho⟩ := c5.there.1; rintro rfl; rw [hp] at ho; cases ho
    have hpt : p ≠ t := by obtain ⟨o, ho⟩ := c5.there.2; rintro rfl; rw [hp] at ho; cases ho
    have hpr : p ≠ r := by rintro rfl; rw [r5.hr] at hp; cases hp
    have hpl : p ≠ lp := by rintro rfl; rw [r5.hl] at hp; cases hp
    refine ⟨p, name, _, rfl, mupd_same, fun le lb b rr M6 p6 hnew k6 => ?_⟩
    have j56 : Keep [] M5 M6 := ((Keep.new (S := [p]) hp).trans k6).drop hp
    have r6 := r5.keep j56 (by simp)
    have c6 := c5.keep j56
    have ir6 := r6.hr
    simp only [nowD] at ir6
    simp! [ir6]
    have kr : ∀ o, Keep [r] M6 (mupd M6 r o) := fun o => Keep.put (by simp)
    have htr : t ≠ r := fun z => htf (by simp [z])
    have c7 := c6.keep (kr (.ins C_Reader [("procs", .ob lp), ("now", .ob p)])) (by simpa using hrc.symm) (by simpa using htr)
    have fresh6 : ∀ a ∈ foot p le lb [(b, rr, blk0)], M5 a = none := by
      intro a ha
      simp only [foot, adr, List.flatMap_cons, List.flatMap_nil, List.append_nil, List.mem_cons, List.not_mem_nil, or_false] at ha
      rcases ha with rfl | ha
      · exact hp
      · have := hnew a (by simpa using ha)
        exact (mupd_none ▸ this : _ ∧ _).2
    have notR : ∀ a ∈ foot p le lb [(b, rr, blk0)], a ≠ r ∧ a ≠ lp ∧ a ≠ c := fun a ha => by
      have := fresh6 a ha
      refine ⟨?_, ?_, ?_⟩
      · rintro rfl; rw [r5.hr] at this; cases this
      · rintro rfl; rw [r5.hl] at this; cases this
      · rintro rfl
        obtain ⟨o, ho⟩ := c5.there.1
        rw [ho] at this; cases this
    have r7 : RdAt C_Reader C_ProcReader C_Block (mupd M6 r (.ins C_Reader [("procs", .ob lp), ("now", .ob p)])) r lp ps (some ⟨p, le, lb, [(b, rr, blk0)], hd0 name (.tup (params.map D.str))⟩) := by
      refine ⟨mupd_same, by rw [mupd_ne hrl.symm]; exact r6.hl, PrAt.keep p6 (kr _) fun a ha z => (notR a ha).1 (List.mem_singleton.mp z), ?_⟩
      refine List.nodup_cons.mpr ⟨?_, List.nodup_cons.mpr ⟨fun z => (notR _ z).2.1 rfl, p6.nd⟩⟩
      simp only [List.mem_cons, not_or]
      exact ⟨hrl, fun z => (notR _ z).1 rfl⟩
    have k67 := kr (.ins C_Reader [("procs", .ob lp), ("now", .ob p)])
    generalize mupd M6 r _ = M7 at c7 r7 k67 ⊢
    obtain ⟨pre7, q7, _⟩ := id c7
    simp! [q7]
    refine ⟨c, t, tR, _, rfl, c7, fun M8 c8 k8 => ?_⟩
    obtain ⟨pre8, q8, _⟩ := id c8
    simp! [q8]
    refine ⟨c, t, rfl, c8, ?_⟩
    have r8 := keepR (by
      simp only [List.mem_cons, not_or]
      exact ⟨hrc.symm, hlc.symm, fun z => (notR _ z).2.2 rfl⟩) k8 r7
    have kk : Keep [c, r, lp] M M8 := (((j5.weaken (by simp)).trans (j56.weaken (by simp))).trans (k67.weaken (by simp))).trans (k8.weaken (by simp))
    simp! []
    exact h M8 _ rfl r8 (kk.drop hc) fun a ha => .inr (Keep.back j5 (fresh6 a ha) (by simpa using (notR a ha).2.2))
  | @mid st0 st' bs0 bs' w0 l hl hw =>
    cases hts
    obtain ⟨nn, rfl⟩ : ∃ nn, n = some nn := by cases n with
      | none => cases hn0
      | some n => exact ⟨n, rfl⟩
    obtain ⟨p, le, lb, zs, st⟩ := nn
    simp only [nowS, Option.map_some, Option.some.injEq, Prod.mk.injEq] at hn0
    obtain ⟨rfl, rfl⟩ := hn0
    simp only [nowD] at ir2
    have hw' : ¬ w = wEnd := hw
    have p2 : PrAt C_ProcReader C_Block M2 p le lb zs st := r2.hn
    have ip2 := p2.hp
    unfold insP at ip2
    simp! [ir2, hw', ip2]
    have fc : c ∉ foot p le lb zs := fun z => hcf (by simp [nowF, z])
    have ft : t ∉ foot p le lb zs := fun z => htf (by simp [nowF, z])
    refine ⟨p, le, lb, c, t, zs, st, st', bs', w, rest, rfl, p2, c2, fc, ft, hl, fun M3 zs' e3 p3 c3 k3 fr => ?_⟩
    obtain ⟨pre3, q3, _⟩ := id c3
    have ndr := hr.nd
    simp only [nowF] at ndr
    have rf : r ∉ foot p le lb zs := fun z => (List.nodup_cons.mp ndr).1 (List.mem_cons_of_mem _ z)
    have lf : lp ∉ foot p le lb zs := fun z => (List.nodup_cons.mp (List.nodup_cons.mp ndr).2).1 z
    have r3 : RdAt C_Reader C_ProcReader C_Block M3 r lp ps (some ⟨p, le, lb, zs', st'⟩) := by
      have nf : ∀ x, x ∉ foot p le lb zs → (∃ o, M2 x = some o) → x ∉ foot p le lb zs' := fun x hx ⟨o, ho⟩ z => by
        simp only [foot, List.mem_cons] at z hx
        simp only [not_or] at hx
        rcases z with z | z | z | z
        · exact hx.1 z
        · exact hx.2.1 z
        · exact hx.2.2.1 z
        · rcases fr x z with z | z
          · exact hx.2.2.2 z
          · rw [ho] at z; cases z
      refine ⟨k3 _ _ r2.hr (by simp [hrc, rf]), k3 _ _ r2.hl (by simp [hlc, lf]), p3, ?_⟩
      refine List.nodup_cons.mpr ⟨?_, List.nodup_cons.mpr ⟨nf lp lf ⟨_, r2.hl⟩, p3.nd⟩⟩
      simp only [List.mem_cons, not_or]
      exact ⟨hrl, nf r rf ⟨_, r2.hr⟩⟩
    simp! [q3]
    refine ⟨c, t, rfl, c3, ?_⟩
    simp! []
    refine h M3 _ (by simp [nowS, e3]) r3 ?_ fun a ha => ?_
    · have : Keep (c :: r :: lp :: foot p le lb zs) M M3 := (j2.weaken (by simp)).trans (k3.weaken (by intro x; simp only [List.mem_cons]; rintro (z | z) <;> simp [z]))
      exact this.drop hc
    · simp only [nowF, foot, List.mem_cons] at ha ⊢
      rcases ha with z | z | z | z
      · exact .inl (.inl z)
      · exact .inl (.inr (.inl z))
      · exact .inl (.inr (.inr (.inl z)))
      · rcases fr a z with z | z
        · exact .inl (.inr (.inr (.inr z)))
        · refine .inr (Keep.back j2 z ?_)
          simp only [List.mem_singleton]
          rintro rfl
          obtain ⟨o, ho⟩ := c2.there.1
          rw [ho] at z; cases z
  | @cls st0 bs0 b1 b2 hlen =>
    cases hts
    obtain ⟨nn, rfl⟩ : ∃ nn, n = some nn := by cases n with
      | none => cases hn0
      | some n => exact ⟨n, rfl⟩
    obtain ⟨p, le, lb, zs, st⟩ := nn
    simp only [nowS, Option.map_some, Option.some.injEq, Prod.mk.injEq] at hn0
    obtain ⟨rfl, hm⟩ := hn0
    obtain ⟨zs1, ⟨x2, y2, k2'⟩, rfl, hm1, hk2⟩ := map_snoc hm
    obtain ⟨zs0, ⟨x1, y1, k1'⟩, rfl, hm0, hk1⟩ := map_snoc hm1
    have hk1 : k1' = b1 := hk1
    have hk2 : k2' = b2 := hk2
    subst hk1 hk2
    simp only [nowD] at ir2
    have p2 : PrAt C_ProcReader C_Block M2 p le lb (zs0 ++ [(x1, y1, k1')] ++ [(x2, y2, k2')]) st := r2.hn
    have ip2 := p2.hp
    unfold insP at ip2
    simp! [ir2, ip2]
    refine ⟨p, le, lb, _, st, rfl, p2, .inl ⟨zs0, x1, y1, k1', (x2, y2, k2'), rfl, hlen, fun M3 p3 k3 => ?_⟩⟩
    have ndr := hr.nd
    simp only [nowF] at ndr
    have rf : r ∉ foot p le lb (zs0 ++ [(x1, y1, k1')] ++ [(x2, y2, k2')]) := fun z => (List.nodup_cons.mp ndr).1 (List.mem_cons_of_mem _ z)
    have lf : lp ∉ foot p le lb (zs0 ++ [(x1, y1, k1')] ++ [(x2, y2, k2')]) := fun z => (List.nodup_cons.mp (List.nodup_cons.mp ndr).2).1 z
    have fc : c ∉ foot p le lb (zs0 ++ [(x1, y1, k1')] ++ [(x2, y2, k2')]) := fun z => hcf (by simp only [nowF]; simp only [List.mem_cons]; exact .inr (.inr z))
    have ft : t ∉ foot p le lb (zs0 ++ [(x1, y1, k1')] ++ [(x2, y2, k2')]) := fun z => htf (by simp only [nowF]; simp only [List.mem_cons]; exact .inr (.inr z))
    have sub : ∀ k, ∀ a ∈ foot p le lb (zs0 ++ [(x1, y1, k)]), a ∈ foot p le lb (zs0 ++ [(x1, y1, k1')] ++ [(x2, y2, k2')]) := fun k a ha => by
      rw [foot_app] at ha
      rw [foot_app, foot_app]
      exact List.mem_append_left _ ha
    have r3 : RdAt C_Reader C_ProcReader C_Block M3 r lp ps (some ⟨p, le, lb, zs0 ++ [(x1, y1, { k1' with rows := k1'.rows ++ [stmtOf k2'] })], st⟩) := by
      refine ⟨k3 _ _ r2.hr rf, k3 _ _ r2.hl lf, p3, ?_⟩
      refine List.nodup_cons.mpr ⟨?_, List.nodup_cons.mpr ⟨fun z => lf (sub _ _ z), p3.nd⟩⟩
      simp only [List.mem_cons, not_or]
      exact ⟨hrl, fun z => rf (sub _ _ z)⟩
    have c3 := c2.keep k3 fc ft
    obtain ⟨pre3, q3, _⟩ := id c3
    simp! [q3]
    refine ⟨c, t, rfl, c3, ?_⟩
    simp! []
    refine h M3 _ (by simp [nowS, hm0]) r3 ?_ fun a ha => .inl (sub _ a ha)
    have : Keep (c :: r :: lp :: foot p le lb (zs0 ++ [(x1, y1, k1')] ++ [(x2, y2, k2')])) M M3 := (j2.weaken (by simp)).trans (k3.weaken fun a ha => List.mem_cons_of_mem _ (List.mem_cons_of_mem _ (List.mem_cons_of_mem _ ha)))
    exact this.drop hc
  | @fin st0 b hlen =>
    cases hts
    obtain ⟨nn, rfl⟩ : ∃ nn, n = some nn := by cases n with
      | none => cases hn0
      | some n => exact ⟨n, rfl⟩
    obtain ⟨p, le, lb, zs, st⟩ := nn
    simp only [nowS, Option.map_some, Option.some.injEq, Prod.mk.injEq] at hn0
    obtain ⟨rfl, hm⟩ := hn0
    obtain ⟨zs1, ⟨x, y, k⟩, rfl, hm1, hk⟩ := map_snoc (bs := []) hm
    have : zs1 = [] := by simpa using hm1
    subst this
    have hk : k = b := hk
    subst hk
    simp only [nowD] at ir2
    have p2 : PrAt C_ProcReader C_Block M2 p le lb [(x, y, k)] st := r2.hn
    have ip2 := p2.hp
    unfold insP at ip2
    simp! [ir2, ip2]
    refine ⟨p, le, lb, _, st, rfl, p2, .inr ⟨_, rfl, fun M3 k3 => ?_⟩⟩
    have ndr := hr.nd
    simp only [nowF] at ndr
    have rf : r ∉ foot p le lb [(x, y, k)] := fun z => (List.nodup_cons.mp ndr).1 (List.mem_cons_of_mem _ z)
    have lf : lp ∉ foot p le lb [(x, y, k)] := fun z => (List.nodup_cons.mp (List.nodup_cons.mp ndr).2).1 z
    have fc : c ∉ foot p le lb [(x, y, k)] := fun z => hcf (by simp only [nowF]; simp only [List.mem_cons]; exact .inr (.inr z))
    have ft : t ∉ foot p le lb [(x, y, k)] := fun z => htf (by simp only [nowF]; simp only [List.mem_cons]; exact .inr (.inr z))
    have hr3 := k3 _ _ r2.hr rf
    have hl3 := k3 _ _ r2.hl lf
    simp only [nowD] at hr3
    unfold procD at h
    simp! [hr3, hl3, procD]
    refine ⟨by rw [← sz]; omega, ?_⟩
    simp! [hr3, hrl, procD]
    have htr : t ≠ r ∧ t ≠ lp := ⟨fun z => htf (by simp [z]), fun z => htf (by simp [z])⟩
    have kk : ∀ o1 o2, Keep [r, lp] M3 (mupd (mupd M3 lp o1) r o2) := fun o1 o2 => (Keep.put (by simp)).trans (Keep.put (by simp))
    have c3 := (c2.keep k3 fc ft).keep (kk (.lst (ps ++ [procD st k])) (.ins C_Reader [("procs", .ob lp), ("now", .non)])) (by simp [hrc.symm, hlc.symm]) (by simp [htr])
    have r4 : RdAt C_Reader C_ProcReader C_Block (mupd (mupd M3 lp (.lst (ps ++ [procD st k]))) r (.ins C_Reader [("procs", .ob lp), ("now", .non)])) r lp (ps ++ [procD st k]) none := ⟨mupd_same, by rw [mupd_ne hrl.symm, mupd_same], trivial, by simp [nowF, hrl]⟩
    have k4 := kk (.lst (ps ++ [procD st k])) (.ins C_Reader [("procs", .ob lp), ("now", .non)])
    unfold procD at c3 r4 k4
    generalize mupd (mupd M3 lp _) r _ = M4 at c3 r4 k4 ⊢
    obtain ⟨pre3, q3, _⟩ := id c3
    simp! [q3]
    refine ⟨c, t, rfl, c3, ?_⟩
    simp! []
    refine h M4 none rfl r4 ?_ fun a ha => by cases ha
    have : Keep (c :: r :: lp :: foot p le lb [(x, y, k)]) M M4 := ((j2.weaken (by simp)).trans (k3.weaken fun a ha => List.mem_cons_of_mem _ (List.mem_cons_of_mem _ (List.mem_cons_of_mem _ ha)))).trans (k4.weaken (by simp))
    exact this.drop hc
end K02

set_option maxHeartbeats 4000000
namespace K02
open PySem PySem.Spec PyProof.Rows L2 PL SX
variable {P : Program} {w : World} {K : PySem.W.Frag} {mg : Str → Option Value} {base : Heap} {C_Cursor C_Block C_ProcReader C_Reader v_proc_name : Addr}
local macro_rules | `(tactic| simp! [$ls,*]) => `(tactic| simp only [s_fld, s_fldK, s_insAt, s_optD, s_obAt, s_fput, s_fputK1, s_fputK2, s_faug, s_faugK1, s_faugK2, s_faugK3, s_meth, s_methK1, s_methK2, s_make, s_makeK, s_makeK2, s_dead, s_tryN, noX_nx, noX_rt, noX_bk, noX_ct, mSplit, opMulS, s_enum, s_enumK, s_sortBy, s_sortByK, look_nil, look_cons, putFD_nil, putFD_cons, List.append_nil, to_nx, to_rt, to_bk, to_ct, to_ex, lp_nx, lp_rt, lp_bk, lp_ct, lp_ex, ret_nx, ret_rt, ret_ex, s_exK, s_bif1, s_bif0, s_optB, s_optE, s_nxD, s_ifK, s_asgN, s_asgT, s_asgL, b_nil, b_nm, b_tp, s_next, s_seq, s_drop, s_ret, s_retN, s_ifS, s_asg, s_brk, s_cont, s_put, s_put1, s_put2, s_put3, s_aug, s_augV, s_augK, s_augK2, s_bin, s_bin1, s_bin2, s_var, s_varK, s_C, s_cb, s_cbK, s_call, s_callK, s_m, s_m1, s_m2, s_nil, s_cons, s_cons1, s_cons2, s_tup, s_tupK, s_lst, s_lstK, s_truth, s_trK, s_tK, s_eK, s_cK, s_and, s_andK, s_or, s_orK, s_not, s_notK, s_ife, s_ifeK, s_andV, s_orV, s_andvK, s_orvK, s_andvK2, s_orvK2, s_notV, s_notvK, s_blK, s_neg, s_negK, s_sl, s_sl1, s_sl2, s_sl3, s_noPart, s_part, s_partK, s_rev, s_revK, s_for, s_forK, s_lc, s_lcK, s_yes, s_walk, s_walkT, s_walkS, s_walkA, s_walkL, s_walkR, s_rng1, s_rng2, s_rng1K, s_rng2K, s_callL, s_callLK, s_callLO, s_clK, s_raise, r_val, r_new, r_put, s_whK, s_lcY, s_lcT, s_lcE, s_cg, s_cgK, s_rng3, s_rng3K, s_lcB, s_lcS, wipeD, Pat.bind, seqOf, rg, s_dict0, s_sortSet, s_sortSetK, q_is_tuple, q_is_str, q_is_int, q_is_bool, q_is_list, q_isR, ofS_inj, String.reduceEq, q_eqI, q_neI, q_eqS, q_neS, decide_true, decide_false, Int.reduceEq, reduceCtorEq, i_NoneType_tuple, i_NoneType_str, i_NoneType_int, i_NoneType_bool, i_NoneType_list, i_bool_tuple, i_bool_str, i_bool_int, i_bool_bool, i_bool_list, i_int_tuple, i_int_str, i_int_int, i_int_bool, i_int_list, i_str_tuple, i_str_str, i_str_int, i_str_bool, i_str_list, i_tuple_tuple, i_tuple_str, i_tuple_int, i_tuple_bool, i_tuple_list, i_list_tuple, i_list_str, i_list_int, i_list_bool, i_list_list, i_dict_tuple, i_dict_str, i_dict_int, i_dict_bool, i_dict_list, tyN, startD, mupd_same, mupd_ne, ne_eq, not_false_eq_true, List.map_cons, List.map_nil, List.length_cons, List.length_nil, List.replicate_succ, List.replicate_zero, Nat.zero_add, Nat.reduceAdd, Nat.reduceSub, Int.cast_ofNat_Int, List.cons_append, List.nil_append, List.getElem?_cons_zero, List.getElem?_cons_succ, List.set_cons_zero, List.set_cons_succ, opIx, atI_cons, ixN, opPut, opAdd, opSub, opMul, opFdiv, opMod, opPow, opLt, opLe, opGt, opGe, opIs, opIsNot, D.isNon, truth, bLen, bAbs, bInt, bTuple, bList, isTy, mAppend, mExtend, mPop, Int.reduceLE, Int.reduceLT, Int.reduceToNat, Int.reduceNeg, Int.reduceNe, Option.bind_some, if_true, if_false, ite_true, ite_false, true_and, and_true, Bool.not_true, Bool.not_false, opIadd, Nat.reduceLT, Nat.reduceLeDiff, Int.ofNat_lt, s_dpNil, s_dpCons, s_dpK1, s_dpK2, s_dpK3, s_disp, s_dispK, s_optKV, kvOf, s_dc, s_dcK, s_keys, s_lockK, s_sortIt, mGet, mDPop, dgetR, bDictC, bTupC, opEqD, opNeD, eqDR, D.key, merge_one, optKV, id, opEqL, opNeL, eqLR, $ls,*])
theorem S_eq {a b : List Nat} : (S a = S b) = (a = b) := propext ⟨S_inj, fun h => by rw [h]⟩
abbrev singS : Str := Str.ofString "(),*="
def wch (c : Nat) : Bool := decide (c ∈ wordS.cps.toList)
def low (c : Nat) : Bool := decide (c ∈ lettersS.cps.toList)
/-! runs of signs -/
def runL (z : Str) (l : List Nat) : List Nat := l.takeWhile fun c => decide (c ∈ z.cps.toList)
def sp_runend : DSp := fun ds M Q E => ∃ (l : List Nat) (i : Nat) (z : Str), ds = [.str (S l), .int i, .str z] ∧ i ≤ l.length ∧ l.length ≤ 4000000 ∧ Q (.int ((i + (runL z (l.drop i)).length : Nat) : Int)) M
theorem mono_runend : MonoSp sp_runend := by
  rintro ds M Q Q' E E' hQ hE ⟨l, i, z, h1, h2, h3, h⟩
  exact ⟨l, i, z, h1, h2, h3, hQ _ _ h⟩
theorem fn_runend (S0 : Src K mg "run_end" s_run_end ["line", "start", "signs"]) (G : GF K mg C_Cursor C_Block C_ProcReader C_Reader v_proc_name) : Fn P w K mg base 1 "run_end" sp_runend [] := by
  refine S0.fn mono_runend fun g fd F => fn_ok F sc_run_end (fun ds M Q E h => by obtain ⟨l, i, z, rfl, _⟩ := h; rfl) ⟨_, fun cdv A outer s H E hr => have hu := hr.u200
    (xss_cons (xs_set 3 sc_run_end.nd (xe_var 1))
 (xss_cons (xs_while bx_passes (xt_wh (xw_and (xt_cmp x_lt (xe_var 3) (xe_callB c_len (by rfl) G.len (by decide +kernel) (xa_cons (xe_var 0) xa_nil)) (nomark _) bl_lt) (xw_and1 (xt_cmp (x_in hu) (xe_ix hu (xe_var 0) (xe_var 3)) (xe_var 2) rfl bl_in))))
 (xss_one (xs_aug 3 sc_run_end.nd x_iaddN xe_int)))
 (xss_one (xs_ret (xe_var 3))))), fun ds M Q E h => ?_⟩
  obtain ⟨l, i, z, rfl, hi, hl, h⟩ := h
  have sz : (16777216 : Nat) = sizeLine := sizeLine_eq.symm
  have sg1 : ∀ c : Nat, (⟨#[c]⟩ : Str) = S [c] := fun _ => rfl
  simp! []
  refine while_inv (fun n e M' => ∃ j : Nat, n = l.length - j ∧ i ≤ j ∧ j ≤ l.length ∧ j + (runL z (l.drop j)).length = i + (runL z (l.drop i)).length ∧ e = [some (.str (S l)), some (.int i), some (.str z), some (.int j)] ∧ M' = M) ?_ ⟨i, rfl, Nat.le_refl _, hi, rfl, rfl, rfl⟩
  rintro n e M' N ⟨j, rfl, hij, hj, hr, rfl, rfl⟩ hN
  simp! [len_S]
  refine ⟨by omega, bif_dec (fun z1 => ?_) fun z1 => ?_⟩
  · have hjl : j < l.length := by omega
    have a1 : atI l (j : Int) = some l[j] := atI_natI hjl
    simp! [cps_S, a1, sg1, in_sign, len_S]
    refine ⟨by omega, ?_⟩
    have ed : l.drop j = l[j] :: l.drop (j + 1) := List.drop_eq_getElem_cons hjl
    refine bif_dec (fun z2 => ?_) fun z2 => ?_
    · simp! []
      refine hN (l.length - (j + 1)) _ _ (by omega) ⟨j + 1, rfl, by omega, by omega, ?_, by simp, rfl⟩
      rw [← hr, ed]
      simp only [runL, List.takeWhile_cons, decide_eq_true z2, if_true, List.length_cons]
      omega
    · simp! []
      have : (runL z (l.drop j)).length = 0 := by
        unfold runL
        rw [ed, List.takeWhile_cons, decide_eq_false z2]
        rfl
      rw [← hr, this] at h
      exact h
  · simp! []
    have : j = l.length := by omega
    subst this
    rw [← hr] at h
    simpa [runL] using h
def sp_wordat : DSp := fun ds M Q E => ∃ (l : List Nat) (i : Nat), ds = [.str (S l), .int i] ∧ i ≤ l.length ∧ l.length ≤ 4000000 ∧ (runL wordS (l.drop i)).length ≤ 16 ∧ Q (.str (S (runL wordS (l.drop i)))) M
theorem mono_wordat : MonoSp sp_wordat := by
  rintro ds M Q Q' E E' hQ hE ⟨l, i, h1, h2, h3, h4, h⟩
  exact ⟨l, i, h1, h2, h3, h4, hQ _ _ h⟩
theorem run_take (z : Str) (l : List Nat) : l.take (runL z l).length = runL z l := by
  have : l = runL z l ++ l.dropWhile fun c => decide (c ∈ z.cps.toList) := (List.takeWhile_append_dropWhile).symm
  conv => lhs; rhs; rw [this]
  exact List.take_left
theorem fn_wordat (S0 : Src K mg "word_at" s_word_at ["line", "start"]) (G : GF K mg C_Cursor C_Block C_ProcReader C_Reader v_proc_name) (F_run_end : Fn P w K mg base 1 "run_end" sp_runend []) : Fn P w K mg base 2 "word_at" sp_wordat [] := by
  refine S0.fn mono_wordat fun g fd F => fn_ok F sc_word_at (fun ds M Q E h => by obtain ⟨l, i, rfl, _⟩ := h; rfl) ⟨_, fun cdv A outer s H E hr => have hu := hr.u200
    (xss_cons (xs_set 2 sc_word_at.nd (xe_sl (xe_var 0) (xo_some (xe_var 1)) (xo_some (xe_call F_run_end (hr.mono (by first | decide | omega)) bx_takes (by rfl) (xa_cons (xe_var 0) (xa_cons (xe_var 1) (xa_cons (xe_bin x_add (xe_bin x_add (xe_globE (by rfl) G.LETTERS) (xe_globE (by rfl) G.DIGITS)) xe_str) xa_nil)))))))
 (xss_cons (xs_if (xt_cmp x_gt (xe_callB c_len (by rfl) G.len (by decide +kernel) (xa_cons (xe_var 2) xa_nil)) (xe_globE (by rfl) G.MOST_SIGNS) (nomark _) bl_gt)
 (xss_one xs_dead)
 xss_nil)
 (xss_one (xs_ret (xe_var 2))))), fun ds M Q E h => ?_⟩
  obtain ⟨l, i, rfl, hi, hl, hn, h⟩ := h
  have sz : (16777216 : Nat) = sizeLine := sizeLine_eq.symm
  simp! []
  refine ⟨by rw [← sz]; decide +kernel, by rw [← sz]; decide +kernel, l, i, _, rfl, hi, hl, ?_⟩
  have ec : cutS (S l) (some (i : Int)) (some ((i + (runL wordS (l.drop i)).length : Nat) : Int)) = S (runL wordS (l.drop i)) := by
    rw [cut_mid, Nat.add_sub_cancel_left, run_take]
  simp! [opSl, ec, len_S]
  refine ⟨by omega, by omega, bif_dec (fun z => absurd z (by omega)) fun _ => ?_⟩
  simp! []
  exact h
/-! tokens -/
def WordT (t : List Nat) : Prop := (∃ c r, t = c :: r ∧ c ∈ lettersS.cps.toList) ∧ (∀ c ∈ t, c ∈ wordS.cps.toList) ∧ t.length ≤ 16
def PairT (t : List Nat) : Prop := t = [61, 61] ∨ t = [33, 61]
def SingT (t : List Nat) : Prop := ∃ c, t = [c] ∧ c ∈ singS.cps.toList
def TokOk (t : List Nat) : Prop := WordT t ∨ PairT t ∨ SingT t
/-- what may stand behind a token -/
def Sep (t l : List Nat) : Prop := (WordT t → ∀ c ∈ l.head?, c ∉ wordS.cps.toList) ∧ (t = [61] → l.head? ≠ some 61)
def sp_tokat : DSp := fun ds M Q E => ∃ (l : List Nat) (i : Nat) (t r : List Nat), ds = [.str (S l), .int i] ∧ l.length ≤ 4000000 ∧ l.drop i = t ++ r ∧ TokOk t ∧ Sep t r ∧ Q (.str (S t)) M
theorem mono_tokat : MonoSp sp_tokat := by
  rintro ds M Q Q' E E' hQ hE ⟨l, i, t, r, h1, h2, h3, h4, h5, h⟩
  exact ⟨l, i, t, r, h1, h2, h3, h4, h5, hQ _ _ h⟩
theorem tok_ne {t : List Nat} (h : TokOk t) : ∃ c r, t = c :: r := by
  rcases h with ⟨⟨c, r, h, _⟩, _⟩ | h | ⟨c, h, _⟩
  · exact ⟨c, r, h⟩
  · rcases h with h | h
    · exact ⟨_, _, h⟩
    · exact ⟨_, _, h⟩
  · exact ⟨_, _, h⟩
theorem run_word {t r : List Nat} (h : ∀ c ∈ t, c ∈ wordS.cps.toList) (hr : ∀ c ∈ r.head?, c ∉ wordS.cps.toList) : runL wordS (t ++ r) = t := by
  unfold runL
  rw [List.takeWhile_append_of_pos (fun c hc => decide_eq_true (h c hc))]
  cases r with
  | nil => simp
  | cons c r =>
    have : c ∉ wordS.cps.toList := hr c rfl
    rw [List.takeWhile_cons, decide_eq_false this]
    simp
theorem sing_low : ∀ c ∈ singS.cps.toList, c ∉ lettersS.cps.toList := by decide +kernel
theorem fn_tokat (S0 : Src K mg "token_at" s_token_at ["line", "start"]) (G : GF K mg C_Cursor C_Block C_ProcReader C_Reader v_proc_name) (F_word_at : Fn P w K mg base 2 "word_at" sp_wordat []) : Fn P w K mg base 3 "token_at" sp_tokat [] := by
  refine S0.fn mono_tokat fun g fd F => fn_ok F sc_token_at (fun ds M Q E h => by obtain ⟨l, i, t, r, rfl, _⟩ := h; rfl) ⟨_, fun cdv A outer s H E hr => have hu := hr.u200
    (xss_cons (xs_if (xt_cmp (x_in hu) (xe_ix hu (xe_var 0) (xe_var 1)) (xe_globE (by rfl) G.LETTERS) rfl bl_in)
 (xss_one (xs_ret (xe_call F_word_at (hr.mono (by first | decide | omega)) bx_takes (by rfl) (xa_cons (xe_var 0) (xa_cons (xe_var 1) xa_nil)))))
 xss_nil)
 (xss_cons (xs_if (xt_cmp (x_in hu) (xe_sl (xe_var 0) (xo_some (xe_var 1)) (xo_some (xe_bin x_add (xe_var 1) xe_int))) (xe_globTE (by rfl) G.PAIRS) rfl bl_in)
 (xss_one (xs_ret (xe_sl (xe_var 0) (xo_some (xe_var 1)) (xo_some (xe_bin x_add (xe_var 1) xe_int)))))
 xss_nil)
 (xss_cons (xs_if (xt_cmp (x_in hu) (xe_ix hu (xe_var 0) (xe_var 1)) (xe_globE (by rfl) G.SINGLES) rfl bl_in)
 (xss_one (xs_ret (xe_ix hu (xe_var 0) (xe_var 1))))
 xss_nil)
 (xss_one xs_dead)))), fun ds M Q E h => ?_⟩
  obtain ⟨l, i, t, r, rfl, hl, hd, ht, hs, h⟩ := h
  have sz : (16777216 : Nat) = sizeLine := sizeLine_eq.symm
  have sg1 : ∀ c : Nat, (⟨#[c]⟩ : Str) = S [c] := fun _ => rfl
  obtain ⟨c, t', rfl⟩ := tok_ne ht
  have hi : i < l.length := by
    have := congrArg List.length hd
    simp only [List.length_drop, List.length_append, List.length_cons] at this
    omega
  have ec : l[i] = c := by
    have e1 : l.drop i = l[i] :: l.drop (i + 1) := List.drop_eq_getElem_cons hi
    rw [hd] at e1
    simp only [List.cons_append, List.cons.injEq] at e1
    exact e1.1.symm
  have a1 : atI l (i : Int) = some c := by rw [atI_natI hi, ec]
  simp! [cps_S, a1, sg1, in_sign, len_S]
  refine ⟨by omega, ?_⟩
  have e2 : cutS (S l) (some (i : Int)) (some ((i : Int) + 2)) = S ((c :: (t' ++ r)).take 2) := by
    rw [show (i : Int) + 2 = ((i + 2 : Nat) : Int) by omega, cut_mid, Nat.add_sub_cancel_left, hd]
    rfl
  have ip : ∀ (x : Str) (M : Mem) (Q : DK), (opIn (.str x) (.tup [.str tEq, .str tNe]) M).run M Q = Q (.bl (decide (x ∈ [tEq, tNe]))) M := fun x M Q => in_tupS (fs := [tEq, tNe])
  have eq1 : tEq = S [61, 61] := by decide +kernel
  have eq2 : tNe = S [33, 61] := by decide +kernel
  refine bif_dec (fun z => ?_) fun z => ?_
  · have hw : WordT (c :: t') := by
      rcases ht with h | h | ⟨c', h, hc⟩
      · exact h
      · rcases h with h | h <;> (cases h; exact absurd z (by decide +kernel))
      · cases h
        exact absurd z (sing_low _ hc)
    have er : runL wordS (l.drop i) = c :: t' := by rw [hd]; exact run_word hw.2.1 (hs.1 hw)
    simp! []
    refine ⟨l, i, rfl, by omega, hl, by rw [er]; exact hw.2.2, ?_⟩
    rw [er]
    exact h
  · simp! [opSl, e2, ip, len_S]
    refine ⟨by omega, ?_⟩
    rcases ht with hw | hp | ⟨c', hc1, hc2⟩
    · obtain ⟨⟨c2, r2, e, hc⟩, _⟩ := hw
      cases e
      exact absurd hc z
    · have ht2 : (c :: (t' ++ r)).take 2 = c :: t' := by
        rcases hp with e | e <;> (cases e; rfl)
      have hm : S (c :: t') ∈ [tEq, tNe] := by
        rw [eq1, eq2]
        rcases hp with e | e <;> (rw [e]; simp)
      rw [ht2]
      rw [ht2] at e2
      simp! [hm, opSl, e2, len_S]
      exact ⟨by omega, h⟩
    · cases hc1
      have hm : S ((c :: r).take 2) ∉ [tEq, tNe] := by
        rw [eq1, eq2]
        simp only [List.mem_cons, List.not_mem_nil, or_false, S_eq]
        rintro (e | e)
        · cases r with
          | nil => simp at e
          | cons d r =>
            simp at e
            exact hs.2 (by rw [e.1]) (by rw [e.2]; rfl)
        · have : c = 33 := by
            cases r with
            | nil => simp at e
            | cons d r => simp at e; exact e.1
          subst this
          exact absurd hc2 (by decide +kernel)
      simp! [hm, cps_S, a1, sg1, in_sign, hc2, len_S]
      exact ⟨by omega, by omega, h⟩
/-- a text and its tokens -/
inductive Lay : List Nat → List (List Nat) → Prop
  | nil : Lay [] []
  | sp {l : List Nat} {ts : List (List Nat)} : Lay l ts → Lay (32 :: l) ts
  | tok {t l : List Nat} {ts : List (List Nat)} : TokOk t → Sep t l → Lay l ts → Lay (t ++ l) (t :: ts)
theorem tok_32 {t : List Nat} (h : TokOk t) : t.head? ≠ some 32 := by
  rcases h with ⟨⟨c, r, rfl, h⟩, _⟩ | h | ⟨c, rfl, h⟩
  · intro e
    cases e
    exact absurd h (by decide +kernel)
  · rcases h with rfl | rfl <;> simp
  · intro e
    cases e
    exact absurd h (by decide +kernel)
def sp_tokens : DSp := fun ds M Q E => ∃ (l : List Nat) (ts : List (List Nat)), ds = [.str (S l)] ∧ l.length ≤ 4000000 ∧ Lay l ts ∧ ts.length ≤ 60 ∧ ∀ f M', M f = none → M' f = some (.lst (ts.map fun t => .str (S t))) → Keep [] M M' → Q (.ob f) M'
theorem mono_tokens : MonoSp sp_tokens := by
  rintro ds M Q Q' E E' hQ hE ⟨l, ts, h1, h2, h3, h4, h⟩
  exact ⟨l, ts, h1, h2, h3, h4, fun f M' z1 z2 z3 => hQ _ _ (h f M' z1 z2 z3)⟩
theorem Lay.len {l : List Nat} {ts : List (List Nat)} (h : Lay l ts) : ts.length ≤ l.length := by
  induction h with
  | nil => exact Nat.le_refl _
  | sp _ ih => simp only [List.length_cons]; omega
  | tok h _ _ ih =>
    obtain ⟨c, r, rfl⟩ := tok_ne h
    simp only [List.length_append, List.length_cons]; omega
theorem fn_tokens (S0 : Src K mg "tokens_of" s_tokens_of ["line"]) (G : GF K mg C_Cursor C_Block C_ProcReader C_Reader v_proc_name) (F_token_at : Fn P w K mg base 3 "token_at" sp_tokat []) : Fn P w K mg base 4 "tokens_of" sp_tokens [] := by
  refine S0.fn mono_tokens fun g fd F => fn_ok F sc_tokens_of (fun ds M Q E h => by obtain ⟨l, ts, rfl, _⟩ := h; rfl) ⟨_, fun cdv A outer s H E hr => have hu := hr.u200
    (xss_cons (xs_set 1 sc_tokens_of.nd (xe_lst (n := 0) xa_nil))
 (xss_cons (xs_set 2 sc_tokens_of.nd xe_int)
 (xss_cons (xs_while bx_passes (xt_cmp x_lt (xe_var 2) (xe_callB c_len (by rfl) G.len (by decide +kernel) (xa_cons (xe_var 0) xa_nil)) (nomark _) bl_lt)
 (xss_one (xs_if (xt_cmp (x_eq hu) (xe_ix hu (xe_var 0) (xe_var 2)) xe_str (nomark _) bl_eq)
 (xss_one (xs_aug 2 sc_tokens_of.nd x_iaddN xe_int))
 (xss_cons (xs_set 3 sc_tokens_of.nd (xe_call F_token_at (hr.mono (by first | decide | omega)) bx_takes (by rfl) (xa_cons (xe_var 0) (xa_cons (xe_var 2) xa_nil))))
 (xss_cons (xs_expr (xe_bm PySem.F.plainAttrs_list PySem.F.slot_list_append PySem.F.type_list_append m_append (xe_var 1) (xa_cons (xe_var 3) xa_nil)))
 (xss_one (xs_aug 2 sc_tokens_of.nd x_iaddN (xe_callB c_len (by rfl) G.len (by decide +kernel) (xa_cons (xe_var 3) xa_nil)))))))))
 (xss_cons (xs_if (xt_cmp x_gt (xe_callB c_len (by rfl) G.len (by decide +kernel) (xa_cons (xe_var 1) xa_nil)) (xe_globE (by rfl) G.MOST_TOKENS) (nomark _) bl_gt)
 (xss_one xs_dead)
 xss_nil)
 (xss_one (xs_ret (xe_var 1))))))), fun ds M Q E h => ?_⟩
  obtain ⟨l, ts, rfl, hl, hlay, hn, h⟩ := h
  have sz : (16777216 : Nat) = sizeLine := sizeLine_eq.symm
  have sg1 : ∀ c : Nat, (⟨#[c]⟩ : Str) = S [c] := fun _ => rfl
  have e32 : Str.ofString " " = S [32] := by decide +kernel
  simp! []
  intro f hf
  refine while_inv (fun n e M' => ∃ (j : Nat) (done ts' : List (List Nat)) (d3 : Option D), n = (l.drop j).length ∧ j ≤ l.length ∧ Lay (l.drop j) ts' ∧ done ++ ts' = ts ∧ e = [some (.str (S l)), some (.ob f), some (.int j), d3] ∧ M' f = some (.lst (done.map fun t => .str (S t))) ∧ Keep [] M M') ?_ ⟨0, [], ts, none, rfl, Nat.zero_le _, by simpa using hlay, rfl, rfl, by simp [mupd_same], Keep.new hf⟩
  rintro n e M' N ⟨j, done, ts', d3, rfl, hj, hlj, hdn, rfl, hff, kk⟩ hN
  simp! [len_S]
  refine ⟨by omega, bif_dec (fun z => ?_) fun z => ?_⟩
  · have hjl : j < l.length := by omega
    have ed : l.drop j = l[j] :: l.drop (j + 1) := List.drop_eq_getElem_cons hjl
    have a1 : atI l (j : Int) = some l[j] := atI_natI hjl
    simp! [cps_S, a1, sg1, e32, S_eq, len_S]
    refine ⟨by omega, ?_⟩
    generalize hld : l.drop j = ld at hlj
    cases hlj with
    | nil => rw [hld] at ed; cases ed
    | sp hlj =>
      rw [hld] at ed
      simp only [List.cons.injEq] at ed
      refine bif_dec (fun _ => ?_) fun z2 => absurd (by rw [← ed.1]) z2
      simp! []
      rw [ed.2] at hlj
      exact hN (l.drop (j + 1)).length _ _ (by simp only [List.length_drop]; omega) ⟨j + 1, done, ts', d3, rfl, by omega, hlj, hdn, by simp, hff, kk⟩
    | @tok t l' ts2 htk hsp hlj =>
      obtain ⟨c, r, rfl⟩ := tok_ne htk
      rw [hld] at ed
      simp only [List.cons_append, List.cons.injEq] at ed
      have h32 := tok_32 htk
      refine bif_dec (fun z2 => ?_) fun z2 => ?_
      · exact absurd (by rw [ed.1]; simpa using z2) h32
      simp! []
      refine ⟨l, j, c :: r, l', rfl, hl, by rw [hld], htk, hsp, ?_⟩
      simp! [hff, List.length_map]
      have hdl : done.length ≤ 60 := by
        have := congrArg List.length hdn
        rw [List.length_append] at this
        omega
      refine ⟨by rw [← sz]; omega, ?_⟩
      simp! [len_S]
      have hj2 : l.drop (j + (r.length + 1)) = l' := by
        rw [← List.drop_drop, hld]
        simp
      have hjl2 : j + (r.length + 1) + l'.length = l.length := by
        have := congrArg List.length hld
        simp only [List.length_drop, List.length_append, List.length_cons] at this
        omega
      refine ⟨by simp only [← sz]; omega, ?_⟩
      refine hN l'.length _ _ (by rw [hld]; simp; omega) ⟨j + (r.length + 1), done ++ [c :: r], ts2, some (.str (S (c :: r))), by rw [hj2], by omega, by rw [hj2]; exact hlj, by rw [← hdn]; simp, by simp, by rw [mupd_same]; simp, kk.putN hf⟩
  · simp! [hff, List.length_map]
    have hjl : j = l.length := by omega
    subst hjl
    have : ts' = [] := by
      rw [List.drop_length] at hlj
      generalize hld : ([] : List Nat) = ld at hlj
      cases hlj with
      | nil => rfl
      | sp _ => cases hld
      | tok htk _ _ =>
        obtain ⟨c, r, rfl⟩ := tok_ne htk
        cases hld
    subst this
    rw [List.append_nil] at hdn
    subst hdn
    refine bif_dec (fun z => absurd z (by omega)) fun _ => ?_
    simp! []
    exact h f _ hf hff kk
end K02

set_option maxHeartbeats 4000000
namespace K02
open PySem PySem.Spec PyProof.Rows L2 PL SX
variable {P : Program} {w : World} {K : PySem.W.Frag} {mg : Str → Option Value} {base : Heap} {C_Cursor C_Block C_ProcReader C_Reader v_proc_name : Addr}
local macro_rules | `(tactic| simp! [$ls,*]) => `(tactic| simp only [s_fld, s_fldK, s_insAt, s_optD, s_obAt, s_fput, s_fputK1, s_fputK2, s_faug, s_faugK1, s_faugK2, s_faugK3, s_meth, s_methK1, s_methK2, s_make, s_makeK, s_makeK2, s_dead, s_tryN, noX_nx, noX_rt, noX_bk, noX_ct, mSplit, opMulS, s_enum, s_enumK, s_sortBy, s_sortByK, look_nil, look_cons, putFD_nil, putFD_cons, List.append_nil, to_nx, to_rt, to_bk, to_ct, to_ex, lp_nx, lp_rt, lp_bk, lp_ct, lp_ex, ret_nx, ret_rt, ret_ex, s_exK, s_bif1, s_bif0, s_optB, s_optE, s_nxD, s_ifK, s_asgN, s_asgT, s_asgL, b_nil, b_nm, b_tp, s_next, s_seq, s_drop, s_ret, s_retN, s_ifS, s_asg, s_brk, s_cont, s_put, s_put1, s_put2, s_put3, s_aug, s_augV, s_augK, s_augK2, s_bin, s_bin1, s_bin2, s_var, s_varK, s_C, s_cb, s_cbK, s_call, s_callK, s_m, s_m1, s_m2, s_nil, s_cons, s_cons1, s_cons2, s_tup, s_tupK, s_lst, s_lstK, s_truth, s_trK, s_tK, s_eK, s_cK, s_and, s_andK, s_or, s_orK, s_not, s_notK, s_ife, s_ifeK, s_andV, s_orV, s_andvK, s_orvK, s_andvK2, s_orvK2, s_notV, s_notvK, s_blK, s_neg, s_negK, s_sl, s_sl1, s_sl2, s_sl3, s_noPart, s_part, s_partK, s_rev, s_revK, s_for, s_forK, s_lc, s_lcK, s_yes, s_walk, s_walkT, s_walkS, s_walkA, s_walkL, s_walkR, s_rng1, s_rng2, s_rng1K, s_rng2K, s_callL, s_callLK, s_callLO, s_clK, s_raise, r_val, r_new, r_put, s_whK, s_lcY, s_lcT, s_lcE, s_cg, s_cgK, s_rng3, s_rng3K, s_lcB, s_lcS, wipeD, Pat.bind, seqOf, rg, s_dict0, s_sortSet, s_sortSetK, q_is_tuple, q_is_str, q_is_int, q_is_bool, q_is_list, q_isR, ofS_inj, String.reduceEq, q_eqI, q_neI, q_eqS, q_neS, decide_true, decide_false, Int.reduceEq, reduceCtorEq, i_NoneType_tuple, i_NoneType_str, i_NoneType_int, i_NoneType_bool, i_NoneType_list, i_bool_tuple, i_bool_str, i_bool_int, i_bool_bool, i_bool_list, i_int_tuple, i_int_str, i_int_int, i_int_bool, i_int_list, i_str_tuple, i_str_str, i_str_int, i_str_bool, i_str_list, i_tuple_tuple, i_tuple_str, i_tuple_int, i_tuple_bool, i_tuple_list, i_list_tuple, i_list_str, i_list_int, i_list_bool, i_list_list, i_dict_tuple, i_dict_str, i_dict_int, i_dict_bool, i_dict_list, tyN, startD, mupd_same, mupd_ne, ne_eq, not_false_eq_true, List.map_cons, List.map_nil, List.length_cons, List.length_nil, List.replicate_succ, List.replicate_zero, Nat.zero_add, Nat.reduceAdd, Nat.reduceSub, Int.cast_ofNat_Int, List.cons_append, List.nil_append, List.getElem?_cons_zero, List.getElem?_cons_succ, List.set_cons_zero, List.set_cons_succ, opIx, atI_cons, ixN, opPut, opAdd, opSub, opMul, opFdiv, opMod, opPow, opLt, opLe, opGt, opGe, opIs, opIsNot, D.isNon, truth, bLen, bAbs, bInt, bTuple, bList, isTy, mAppend, mExtend, mPop, Int.reduceLE, Int.reduceLT, Int.reduceToNat, Int.reduceNeg, Int.reduceNe, Option.bind_some, if_true, if_false, ite_true, ite_false, true_and, and_true, Bool.not_true, Bool.not_false, opIadd, Nat.reduceLT, Nat.reduceLeDiff, Int.ofNat_lt, s_dpNil, s_dpCons, s_dpK1, s_dpK2, s_dpK3, s_disp, s_dispK, s_optKV, kvOf, s_dc, s_dcK, s_keys, s_lockK, s_sortIt, mGet, mDPop, dgetR, bDictC, bTupC, opEqD, opNeD, eqDR, D.key, merge_one, optKV, id, opEqL, opNeL, eqLR, $ls,*])
abbrev RS := List D × Option (Hd × List Blk)
/-- lines of a text, one behind another -/
inductive Runs : RS → List (List Nat) → RS → Prop
  | nil {σ : RS} : Runs σ [] σ
  | blank {σ σ' : RS} {l : List Nat} {ls : List (List Nat)} : Lay l [] → Runs σ ls σ' → Runs σ (l :: ls) σ'
  | line {σ σ1 σ' : RS} {l : List Nat} {ts : List (List Nat)} {ls : List (List Nat)} : Lay l ts → ts ≠ [] → ts.length ≤ 60 → LineR σ.1 σ.2 (ts.map S) σ1.1 σ1.2 → Runs σ1 ls σ' → Runs σ (l :: ls) σ'
theorem Lay.ok {l : List Nat} {ts : List (List Nat)} (h : Lay l ts) : ∀ t ∈ ts, TokOk t := by
  induction h with
  | nil => intro t ht; cases ht
  | sp _ ih => exact ih
  | tok h _ _ ih =>
    intro t ht
    rcases List.mem_cons.mp ht with e | e
    · rw [e]; exact h
    · exact ih t e
def enumL (i : Nat) : List (List Nat) → List (Nat × List Nat)
  | [] => []
  | l :: r => (i, l) :: enumL (i + 1) r
def enumD (p : Nat × List Nat) : D := .tup [.int (p.1 : Int), .str (S p.2)]
theorem nums_enum : ∀ (ls : List (List Nat)) (i : Nat), nums i (ls.map fun l => D.str (S l)) = (enumL i ls).map enumD
  | [], _ => rfl
  | l :: r, i => by
    rw [List.map_cons, nums, nums_enum r (i + 1)]
    rfl
def sp_rs : DSp := fun ds M Q E => ∃ (x : Str) (ls : List (List Nat)) (ps : List D), ds = [.str x] ∧ Txt.split x (Str.ofString "\n") = ls.map S ∧ x.length ≤ 16000000 ∧ (∀ l ∈ ls, l.length ≤ 4000000) ∧ Runs ([], none) ls (ps, none) ∧ (∀ d ∈ ps, TupS d) ∧ ∀ M', Keep [] M M' → Q (.tup (ps.mergeSort leD)) M'
theorem mono_rs : MonoSp sp_rs := by
  rintro ds M Q Q' E E' hQ hE ⟨x, ls, ps, h1, h2, h3, h4, h5, h6, h⟩
  exact ⟨x, ls, ps, h1, h2, h3, h4, h5, h6, fun M' z => hQ _ _ (h M' z)⟩
theorem fn_rs (S0 : Src K mg "read_source" s_read_source ["text"]) (S_proc_name : Src K mg "proc_name" s_proc_name ["proc"]) (G : GF K mg C_Cursor C_Block C_ProcReader C_Reader v_proc_name) (K_Reader : KFn P w K mg base 1 "Reader" C_Reader (sp_rinit C_Reader C_ProcReader C_Block)) (F_tokens_of : Fn P w K mg base 4 "tokens_of" sp_tokens []) (M_Reader_line : MFn P w K mg base 9 C_Reader "line" (sp_line C_Reader C_ProcReader C_Block) []) : Fn P w K mg base 10 "read_source" sp_rs [] := by
  refine S0.fn mono_rs fun g fd F => fn_ok F sc_read_source (fun ds M Q E h => by obtain ⟨x, ls, ps, rfl, _⟩ := h; rfl) ⟨_, fun cdv A outer s H E hr => have hu := hr.u200
    (xss_cons (xs_set 1 sc_read_source.nd (xe_make0 K_Reader (hr.mono (by first | decide | omega)) (by rfl)))
 (xss_cons (xs_set 2 sc_read_source.nd (xe_bm PySem.F.plainAttrs_str PySem.F.slot_str_split PySem.F.type_str_split m_split (xe_var 0) (xa_cons xe_str xa_nil)))
 (xss_cons (xs_for (p := .tp [.nm 3, .nm 4]) bx_passes rfl (xi_enum (by rfl) G.enumerate (xa_cons (xe_var 2) xa_nil)) (xg_tup rfl (xgs_cons (xg_name 3 sc_read_source.nd) (xgs_cons (xg_name 4 sc_read_source.nd) xgs_nil)))
 (xss_one (xs_tryN (xss_cons (xs_set 5 sc_read_source.nd (xe_call F_tokens_of (hr.mono (by first | decide | omega)) takes0 (by rfl) (xa_cons (xe_var 4) xa_nil)))
 (xss_one (xs_if (xt_val (xe_var 5))
 (xss_one (xs_expr (xe_meth M_Reader_line G.T_Reader (hr.mono (by first | decide | omega)) takes0 (xe_var 1) (xa_cons (xe_var 5) xa_nil))))
 xss_nil))))))
 (xss_cons (xs_if (xt_cmp x_isnot (xe_fld G.T_Reader (xe_var 1)) xe_non (nomark _) bl_isnot)
 (xss_one xs_dead)
 xss_nil)
 (xss_one (xs_ret (xe_callTy c_tuple (by rfl) G.tuple (by decide +kernel) (xa_cons (xe_sortBy (p := "proc") S_proc_name rfl sc_proc_name (by decide +kernel) (hr.mono (by first | decide | omega)) (xe_fld G.T_Reader (xe_var 1)) (by rfl) G.sorted (by decide +kernel) (by rfl)) xa_nil)))))))), fun ds M Q E h => ?_⟩
  obtain ⟨x, ls, ps, rfl, hsp, hxl, hll, hrun, htup, h⟩ := h
  have sz : (16777216 : Nat) = sizeLine := sizeLine_eq.symm
  simp! []
  intro r hr
  refine ⟨r, rfl, mupd_same, fun lp M1 r1 hlp k1 => ?_⟩
  have k1' : Keep [] M M1 := ((Keep.new (S := [r]) hr).trans k1).drop hr
  simp! [hsp]
  refine ⟨⟨by decide +kernel, by omega⟩, fun a ha => ?_⟩
  have ea : List.map D.str (List.map S ls) = ls.map fun l => D.str (S l) := by rw [List.map_map]; rfl
  refine ⟨a, ls.map fun l => D.str (S l), rfl, by rw [mupd_same, ea], ?_⟩
  rw [ea]
  have hna : ∀ b ∈ r :: lp :: nowF none, b ≠ a := fun b hb => by
    obtain ⟨o, ho⟩ := r1.there b hb
    rintro rfl
    rw [ha] at ho; cases ho
  have r2 := r1.keep (S := []) (Keep.new (o := .lst (ls.map fun l => D.str (S l))) ha) (by simp)
  have k2 : Keep [] M (mupd M1 a (.lst (ls.map fun l => D.str (S l)))) := k1'.trans (Keep.new ha)
  have a2 : (mupd M1 a (.lst (ls.map fun l => D.str (S l)))) a = _ := mupd_same
  generalize mupd M1 a _ = M2 at r2 k2 a2 ⊢
  simp! [nums_enum]
  refine loop_inv enumD (fun rest e M' => ∃ (i : Nat) (ls' : List (List Nat)) (σ : RS) (n : Option NowA) (d3 d4 d5 : Option D), rest = enumL i ls' ∧ (∀ l ∈ ls', l.length ≤ 4000000) ∧ Runs σ ls' (ps, none) ∧ σ.2 = nowS n ∧ e = [some (.str x), some (.ob r), some (.ob a), d3, d4, d5] ∧ RdAt C_Reader C_ProcReader C_Block M' r lp σ.1 n ∧ a ∉ r :: lp :: nowF n ∧ M' a = some (.lst (ls.map fun l => D.str (S l))) ∧ Keep [] M M' ∧ (∀ b ∈ r :: lp :: nowF n, M b = none)) ?_ ?_ ?_ (enumL 0 ls) _ _ ?_
  · rintro rest e M' ⟨i, ls', σ, n, d3, d4, d5, _, _, _, _, _, _, _, e1, _⟩
    exact e1
  · rintro y rest e M' N ⟨i, ls', σ, n, d3, d4, d5, e0', hll', hrun', hσ, rfl, rd, hna', a', kk, fr⟩ hN
    obtain ⟨l, ls', rfl⟩ : ∃ l r, ls' = l :: r := by
      cases ls' with
      | nil => cases e0'
      | cons l r => exact ⟨l, r, rfl⟩
    simp only [enumL, List.cons.injEq] at e0'
    obtain ⟨rfl, rfl⟩ := e0'
    simp! [enumD]
    cases hrun' with
    | blank hlay hrun' =>
      refine ⟨l, [], rfl, hll' l List.mem_cons_self, hlay, by decide, fun f M3 hf hf3 k3 => ?_⟩
      simp! [hf3, List.isEmpty_nil]
      refine hN _ _ ⟨i + 1, ls', σ, n, _, _, _, rfl, fun l' hl' => hll' l' (List.mem_cons_of_mem _ hl'), hrun', hσ, rfl, rd.keep k3 (by simp), hna', k3 _ _ a' (by simp), kk.trans k3, fr⟩
    | @line _ σ1 _ _ ts _ hlay hne hlen hline hrun' =>
      refine ⟨l, ts, rfl, hll' l List.mem_cons_self, hlay, hlen, fun f M3 hf hf3 k3 => ?_⟩
      have em : (ts.map fun t => D.str (S t)).isEmpty = false := by
        cases ts with
        | nil => exact absurd rfl hne
        | cons t r => rfl
      have rd3 := rd.keep k3 (by simp)
      have ir := rd3.hr
      simp! [hf3, em, ir]
      have hfn : f ∉ r :: lp :: nowF n := fun z => by
        obtain ⟨o, ho⟩ := rd.there f z
        rw [hf] at ho; cases ho
      refine ⟨r, lp, f, σ.1, σ1.1, n, σ1.2, ts.map S, rfl, rd3, by rw [hf3, List.map_map]; rfl, by rw [List.length_map]; omega, fun z hz => ?_, hfn, by rw [← hσ]; exact hline, fun M4 nA e4 rd4 k4 fr4 => ?_⟩
      · obtain ⟨t, ht, rfl⟩ := List.mem_map.mp hz
        obtain ⟨c, q, rfl⟩ := tok_ne (hlay.ok t ht)
        rw [show e0 = S [] by decide +kernel]
        intro z
        rw [S_eq] at z
        cases z
      simp! []
      have hM4 : ∀ b ∈ nowF nA, b ∈ nowF n ∨ M b = none := fun b hb => by
        rcases fr4 b hb with z | z
        · exact .inl z
        · exact .inr (Keep.back (kk.trans k3) z (by simp))
      have nf4 : ∀ b ∈ r :: lp :: nowF nA, M b = none := fun b hb => by
        simp only [List.mem_cons] at hb
        rcases hb with rfl | rfl | hb
        · exact fr _ (by simp)
        · exact fr _ (by simp)
        · rcases hM4 b hb with z | z
          · exact fr b (by simp [z])
          · exact z
      have k34 : Keep [] M M4 := fun b o hb _ => k4 _ _ ((kk.trans k3) _ _ hb (by simp)) fun z => by rw [fr b z] at hb; cases hb
      refine hN _ _ ⟨i + 1, ls', σ1, nA, _, _, _, rfl, fun l' hl' => hll' l' (List.mem_cons_of_mem _ hl'), hrun', e4.symm, rfl, rd4, ?_, k4 _ _ (k3 _ _ a' (by simp)) hna', k34, nf4⟩
      intro hb
      simp only [List.mem_cons] at hb hna'
      rcases hb with z | z | z
      · exact hna' (.inl z)
      · exact hna' (.inr (.inl z))
      · rcases fr4 a z with z | z
        · exact hna' (.inr (.inr z))
        · rw [k3 _ _ a' (by simp)] at z; cases z
  · rintro e M' ⟨i, ls', σ, n, d3, d4, d5, e0', hll', hrun', hσ, rfl, rd, hna', a', kk, fr⟩
    have : ls' = [] := by
      cases ls' with
      | nil => rfl
      | cons l r => cases e0'
    subst this
    cases hrun'
    have : n = none := by
      cases n with
      | none => rfl
      | some n => cases hσ
    subst this
    have ir := rd.hr
    simp only [nowD] at ir
    have il := rd.hl
    simp! [ir]
    refine ⟨ps, by simp only [lstAt, il], htup, fun p hp => ?_⟩
    exact h _ (kk.trans (Keep.new hp))
  · refine ⟨0, ls, ([], none), none, _, _, _, rfl, hll, hrun, rfl, rfl, r2, fun hb => hna a hb rfl, a2, k2, fun b hb => ?_⟩
    simp only [nowF, List.mem_cons, List.not_mem_nil, or_false] at hb
    rcases hb with rfl | rfl
    · exact hr
    · exact (mupd_none ▸ hlp : _ ∧ _).2
end K02

set_option maxHeartbeats 4000000
namespace K02
open PySem PySem.Spec PyProof.Rows L2 PL SX
variable {P : Program} {w : World} {K : PySem.W.Frag} {mg : Str → Option Value} {base : Heap} {C_Cursor C_Block C_ProcReader C_Reader v_proc_name : Addr}
open TL (joinL)
/-! what the statements are, as data and as lines -/
mutual
def Stm.enc : Stm → D
  | .sim s => s.enc
  | .whl s a b body => .tup [.str "while", testD s a b, .tup (encB body)]
  | .ite s a b f g => .tup [.str "if", testD s a b, .tup (encB f), .tup (encB g)]
def encB : List Stm → List D
  | [] => []
  | x :: r => x.enc :: encB r
end
mutual
def linesS : Stm → List (List Str)
  | .sim s => [s.word :: s.tail]
  | .whl s a b body => [wWhile, a, opT s, b] :: (linesB body ++ [[wEnd]])
  | .ite s a b f g => [wIf, a, opT s, b] :: (linesB f ++ ((if g.isEmpty = true then [] else [wElse] :: linesB g) ++ [[wEnd]]))
def linesB : List Stm → List (List Str)
  | [] => []
  | x :: r => linesS x ++ linesB r
end
mutual
def OkS : Nat → Stm → Prop
  | _, .sim s => s.Ok
  | d, .whl _ a b body => PlaceOk a ∧ PlaceOk b ∧ 0 < d ∧ OkB (d - 1) body ∧ body.length ≤ 3
  | d, .ite _ a b f g => PlaceOk a ∧ PlaceOk b ∧ 0 < d ∧ OkB (d - 1) f ∧ f.length ≤ 3 ∧ OkB (d - 1) g ∧ g.length ≤ 3
def OkB : Nat → List Stm → Prop
  | _, [] => True
  | d, x :: r => OkS d x ∧ OkB d r
end
theorem encB_len : ∀ b : List Stm, (encB b).length = b.length
  | [] => rfl
  | x :: r => by simp [encB, encB_len r]
inductive RunT : RS → List (List Str) → RS → Prop
  | nil {σ : RS} : RunT σ [] σ
  | cons {σ σ1 σ' : RS} {l : List Str} {ls : List (List Str)} : LineR σ.1 σ.2 l σ1.1 σ1.2 → RunT σ1 ls σ' → RunT σ (l :: ls) σ'
theorem RunT.app {σ σ1 σ2 : RS} {l1 l2 : List (List Str)} (h1 : RunT σ l1 σ1) (h2 : RunT σ1 l2 σ2) : RunT σ (l1 ++ l2) σ2 := by
  induction h1 with
  | nil => exact h2
  | cons h _ ih => exact .cons h (ih h2)
theorem RunT.one {σ σ1 : RS} {l : List Str} (h : LineR σ.1 σ.2 l σ1.1 σ1.2) : RunT σ [l] σ1 := .cons h .nil
theorem w_end : wIf ≠ wEnd ∧ wWhile ≠ wEnd ∧ wElse ≠ wEnd ∧ wLoc ≠ wEnd ∧ wNeed ≠ wEnd ∧ wEns ≠ wEnd := by decide +kernel
theorem stmtOf_while {t f : D} {rows : List D} : stmtOf ⟨wWhile, t, f, rows⟩ = .tup [.str "while", t, .tup rows] := if_pos rfl
theorem stmtOf_if {t f : D} {rows : List D} : stmtOf ⟨wIf, t, f, rows⟩ = .tup [.str "if", t, .tup rows, .tup []] := by
  unfold stmtOf
  rw [if_neg (show ¬ wIf = Str.ofString "while" by decide +kernel), if_neg (show ¬ wIf = Str.ofString "else" by decide +kernel)]
theorem stmtOf_else {t f : D} {rows : List D} : stmtOf ⟨wElse, t, f, rows⟩ = .tup [.str "if", t, f, .tup rows] := by
  unfold stmtOf
  rw [if_neg (show ¬ wElse = Str.ofString "while" by decide +kernel), if_pos rfl]
mutual
theorem run_s : ∀ (d : Nat) (x : Stm) (ps : List D) (st : Hd) (bs : List Blk) (b : Blk), OkS d x → bs.length + 1 + d ≤ 30 → b.rows.length ≤ 1000 → ∃ g, RunT (ps, some (st, bs ++ [b])) (linesS x) (ps, some ({ st with stage := g }, bs ++ [{ b with rows := b.rows ++ [x.enc] }]))
  | d, .sim s, ps, st, bs, b, hok, hd, hr => by
    unfold OkS at hok
    unfold linesS Stm.enc
    exact ⟨4, .one (.mid (.sim s hok hr) (sim_word s).2.2)⟩
  | d, .whl s a b' body, ps, st, bs, b, hok, hd, hr => by
    unfold OkS at hok
    obtain ⟨ha, hb, h0, hbo, hbl⟩ := hok
    obtain ⟨g, h⟩ := run_b (d - 1) body ps { st with stage := 4 } (bs ++ [b]) ⟨wWhile, testD s a b', .tup [], []⟩ hbo (by simp; omega) (by simp; omega)
    unfold linesS Stm.enc
    refine ⟨g, .cons (σ1 := (ps, some ({ st with stage := 4 }, bs ++ [b] ++ [⟨wWhile, testD s a b', .tup [], []⟩]))) (.mid (.opn wWhile s a b' (.inr rfl) ha hb (by simp; omega)) w_end.2.1) (h.app (.one ?_))⟩
    have := LineR.cls (ps := ps) (st := { st with stage := g }) (bs := bs) (b1 := b) (b2 := ⟨wWhile, testD s a b', .tup [], [] ++ encB body⟩) hr
    rw [stmtOf_while, List.nil_append] at this
    simpa using this
  | d, .ite s a b' f g, ps, st, bs, b, hok, hd, hr => by
    unfold OkS at hok
    obtain ⟨ha, hb, h0, hf, hfl, hg, hgl⟩ := hok
    obtain ⟨g1, h⟩ := run_b (d - 1) f ps { st with stage := 4 } (bs ++ [b]) ⟨wIf, testD s a b', .tup [], []⟩ hf (by simp; omega) (by simp; omega)
    have ho : LineR ps (some (st, bs ++ [b])) [wIf, a, opT s, b'] ps (some ({ st with stage := 4 }, bs ++ [b] ++ [⟨wIf, testD s a b', .tup [], []⟩])) := .mid (.opn wIf s a b' (.inl rfl) ha hb (by simp; omega)) w_end.1
    unfold linesS Stm.enc
    cases g with
    | nil =>
      refine ⟨g1, .cons (σ1 := (ps, some ({ st with stage := 4 }, bs ++ [b] ++ [⟨wIf, testD s a b', .tup [], []⟩]))) ho (h.app (.one ?_))⟩
      have := LineR.cls (ps := ps) (st := { st with stage := g1 }) (bs := bs) (b1 := b) (b2 := ⟨wIf, testD s a b', .tup [], [] ++ encB f⟩) hr
      rw [stmtOf_if, List.nil_append] at this
      simpa [encB] using this
    | cons y r =>
      simp only [List.nil_append] at h
      obtain ⟨g2, h2⟩ := run_b (d - 1) (y :: r) ps { st with stage := 4 } (bs ++ [b]) ⟨wElse, testD s a b', .tup (encB f), []⟩ hg (by simp; omega) (by simp only [List.length_cons] at hgl ⊢; simp; omega)
      refine ⟨g2, .cons (σ1 := (ps, some ({ st with stage := 4 }, bs ++ [b] ++ [⟨wIf, testD s a b', .tup [], []⟩]))) ho (h.app ?_)⟩
      have he : LineR ps (some ({ st with stage := g1 }, bs ++ [b] ++ [⟨wIf, testD s a b', .tup [], [] ++ encB f⟩])) [wElse] ps (some ({ st with stage := 4 }, bs ++ [b] ++ [⟨wElse, testD s a b', .tup ([] ++ encB f), []⟩])) := .mid .els w_end.2.2.1
      rw [List.nil_append] at he
      refine .cons (σ1 := (ps, some ({ st with stage := 4 }, bs ++ [b] ++ [⟨wElse, testD s a b', .tup (encB f), []⟩]))) he (h2.app (.one ?_))
      have := LineR.cls (ps := ps) (st := { st with stage := g2 }) (bs := bs) (b1 := b) (b2 := ⟨wElse, testD s a b', .tup (encB f), [] ++ encB (y :: r)⟩) hr
      rw [stmtOf_else, List.nil_append] at this
      simpa using this
theorem run_b : ∀ (d : Nat) (body : List Stm) (ps : List D) (st : Hd) (bs : List Blk) (b : Blk), OkB d body → bs.length + 1 + d ≤ 30 → b.rows.length + body.length ≤ 1000 → ∃ g, RunT (ps, some (st, bs ++ [b])) (linesB body) (ps, some ({ st with stage := g }, bs ++ [{ b with rows := b.rows ++ encB body }]))
  | d, [], ps, st, bs, b, _, hd, hr => by
    unfold linesB encB
    refine ⟨st.stage, ?_⟩
    rw [List.append_nil]
    exact .nil
  | d, x :: r, ps, st, bs, b, hok, hd, hr => by
    unfold OkB at hok
    simp only [List.length_cons] at hr
    obtain ⟨g, h⟩ := run_s d x ps st bs b hok.1 hd (by omega)
    obtain ⟨g2, h2⟩ := run_b d r ps { st with stage := g } bs { b with rows := b.rows ++ [x.enc] } hok.2 hd (by simp; omega)
    unfold linesB encB
    refine ⟨g2, h.app ?_⟩
    simpa using h2
end
/-! procedures -/
structure Proc where
  name : Str
  params : List Str
  places : List Str
  need : List Part
  ens : List (List Part)
  body : List Stm
def Proc.enc (p : Proc) : D := .tup [.str p.name, .tup (p.params.map D.str), .tup (p.places.map D.str), picD p.need, .tup (p.ens.map picD), .tup (encB p.body)]
def headL (p : Proc) : List (List Str) := (if p.places.isEmpty = true then [] else [wLoc :: listed p.places]) ++ ((if p.need.isEmpty = true then [] else [wNeed :: partsToks p.need]) ++ p.ens.map fun q => wEns :: partsToks q)
def procL (p : Proc) : List (List Str) := (wProc :: p.name :: tL :: (listed p.params ++ [tR])) :: (headL p ++ (linesB p.body ++ [[wEnd]]))
structure Proc.Ok (p : Proc) : Prop where
  name : NameOk p.name
  params : ∀ x ∈ p.params, NameOk x
  plen : p.params.length ≤ 100
  places : ∀ x ∈ p.places, NameOk x
  llen : p.places.length ≤ 100
  need : ∀ q ∈ p.need, PartOk q
  nlen : p.need.length ≤ 100
  ens : ∀ q ∈ p.ens, Pict q
  elen : p.ens.length ≤ 100
  body : OkB 20 p.body
  blen : p.body.length ≤ 3
theorem picD_nil : picD [] = emptyD := rfl
theorem run_ens (ps : List D) (bs : List Blk) : ∀ (es : List (List Part)) (st : Hd), (∀ q ∈ es, Pict q) → st.stage < 4 → st.ens.length + es.length ≤ 1000 → ∃ g, g < 4 ∧ RunT (ps, some (st, bs)) (es.map fun q => wEns :: partsToks q) (ps, some ({ st with ens := st.ens ++ es.map picD, stage := g }, bs))
  | [], st, _, hs, _ => ⟨st.stage, hs, by simpa using RunT.nil⟩
  | q :: r, st, hq, hs, hl => by
    simp only [List.length_cons] at hl
    obtain ⟨g, hg, h⟩ := run_ens ps bs r { st with ens := st.ens ++ [picD q], stage := 3 } (fun q' h' => hq q' (List.mem_cons_of_mem _ h')) (by show (3 : Int) < 4; decide) (by simp; omega)
    refine ⟨g, hg, .cons (σ1 := (ps, some ({ st with ens := st.ens ++ [picD q], stage := 3 }, bs))) (.mid (.head (.ens q hs (by omega) (hq q List.mem_cons_self))) w_end.2.2.2.2.2) ?_⟩
    simpa using h
theorem run_p (p : Proc) (h : p.Ok) (ps : List D) (hps : ps.length ≤ 1000) : RunT (ps, none) (procL p) (ps ++ [p.enc], none) := by
  refine .cons (σ1 := (ps, some (hd0 p.name (.tup (p.params.map D.str)), [blk0]))) (.new p.name p.params h.name h.params h.plen) ?_
  have h1 : ∃ g, g < 1 ∨ g < 2 ∧ True ∧ RunT (ps, some (hd0 p.name (.tup (p.params.map D.str)), [blk0])) (if p.places.isEmpty = true then [] else [wLoc :: listed p.places]) (ps, some ({ hd0 p.name (.tup (p.params.map D.str)) with locals := .tup (p.places.map D.str), stage := g }, [blk0])) := ⟨0, .inl (by decide)⟩
  have h1 : ∃ g : Int, g < 2 ∧ RunT (ps, some (hd0 p.name (.tup (p.params.map D.str)), [blk0])) (if p.places.isEmpty = true then [] else [wLoc :: listed p.places]) (ps, some ({ hd0 p.name (.tup (p.params.map D.str)) with locals := .tup (p.places.map D.str), stage := g }, [blk0])) := by
    by_cases e : p.places.isEmpty = true
    · rw [if_pos e]
      have : p.places = [] := by simpa using e
      rw [this]
      exact ⟨0, by decide, .nil⟩
    · rw [if_neg e]
      exact ⟨1, by decide, .one (.mid (.head (.loc p.places (by show (0 : Int) < 1; decide) (by simpa using e) h.places h.llen)) w_end.2.2.2.1)⟩
  obtain ⟨g1, hg1, r1⟩ := h1
  have h2 : ∃ g : Int, g < 4 ∧ RunT (ps, some ({ hd0 p.name (.tup (p.params.map D.str)) with locals := .tup (p.places.map D.str), stage := g1 }, [blk0])) (if p.need.isEmpty = true then [] else [wNeed :: partsToks p.need]) (ps, some ({ hd0 p.name (.tup (p.params.map D.str)) with locals := .tup (p.places.map D.str), need := picD p.need, stage := g }, [blk0])) := by
    by_cases e : p.need.isEmpty = true
    · rw [if_pos e]
      have : p.need = [] := by simpa using e
      rw [this]
      exact ⟨g1, by omega, .nil⟩
    · rw [if_neg e]
      exact ⟨2, by decide, .one (.mid (.head (.need p.need hg1 ⟨by simpa using e, h.need, h.nlen⟩)) w_end.2.2.2.2.1)⟩
  obtain ⟨g2, hg2, r2⟩ := h2
  obtain ⟨g3, hg3, r3⟩ := run_ens ps [blk0] p.ens { hd0 p.name (.tup (p.params.map D.str)) with locals := .tup (p.places.map D.str), need := picD p.need, stage := g2 } h.ens hg2 (by simp [hd0]; have := h.elen; omega)
  obtain ⟨g4, r4⟩ := run_b 20 p.body ps { hd0 p.name (.tup (p.params.map D.str)) with locals := .tup (p.places.map D.str), need := picD p.need, ens := [] ++ p.ens.map picD, stage := g3 } [] blk0 h.body (by decide) (by simp [blk0]; have := h.blen; omega)
  refine ((r1.app (r2.app r3)).app (r4.app (.one ?_)))
  have := LineR.fin (ps := ps) (st := { hd0 p.name (.tup (p.params.map D.str)) with locals := .tup (p.places.map D.str), need := picD p.need, ens := [] ++ p.ens.map picD, stage := g4 }) (b := { blk0 with rows := blk0.rows ++ encB p.body }) hps
  simpa [procD, Proc.enc, blk0, hd0] using this
theorem run_ps : ∀ (qs : List Proc) (ps : List D), (∀ p ∈ qs, p.Ok) → ps.length + qs.length ≤ 1000 → RunT (ps, none) (qs.flatMap procL) (ps ++ qs.map Proc.enc, none)
  | [], ps, _, _ => by simpa using RunT.nil
  | q :: r, ps, h, hl => by
    simp only [List.length_cons] at hl
    have h1 := run_p q (h q List.mem_cons_self) ps (by omega)
    have h2 := run_ps r (ps ++ [q.enc]) (fun p hp => h p (List.mem_cons_of_mem _ hp)) (by simp; omega)
    rw [List.flatMap_cons]
    refine h1.app ?_
    simpa using h2
end K02

set_option maxHeartbeats 4000000
namespace K02
open PySem PySem.Spec PyProof.Rows L2 PL SX
variable {P : Program} {w : World} {K : PySem.W.Frag} {mg : Str → Option Value} {base : Heap} {C_Cursor C_Block C_ProcReader C_Reader v_proc_name : Addr}
local macro_rules | `(tactic| simp! [$ls,*]) => `(tactic| simp only [s_fld, s_fldK, s_insAt, s_optD, s_obAt, s_fput, s_fputK1, s_fputK2, s_faug, s_faugK1, s_faugK2, s_faugK3, s_meth, s_methK1, s_methK2, s_make, s_makeK, s_makeK2, s_dead, s_tryN, noX_nx, noX_rt, noX_bk, noX_ct, mSplit, opMulS, s_enum, s_enumK, s_sortBy, s_sortByK, look_nil, look_cons, putFD_nil, putFD_cons, List.append_nil, to_nx, to_rt, to_bk, to_ct, to_ex, lp_nx, lp_rt, lp_bk, lp_ct, lp_ex, ret_nx, ret_rt, ret_ex, s_exK, s_bif1, s_bif0, s_optB, s_optE, s_nxD, s_ifK, s_asgN, s_asgT, s_asgL, b_nil, b_nm, b_tp, s_next, s_seq, s_drop, s_ret, s_retN, s_ifS, s_asg, s_brk, s_cont, s_put, s_put1, s_put2, s_put3, s_aug, s_augV, s_augK, s_augK2, s_bin, s_bin1, s_bin2, s_var, s_varK, s_C, s_cb, s_cbK, s_call, s_callK, s_m, s_m1, s_m2, s_nil, s_cons, s_cons1, s_cons2, s_tup, s_tupK, s_lst, s_lstK, s_truth, s_trK, s_tK, s_eK, s_cK, s_and, s_andK, s_or, s_orK, s_not, s_notK, s_ife, s_ifeK, s_andV, s_orV, s_andvK, s_orvK, s_andvK2, s_orvK2, s_notV, s_notvK, s_blK, s_neg, s_negK, s_sl, s_sl1, s_sl2, s_sl3, s_noPart, s_part, s_partK, s_rev, s_revK, s_for, s_forK, s_lc, s_lcK, s_yes, s_walk, s_walkT, s_walkS, s_walkA, s_walkL, s_walkR, s_rng1, s_rng2, s_rng1K, s_rng2K, s_callL, s_callLK, s_callLO, s_clK, s_raise, r_val, r_new, r_put, s_whK, s_lcY, s_lcT, s_lcE, s_cg, s_cgK, s_rng3, s_rng3K, s_lcB, s_lcS, wipeD, Pat.bind, seqOf, rg, s_dict0, s_sortSet, s_sortSetK, q_is_tuple, q_is_str, q_is_int, q_is_bool, q_is_list, q_isR, ofS_inj, String.reduceEq, q_eqI, q_neI, q_eqS, q_neS, decide_true, decide_false, Int.reduceEq, reduceCtorEq, i_NoneType_tuple, i_NoneType_str, i_NoneType_int, i_NoneType_bool, i_NoneType_list, i_bool_tuple, i_bool_str, i_bool_int, i_bool_bool, i_bool_list, i_int_tuple, i_int_str, i_int_int, i_int_bool, i_int_list, i_str_tuple, i_str_str, i_str_int, i_str_bool, i_str_list, i_tuple_tuple, i_tuple_str, i_tuple_int, i_tuple_bool, i_tuple_list, i_list_tuple, i_list_str, i_list_int, i_list_bool, i_list_list, i_dict_tuple, i_dict_str, i_dict_int, i_dict_bool, i_dict_list, tyN, startD, mupd_same, mupd_ne, ne_eq, not_false_eq_true, List.map_cons, List.map_nil, List.length_cons, List.length_nil, List.replicate_succ, List.replicate_zero, Nat.zero_add, Nat.reduceAdd, Nat.reduceSub, Int.cast_ofNat_Int, List.cons_append, List.nil_append, List.getElem?_cons_zero, List.getElem?_cons_succ, List.set_cons_zero, List.set_cons_succ, opIx, atI_cons, ixN, opPut, opAdd, opSub, opMul, opFdiv, opMod, opPow, opLt, opLe, opGt, opGe, opIs, opIsNot, D.isNon, truth, bLen, bAbs, bInt, bTuple, bList, isTy, mAppend, mExtend, mPop, Int.reduceLE, Int.reduceLT, Int.reduceToNat, Int.reduceNeg, Int.reduceNe, Option.bind_some, if_true, if_false, ite_true, ite_false, true_and, and_true, Bool.not_true, Bool.not_false, opIadd, Nat.reduceLT, Nat.reduceLeDiff, Int.ofNat_lt, s_dpNil, s_dpCons, s_dpK1, s_dpK2, s_dpK3, s_disp, s_dispK, s_optKV, kvOf, s_dc, s_dcK, s_keys, s_lockK, s_sortIt, mGet, mDPop, dgetR, bDictC, bTupC, opEqD, opNeD, eqDR, D.key, merge_one, optKV, id, opEqL, opNeL, eqLR, $ls,*])
theorem ne_new {M : Mem} {f l : Addr} {o : Ob} (h : M f = some o) (hl : M l = none) : f ≠ l := by rintro rfl; rw [h] at hl; cases hl
theorem cut_len {α : Type} (x : α) (n : Nat) : PL.cutD [x] none (some (n : Int)) = if n = 0 then [] else [x] := by
  unfold PL.cutD
  rw [HT.sIx_none, HT.sIx_nat]
  cases n with
  | zero => rfl
  | succ n => simp
theorem put_at {M : Mem} {f l : Addr} {o o' : Ob} (h : M f = some o) (hl : M l = none) : (mupd M l o') f = some o := by rw [mupd_ne (ne_new h hl)]; exact h
/-- found + [x][:len(found)] -/
def catS (t : Str) (ds : List D) : List D := ds ++ (if ds.length = 0 then [] else [.str t])
def sp_listed : DSp := fun ds M Q E => ∃ (ns : List Str), ds = [.tup (ns.map D.str)] ∧ ns.length ≤ 1000 ∧ ∀ f M', M f = none → M' f = some (.lst ((listed ns).map D.str)) → Keep [] M M' → Q (.ob f) M'
theorem mono_listed : MonoSp sp_listed := by
  rintro ds M Q Q' E E' hQ hE ⟨ns, h1, h2, h⟩
  exact ⟨ns, h1, h2, fun f M' z1 z2 z3 => hQ _ _ (h f M' z1 z2 z3)⟩
theorem listed_snoc (ns : List Str) (x : Str) : listed (ns ++ [x]) = listed ns ++ (if (listed ns).length = 0 then [] else [tC]) ++ [x] := by
  cases ns with
  | nil => rfl
  | cons y r => simp [listed]
theorem listed_len (ns : List Str) : (listed ns).length ≤ 2 * ns.length := by
  cases ns with
  | nil => exact Nat.zero_le _
  | cons y r =>
    have : ∀ l : List Str, (l.flatMap fun y => [tC, y]).length = 2 * l.length := fun l => by
      induction l with
      | nil => rfl
      | cons a l ih => simp only [List.flatMap_cons, List.length_append, ih, List.length_cons, List.length_nil]; omega
    simp only [listed, List.length_cons, this]
    omega
theorem fn_listed (S0 : Src K mg "_law_listed" s__law_listed ["names"]) (G : GF K mg C_Cursor C_Block C_ProcReader C_Reader v_proc_name) : Fn P w K mg base 1 "_law_listed" sp_listed [] := by
  refine S0.fn mono_listed fun g fd F => fn_ok F sc__law_listed (fun ds M Q E h => by obtain ⟨ns, rfl, _⟩ := h; rfl) ⟨_, fun cdv A outer s H E hr => have hu := hr.u200
    (xss_cons (xs_set 1 sc__law_listed.nd (xe_lst (n := 0) xa_nil))
 (xss_cons (xs_for (p := .nm 2) bx_passes rfl (xi_walk (xe_var 0)) (xg_name 2 sc__law_listed.nd)
 (xss_one (xs_set 1 sc__law_listed.nd (xe_bin x_add (xe_bin x_add (xe_var 1) (xe_sl (xe_lst (n := 1) (xa_cons xe_str xa_nil)) xo_none (xo_some (xe_callB c_len (by rfl) G.len (by decide +kernel) (xa_cons (xe_var 1) xa_nil))))) (xe_lst (n := 1) (xa_cons (xe_var 2) xa_nil))))))
 (xss_one (xs_ret (xe_var 1))))), fun ds M Q E h => ?_⟩
  obtain ⟨ns, rfl, hl, h⟩ := h
  have sz : (16777216 : Nat) = sizeLine := sizeLine_eq.symm
  simp! []
  intro f hf
  refine loop_inv (fun x : Str => D.str x) (fun rest e M' => ∃ (done : List Str) (f : Addr) (d2 : Option D), done ++ rest = ns ∧ e = [some (.tup (ns.map D.str)), some (.ob f), d2] ∧ M f = none ∧ M' f = some (.lst ((listed done).map D.str)) ∧ Keep [] M M') (fun _ _ _ _ => trivial) ?_ ?_ ns _ _ ⟨[], f, none, rfl, rfl, hf, by simp [mupd_same, listed], Keep.new hf⟩
  · rintro x rest e M1 N ⟨done, f, d2, hd, rfl, hf0, hf1, k1⟩ hN
    have hdl : done.length ≤ 1000 := by
      have := congrArg List.length hd
      rw [List.length_append] at this
      omega
    have hll := listed_len done
    simp! []
    intro l1 h1
    have f2 := put_at (o' := .lst [.str tC]) hf1 h1
    have a2 : (mupd M1 l1 (.lst [.str tC])) l1 = some (.lst [.str tC]) := mupd_same
    have k2 : Keep [] M (mupd M1 l1 (.lst [.str tC])) := k1.trans (Keep.new h1)
    generalize mupd M1 l1 _ = M2 at f2 a2 k2 ⊢
    have ec := cut_len (D.str tC) (listed done).length
    simp! [f2, a2, List.length_map, opSl, ec]
    intro l2 h2
    have f3 := put_at (o' := .lst (if (listed done).length = 0 then [] else [.str tC])) f2 h2
    have a3 : (mupd M2 l2 (.lst (if (listed done).length = 0 then [] else [.str tC]))) l2 = some (.lst (if (listed done).length = 0 then [] else [.str tC])) := mupd_same
    have k3 : Keep [] M (mupd M2 l2 (.lst (if (listed done).length = 0 then [] else [.str tC]))) := k2.trans (Keep.new h2)
    generalize mupd M2 l2 _ = M3 at f3 a3 k3 ⊢
    simp! [f3, a3, List.length_map]
    have hc : (if (listed done).length = 0 then [] else [D.str tC]).length ≤ 1 := by split <;> simp
    refine ⟨by rw [← sz]; omega, fun l3 h3 => ?_⟩
    have f4 : (mupd M3 l3 (.lst ((listed done).map D.str ++ if (listed done).length = 0 then [] else [.str tC]))) l3 = some (.lst ((listed done).map D.str ++ if (listed done).length = 0 then [] else [.str tC])) := mupd_same
    have k4 : Keep [] M (mupd M3 l3 (.lst ((listed done).map D.str ++ if (listed done).length = 0 then [] else [.str tC]))) := k3.trans (Keep.new h3)
    generalize mupd M3 l3 _ = M4 at f4 k4 ⊢
    try simp! []
    intro l4 h4
    have f5 := put_at (o' := .lst [.str x]) f4 h4
    have a5 : (mupd M4 l4 (.lst [.str x])) l4 = some (.lst [.str x]) := mupd_same
    have k5 : Keep [] M (mupd M4 l4 (.lst [.str x])) := k4.trans (Keep.new h4)
    generalize mupd M4 l4 _ = M5 at f5 a5 k5 ⊢
    simp! [f5, a5, List.length_map]
    refine ⟨by rw [← sz]; simp only [List.length_append, List.length_map, List.length_cons, List.length_nil]; omega, fun l5 h5 => ?_⟩
    refine hN _ _ ⟨done ++ [x], l5, _, by rw [← hd]; simp, rfl, Keep.back k5 h5 (by simp), ?_, k5.trans (Keep.new h5)⟩
    rw [mupd_same, listed_snoc]
    simp only [List.map_append, List.map_cons, List.map_nil]
    split <;> rfl
  · rintro e M1 ⟨done, f, d2, hd, rfl, hf0, hf1, k1⟩
    rw [List.append_nil] at hd
    subst hd
    try simp! []
    exact h f _ hf0 hf1 k1
/-! parts -/
def partD (p : Part) : D := .tup [.str p.1, .str p.2.1, .str p.2.2]
def KindOk (p : Part) : Prop := p.1 = kSame ∨ p.1 = kUnl ∨ p.1 = kCell ∨ p.1 = kChn ∨ p.1 = kNone
def sp_ptoks : DSp := fun ds M Q E => ∃ (p : Part), ds = [partD p] ∧ KindOk p ∧ ∀ f M', M f = none → M' f = some (.lst ((partToks p).map D.str)) → Keep [] M M' → Q (.ob f) M'
theorem mono_ptoks : MonoSp sp_ptoks := by
  rintro ds M Q Q' E E' hQ hE ⟨ns, h1, h2, h⟩
  exact ⟨ns, h1, h2, fun f M' z1 z2 z3 => hQ _ _ (h f M' z1 z2 z3)⟩
theorem lk_same : look (mergeD [] [((Sum.inr (Str.ofString "same") : Key), D.str (Str.ofString "==")), (Sum.inr (Str.ofString "unlike"), D.str (Str.ofString "!="))]) (Sum.inr (Str.ofString "same")) = some (D.str tEq) := by kernel_rfl
theorem lk_unl : look (mergeD [] [((Sum.inr (Str.ofString "same") : Key), D.str (Str.ofString "==")), (Sum.inr (Str.ofString "unlike"), D.str (Str.ofString "!="))]) (Sum.inr (Str.ofString "unlike")) = some (D.str tNe) := by kernel_rfl
theorem fn_ptoks (S0 : Src K mg "_law_part_tokens" s__law_part_tokens ["part"]) (G : GF K mg C_Cursor C_Block C_ProcReader C_Reader v_proc_name) : Fn P w K mg base 1 "_law_part_tokens" sp_ptoks [] := by
  refine S0.fn mono_ptoks fun g fd F => fn_ok F sc__law_part_tokens (fun ds M Q E h => by obtain ⟨p, rfl, _⟩ := h; rfl) ⟨_, fun cdv A outer s H E hr => have hu := hr.u200
    (xss_cons (xs_asg (p := .tp [.nm 1, .nm 2, .nm 3]) (xe_var 0) (xg_tup rfl (xgs_cons (xg_name 1 sc__law_part_tokens.nd) (xgs_cons (xg_name 2 sc__law_part_tokens.nd) (xgs_cons (xg_name 3 sc__law_part_tokens.nd) xgs_nil)))))
 (xss_cons (xs_if (xt_cmp (x_eq hu) (xe_var 1) xe_str (nomark _) bl_eq)
 (xss_one (xs_ret (xe_lst (n := 1) (xa_cons xe_str xa_nil))))
 xss_nil)
 (xss_cons (xs_if (xt_wh (xw_or (xt_cmp (x_eq hu) (xe_var 1) xe_str (nomark _) bl_eq) (xw_or1 (xt_cmp (x_eq hu) (xe_var 1) xe_str (nomark _) bl_eq))))
 (xss_one (xs_ret (xe_lst (n := 3) (xa_cons (xe_var 2) (xa_cons (xe_ix hu (xe_disp (xps_cons xe_str xe_str (xps_cons xe_str xe_str xps_nil))) (xe_var 1)) (xa_cons (xe_var 3) xa_nil))))))
 xss_nil)
 (xss_one (xs_ret (xe_lst (n := 6) (xa_cons (xe_var 1) (xa_cons xe_str (xa_cons (xe_var 2) (xa_cons xe_str (xa_cons (xe_var 3) (xa_cons xe_str xa_nil)))))))))))), fun ds M Q E h => ?_⟩
  obtain ⟨⟨k, x, y⟩, rfl, hk, h⟩ := h
  unfold KindOk at hk
  dsimp only at hk
  obtain ⟨z1, z2, z3, z4, z5, z6, z7, z8, z9, z10⟩ := kne
  rcases hk with rfl | rfl | rfl | rfl | rfl
  · have e : partToks (kSame, x, y) = [x, tEq, y] := by simp [partToks, z1]
    rw [e] at h
    simp! [partD]
    intro l1 h1
    simp! [lk_same, lk_unl, mupd_mupd]
    intro l2 h2
    exact h l2 _ (Keep.back (Keep.new (S := []) h1) h2 (by simp)) (by simp [mupd_same]) ((Keep.new h1).trans (Keep.new h2))
  · have e : partToks (kUnl, x, y) = [x, tNe, y] := by simp [partToks, z2, z9]
    rw [e] at h
    simp! [partD]
    intro l1 h1
    simp! [lk_same, lk_unl, mupd_mupd]
    intro l2 h2
    exact h l2 _ (Keep.back (Keep.new (S := []) h1) h2 (by simp)) (by simp [mupd_same]) ((Keep.new h1).trans (Keep.new h2))
  · have e : partToks (kCell, x, y) = [kCell, tL, x, tC, y, tR] := by simp [partToks, z3, z5, z6]
    rw [e] at h
    simp! [partD]
    intro l1 h1
    exact h l1 _ h1 (by simp [mupd_same]) (Keep.new h1)
  · have e : partToks (kChn, x, y) = [kChn, tL, x, tC, y, tR] := by simp [partToks, z4, z7, z8]
    rw [e] at h
    simp! [partD]
    intro l1 h1
    exact h l1 _ h1 (by simp [mupd_same]) (Keep.new h1)
  · have e : partToks (kNone, x, y) = [kNone] := by simp [partToks]
    rw [e] at h
    simp! [partD]
    intro l1 h1
    exact h l1 _ h1 (by simp [mupd_same]) (Keep.new h1)
theorem partToks_len (p : Part) : (partToks p).length ≤ 6 ∧ partToks p ≠ [] := by
  unfold partToks
  split
  · simp
  · split
    · simp
    · split <;> simp
def sp_pstoks : DSp := fun ds M Q E => ∃ (a : Addr) (ps : List Part), ds = [.ob a] ∧ M a = some (.lst (ps.map partD)) ∧ ps.length ≤ 1000 ∧ (∀ p ∈ ps, KindOk p) ∧ ∀ f M', M f = none → M' f = some (.lst ((partsToks ps).map D.str)) → Keep [] M M' → Q (.ob f) M'
theorem mono_pstoks : MonoSp sp_pstoks := by
  rintro ds M Q Q' E E' hQ hE ⟨a, ns, h1, h2, h3, h4, h⟩
  exact ⟨a, ns, h1, h2, h3, h4, fun f M' z1 z2 z3 => hQ _ _ (h f M' z1 z2 z3)⟩
theorem partsToks_snoc (ps : List Part) (p : Part) : partsToks (ps ++ [p]) = partsToks ps ++ (if (partsToks ps).length = 0 then [] else [tX]) ++ partToks p := by
  cases ps with
  | nil => simp [partsToks, partsTail]
  | cons q r =>
    have : (partsToks (q :: r)).length ≠ 0 := by
      have := (partToks_len q).2
      simp only [partsToks, List.length_append]
      cases e : partToks q with
      | nil => exact absurd e this
      | cons a b => simp
    rw [if_neg this]
    simp [partsToks, partsTail]
theorem partsToks_len : ∀ (ps : List Part), (partsToks ps).length ≤ 7 * ps.length
  | [] => Nat.zero_le _
  | q :: r => by
    have : ∀ l : List Part, (partsTail l).length ≤ 7 * l.length := fun l => by
      induction l with
      | nil => exact Nat.zero_le _
      | cons a l ih =>
        have := (partToks_len a).1
        simp only [partsTail, List.flatMap_cons, List.length_append, List.length_cons] at ih ⊢
        omega
    have h1 := this r
    have h2 := (partToks_len q).1
    simp only [partsToks, List.length_append, List.length_cons]
    omega
theorem fn_pstoks (S0 : Src K mg "_law_parts_tokens" s__law_parts_tokens ["parts"]) (G : GF K mg C_Cursor C_Block C_ProcReader C_Reader v_proc_name) (F__law_part_tokens : Fn P w K mg base 1 "_law_part_tokens" sp_ptoks []) : Fn P w K mg base 2 "_law_parts_tokens" sp_pstoks [] := by
  refine S0.fn mono_pstoks fun g fd F => fn_ok F sc__law_parts_tokens (fun ds M Q E h => by obtain ⟨a, ps, rfl, _⟩ := h; rfl) ⟨_, fun cdv A outer s H E hr => have hu := hr.u200
    (xss_cons (xs_set 1 sc__law_parts_tokens.nd (xe_lst (n := 0) xa_nil))
 (xss_cons (xs_for (p := .nm 2) bx_passes rfl (xi_walk (xe_var 0)) (xg_name 2 sc__law_parts_tokens.nd)
 (xss_one (xs_set 1 sc__law_parts_tokens.nd (xe_bin x_add (xe_bin x_add (xe_var 1) (xe_sl (xe_lst (n := 1) (xa_cons xe_str xa_nil)) xo_none (xo_some (xe_callB c_len (by rfl) G.len (by decide +kernel) (xa_cons (xe_var 1) xa_nil))))) (xe_call F__law_part_tokens (hr.mono (by first | decide | omega)) bx_takes (by rfl) (xa_cons (xe_var 2) xa_nil))))))
 (xss_one (xs_ret (xe_var 1))))), fun ds M Q E h => ?_⟩
  obtain ⟨a, ps, rfl, ha, hl, hk, h⟩ := h
  have sz : (16777216 : Nat) = sizeLine := sizeLine_eq.symm
  simp! []
  intro f hf
  have a0 := put_at (o' := .lst []) ha hf
  simp! [a0]
  refine loop_inv partD (fun rest e M' => ∃ (done : List Part) (f : Addr) (d2 : Option D), done ++ rest = ps ∧ e = [some (.ob a), some (.ob f), d2] ∧ M f = none ∧ M' a = some (.lst (ps.map partD)) ∧ M' f = some (.lst ((partsToks done).map D.str)) ∧ Keep [] M M') (fun _ _ _ ⟨_, _, _, _, _, _, z, _⟩ => .inl z) ?_ ?_ ps _ _ ⟨[], f, none, rfl, rfl, hf, a0, by simp [mupd_same, partsToks], Keep.new hf⟩
  · rintro p rest e M1 N ⟨done, f, d2, hd, rfl, hf0, ha1, hf1, k1⟩ hN
    have hdl : done.length ≤ 1000 := by
      have := congrArg List.length hd
      rw [List.length_append] at this
      omega
    have hll := partsToks_len done
    simp! []
    intro l1 h1
    have f2 := put_at (o' := .lst [.str tX]) hf1 h1
    have a2 : (mupd M1 l1 (.lst [.str tX])) l1 = some (.lst [.str tX]) := mupd_same
    have k2 : Keep [] M (mupd M1 l1 (.lst [.str tX])) := k1.trans (Keep.new h1)
    generalize mupd M1 l1 _ = M2 at f2 a2 k2 ⊢
    have ec := cut_len (D.str tX) (partsToks done).length
    simp! [f2, a2, List.length_map, opSl, ec]
    intro l2 h2
    have f3 := put_at (o' := .lst (if (partsToks done).length = 0 then [] else [.str tX])) f2 h2
    have a3 : (mupd M2 l2 (.lst (if (partsToks done).length = 0 then [] else [.str tX]))) l2 = some (.lst (if (partsToks done).length = 0 then [] else [.str tX])) := mupd_same
    have k3 : Keep [] M (mupd M2 l2 (.lst (if (partsToks done).length = 0 then [] else [.str tX]))) := k2.trans (Keep.new h2)
    generalize mupd M2 l2 _ = M3 at f3 a3 k3 ⊢
    simp! [f3, a3, List.length_map]
    have hc : (if (partsToks done).length = 0 then [] else [D.str tX]).length ≤ 1 := by split <;> simp
    refine ⟨by rw [← sz]; omega, fun l3 h3 => ?_⟩
    have f4 : (mupd M3 l3 (.lst ((partsToks done).map D.str ++ if (partsToks done).length = 0 then [] else [.str tX]))) l3 = some (.lst ((partsToks done).map D.str ++ if (partsToks done).length = 0 then [] else [.str tX])) := mupd_same
    have k4 : Keep [] M (mupd M3 l3 (.lst ((partsToks done).map D.str ++ if (partsToks done).length = 0 then [] else [.str tX]))) := k3.trans (Keep.new h3)
    generalize mupd M3 l3 _ = M4 at f4 k4 ⊢
    try simp! []
    refine ⟨p, rfl, hk p (by rw [← hd]; simp), fun l4 M5 h4 a5 k45 => ?_⟩
    have f5 := k45 _ _ f4 (by simp)
    have k5 := k4.trans k45
    have hpl := (partToks_len p).1
    simp! [f5, a5, List.length_map]
    refine ⟨by rw [← sz]; simp only [List.length_append, List.length_map]; omega, fun l5 h5 => ?_⟩
    refine hN _ _ ⟨done ++ [p], l5, _, by rw [← hd]; simp, rfl, Keep.back k5 h5 (by simp), (k5.trans (Keep.new h5)) _ _ ha (by simp), ?_, k5.trans (Keep.new h5)⟩
    rw [mupd_same, partsToks_snoc]
    simp only [List.map_append, List.map_cons, List.map_nil]
    split <;> rfl
  · rintro e M1 ⟨done, f, d2, hd, rfl, hf0, ha1, hf1, k1⟩
    rw [List.append_nil] at hd
    subst hd
    try simp! []
    exact h f _ hf0 hf1 k1
/-! tests, statements without blocks -/
def sp_ttoks : DSp := fun ds M Q E => ∃ (s : Bool) (a b : Str), ds = [testD s a b] ∧ ∀ f M', M f = none → M' f = some (.lst ([a, opT s, b].map D.str)) → Keep [] M M' → Q (.ob f) M'
theorem mono_ttoks : MonoSp sp_ttoks := by
  rintro ds M Q Q' E E' hQ hE ⟨s, a, b, h1, h⟩
  exact ⟨s, a, b, h1, fun f M' z1 z2 z3 => hQ _ _ (h f M' z1 z2 z3)⟩
theorem fn_ttoks (S0 : Src K mg "_law_test_tokens" s__law_test_tokens ["test"]) (G : GF K mg C_Cursor C_Block C_ProcReader C_Reader v_proc_name) : Fn P w K mg base 1 "_law_test_tokens" sp_ttoks [] := by
  refine S0.fn mono_ttoks fun g fd F => fn_ok F sc__law_test_tokens (fun ds M Q E h => by obtain ⟨s, a, b, rfl, _⟩ := h; rfl) ⟨_, fun cdv A outer s H E hr => have hu := hr.u200
    (xss_one (xs_ret (xe_lst (n := 3) (xa_cons (xe_ix hu (xe_var 0) xe_int) (xa_cons (xe_ix hu (xe_disp (xps_cons xe_str xe_str (xps_cons xe_str xe_str xps_nil))) (xe_ix hu (xe_var 0) xe_int)) (xa_cons (xe_ix hu (xe_var 0) xe_int) xa_nil)))))), fun ds M Q E h => ?_⟩
  obtain ⟨s, a, b, rfl, h⟩ := h
  cases s with
  | true =>
    simp! [testD, kindS, atI_zero]
    intro l1 h1
    simp! [lk_same, lk_unl, mupd_mupd]
    intro l2 h2
    exact h l2 _ (Keep.back (Keep.new (S := []) h1) h2 (by simp)) (by simp [mupd_same, opT]) ((Keep.new h1).trans (Keep.new h2))
  | false =>
    simp! [testD, kindS, atI_zero]
    intro l1 h1
    simp! [lk_same, lk_unl, mupd_mupd]
    intro l2 h2
    exact h l2 _ (Keep.back (Keep.new (S := []) h1) h2 (by simp)) (by simp [mupd_same, opT]) ((Keep.new h1).trans (Keep.new h2))
end K02

set_option maxHeartbeats 4000000
namespace K02
open PySem PySem.Spec PyProof.Rows L2 PL SX
variable {P : Program} {w : World} {K : PySem.W.Frag} {mg : Str → Option Value} {base : Heap} {C_Cursor C_Block C_ProcReader C_Reader v_proc_name : Addr}
local macro_rules | `(tactic| simp! [$ls,*]) => `(tactic| simp only [s_fld, s_fldK, s_insAt, s_optD, s_obAt, s_fput, s_fputK1, s_fputK2, s_faug, s_faugK1, s_faugK2, s_faugK3, s_meth, s_methK1, s_methK2, s_make, s_makeK, s_makeK2, s_dead, s_tryN, noX_nx, noX_rt, noX_bk, noX_ct, mSplit, opMulS, s_enum, s_enumK, s_sortBy, s_sortByK, look_nil, look_cons, putFD_nil, putFD_cons, List.append_nil, to_nx, to_rt, to_bk, to_ct, to_ex, lp_nx, lp_rt, lp_bk, lp_ct, lp_ex, ret_nx, ret_rt, ret_ex, s_exK, s_bif1, s_bif0, s_optB, s_optE, s_nxD, s_ifK, s_asgN, s_asgT, s_asgL, b_nil, b_nm, b_tp, s_next, s_seq, s_drop, s_ret, s_retN, s_ifS, s_asg, s_brk, s_cont, s_put, s_put1, s_put2, s_put3, s_aug, s_augV, s_augK, s_augK2, s_bin, s_bin1, s_bin2, s_var, s_varK, s_C, s_cb, s_cbK, s_call, s_callK, s_m, s_m1, s_m2, s_nil, s_cons, s_cons1, s_cons2, s_tup, s_tupK, s_lst, s_lstK, s_truth, s_trK, s_tK, s_eK, s_cK, s_and, s_andK, s_or, s_orK, s_not, s_notK, s_ife, s_ifeK, s_andV, s_orV, s_andvK, s_orvK, s_andvK2, s_orvK2, s_notV, s_notvK, s_blK, s_neg, s_negK, s_sl, s_sl1, s_sl2, s_sl3, s_noPart, s_part, s_partK, s_rev, s_revK, s_for, s_forK, s_lc, s_lcK, s_yes, s_walk, s_walkT, s_walkS, s_walkA, s_walkL, s_walkR, s_rng1, s_rng2, s_rng1K, s_rng2K, s_callL, s_callLK, s_callLO, s_clK, s_raise, r_val, r_new, r_put, s_whK, s_lcY, s_lcT, s_lcE, s_cg, s_cgK, s_rng3, s_rng3K, s_lcB, s_lcS, wipeD, Pat.bind, seqOf, rg, s_dict0, s_sortSet, s_sortSetK, q_is_tuple, q_is_str, q_is_int, q_is_bool, q_is_list, q_isR, ofS_inj, String.reduceEq, q_eqI, q_neI, q_eqS, q_neS, decide_true, decide_false, Int.reduceEq, reduceCtorEq, i_NoneType_tuple, i_NoneType_str, i_NoneType_int, i_NoneType_bool, i_NoneType_list, i_bool_tuple, i_bool_str, i_bool_int, i_bool_bool, i_bool_list, i_int_tuple, i_int_str, i_int_int, i_int_bool, i_int_list, i_str_tuple, i_str_str, i_str_int, i_str_bool, i_str_list, i_tuple_tuple, i_tuple_str, i_tuple_int, i_tuple_bool, i_tuple_list, i_list_tuple, i_list_str, i_list_int, i_list_bool, i_list_list, i_dict_tuple, i_dict_str, i_dict_int, i_dict_bool, i_dict_list, tyN, startD, mupd_same, mupd_ne, ne_eq, not_false_eq_true, List.map_cons, List.map_nil, List.length_cons, List.length_nil, List.replicate_succ, List.replicate_zero, Nat.zero_add, Nat.reduceAdd, Nat.reduceSub, Int.cast_ofNat_Int, List.cons_append, List.nil_append, List.getElem?_cons_zero, List.getElem?_cons_succ, List.set_cons_zero, List.set_cons_succ, opIx, atI_cons, ixN, opPut, opAdd, opSub, opMul, opFdiv, opMod, opPow, opLt, opLe, opGt, opGe, opIs, opIsNot, D.isNon, truth, bLen, bAbs, bInt, bTuple, bList, isTy, mAppend, mExtend, mPop, Int.reduceLE, Int.reduceLT, Int.reduceToNat, Int.reduceNeg, Int.reduceNe, Option.bind_some, if_true, if_false, ite_true, ite_false, true_and, and_true, Bool.not_true, Bool.not_false, opIadd, Nat.reduceLT, Nat.reduceLeDiff, Int.ofNat_lt, s_dpNil, s_dpCons, s_dpK1, s_dpK2, s_dpK3, s_disp, s_dispK, s_optKV, kvOf, s_dc, s_dcK, s_keys, s_lockK, s_sortIt, mGet, mDPop, dgetR, bDictC, bTupC, opEqD, opNeD, eqDR, D.key, merge_one, optKV, id, opEqL, opNeL, eqLR, $ls,*])
theorem datL_of {ds : List D} (h : ∀ d ∈ ds, d.dat = true) : datL ds = true := by
  induction ds with
  | nil => rfl
  | cons d r ih => simp only [datL, h d List.mem_cons_self, ih fun e he => h e (List.mem_cons_of_mem _ he), Bool.and_self]
theorem dpL_of {ds : List D} {n : Nat} (h : ∀ d ∈ ds, d.dp ≤ n) : dpL ds ≤ n := by
  induction ds with
  | nil => exact Nat.zero_le _
  | cons d r ih =>
    simp only [dpL]
    exact Nat.max_le.mpr ⟨h d List.mem_cons_self, ih fun e he => h e (List.mem_cons_of_mem _ he)⟩
theorem dat_tup {ds : List D} (hl : ds.length < 1000000) (h : ∀ d ∈ ds, d.dat = true) : (D.tup ds).dat = true := by
  simp only [D.dat, datL_of h, Bool.and_true, decide_eq_true_eq]
  exact hl
theorem dp_tup {ds : List D} {n : Nat} (h : ∀ d ∈ ds, d.dp ≤ n) : (D.tup ds).dp ≤ n + 1 := by
  have := dpL_of h
  simp only [D.dp]
  omega
theorem strs_dat {ss : List Str} (hl : ss.length < 1000000) : (D.tup (ss.map D.str)).dat = true ∧ (D.tup (ss.map D.str)).dp ≤ 1 := by
  refine ⟨dat_tup (by simpa using hl) fun d hd => ?_, dp_tup (n := 0) fun d hd => ?_⟩
  · obtain ⟨x, _, rfl⟩ := List.mem_map.mp hd; rfl
  · obtain ⟨x, _, rfl⟩ := List.mem_map.mp hd; exact Nat.le_refl _
theorem testD_dat (s : Bool) (a b : Str) : (testD s a b).dat = true ∧ (testD s a b).dp ≤ 1 := strs_dat (ss := [kindS s, a, b]) (by simp)
theorem sim_dat {s : Sim} (h : s.Ok) : s.enc.dat = true ∧ s.enc.dp ≤ 2 := by
  cases s with
  | copy x y => exact (strs_dat (ss := ["copy", x, y]) (by simp)).imp id fun h => Nat.le_trans h (by decide)
  | read x y => exact (strs_dat (ss := ["read", x, y]) (by simp)).imp id fun h => Nat.le_trans h (by decide)
  | link x y => exact (strs_dat (ss := ["link", x, y]) (by simp)).imp id fun h => Nat.le_trans h (by decide)
  | new x => exact (strs_dat (ss := ["new", x]) (by simp)).imp id fun h => Nat.le_trans h (by decide)
  | free x => exact (strs_dat (ss := ["free", x]) (by simp)).imp id fun h => Nat.le_trans h (by decide)
  | call f as =>
    obtain ⟨h1, h2⟩ := strs_dat (ss := as) (by have := h.2.2; omega)
    unfold Sim.enc
    refine ⟨dat_tup (by simp) fun d hd => ?_, dp_tup (n := 1) fun d hd => ?_⟩
    · simp only [List.mem_cons, List.not_mem_nil, or_false] at hd
      rcases hd with rfl | rfl | rfl
      · rfl
      · rfl
      · exact h1
    · simp only [List.mem_cons, List.not_mem_nil, or_false] at hd
      rcases hd with rfl | rfl | rfl
      · exact Nat.zero_le _
      · exact Nat.zero_le _
      · exact h2
mutual
theorem stm_dat : ∀ (d : Nat) (x : Stm), OkS d x → x.enc.dat = true ∧ x.enc.dp ≤ 2 * d + 2
  | d, .sim s, h => by
    unfold OkS at h
    unfold Stm.enc
    exact (sim_dat h).imp id fun h => Nat.le_trans h (by omega)
  | d, .whl s a b body, h => by
    unfold OkS at h
    obtain ⟨_, _, h0, hb, hl⟩ := h
    obtain ⟨h1, h2⟩ := stmB_dat (d - 1) body hb
    obtain ⟨t1, t2⟩ := testD_dat s a b
    have t3 := dat_tup (by rw [encB_len]; omega) h1
    have t4 := dp_tup h2
    unfold Stm.enc
    refine ⟨dat_tup (by simp) fun e he => ?_, Nat.le_trans (dp_tup (n := 2 * (d - 1) + 3) fun e he => ?_) (by omega)⟩
    · simp only [List.mem_cons, List.not_mem_nil, or_false] at he
      rcases he with rfl | rfl | rfl
      · rfl
      · exact t1
      · exact t3
    · simp only [List.mem_cons, List.not_mem_nil, or_false] at he
      rcases he with rfl | rfl | rfl
      · exact Nat.zero_le _
      · omega
      · exact t4
  | d, .ite s a b f g, h => by
    unfold OkS at h
    obtain ⟨_, _, h0, hf, hfl, hg, hgl⟩ := h
    obtain ⟨f1, f2⟩ := stmB_dat (d - 1) f hf
    obtain ⟨g1, g2⟩ := stmB_dat (d - 1) g hg
    obtain ⟨t1, t2⟩ := testD_dat s a b
    have t3 := dat_tup (by rw [encB_len]; omega) f1
    have t4 := dp_tup f2
    have t5 := dat_tup (by rw [encB_len]; omega) g1
    have t6 := dp_tup g2
    unfold Stm.enc
    refine ⟨dat_tup (by simp) fun e he => ?_, Nat.le_trans (dp_tup (n := 2 * (d - 1) + 3) fun e he => ?_) (by omega)⟩
    · simp only [List.mem_cons, List.not_mem_nil, or_false] at he
      rcases he with rfl | rfl | rfl | rfl
      · rfl
      · exact t1
      · exact t3
      · exact t5
    · simp only [List.mem_cons, List.not_mem_nil, or_false] at he
      rcases he with rfl | rfl | rfl | rfl
      · exact Nat.zero_le _
      · omega
      · exact t4
      · exact t6
theorem stmB_dat : ∀ (d : Nat) (b : List Stm), OkB d b → (∀ e ∈ encB b, e.dat = true) ∧ (∀ e ∈ encB b, e.dp ≤ 2 * d + 2)
  | d, [], _ => by unfold encB; exact ⟨(fun e he => by cases he), (fun e he => by cases he)⟩
  | d, x :: r, h => by
    unfold OkB at h
    obtain ⟨h1, h2⟩ := stm_dat d x h.1
    obtain ⟨h3, h4⟩ := stmB_dat d r h.2
    unfold encB
    refine ⟨fun e he => ?_, fun e he => ?_⟩
    · rcases List.mem_cons.mp he with z | z
      · rw [z]; exact h1
      · exact h3 e z
    · rcases List.mem_cons.mp he with z | z
      · rw [z]; exact h2
      · exact h4 e z
end
theorem ne_nil {ds : List D} {M : Mem} {Q : DK} (h : ∀ d ∈ ds, d.dat = true) : (opNe (.tup ds) (.tup []) M).run M Q = Q (.bl (!ds.isEmpty)) M := by
  have hp := datL_pure (datL_of h)
  simp only [opNe, pyM, hp, pureL, if_true, D.py, pyL]
  cases ds with
  | nil => simp [Res.run, pyL, PyData.eqv, PyData.eqvAll, PyData.depth, PyData.depthAll, mostDeep]
  | cons d r => simp [Res.run, pyL, PyData.eqv, PyData.eqvAll, PyData.depth, PyData.depthAll, mostDeep]
/-! how many lines -/
mutual
theorem linesS_len : ∀ (d : Nat) (x : Stm), OkS d x → (linesS x).length ≤ 9 ^ (d + 1)
  | d, .sim s, h => by
    unfold linesS
    exact Nat.one_le_pow _ _ (by decide)
  | d, .whl s a b body, h => by
    unfold OkS at h
    obtain ⟨_, _, h0, hb, hl⟩ := h
    have := linesB_len (d - 1) body hb
    have e : 9 ^ (d + 1) = 9 * 9 ^ d := by rw [Nat.pow_succ, Nat.mul_comm]
    have e1 : d - 1 + 1 = d := by omega
    have e2 : 1 ≤ 9 ^ d := Nat.one_le_pow _ _ (by decide)
    have e3 : body.length * 9 ^ d ≤ 3 * 9 ^ d := Nat.mul_le_mul_right _ hl
    rw [e1] at this
    unfold linesS
    simp only [List.length_cons, List.length_append, List.length_nil]
    omega
  | d, .ite s a b f g, h => by
    unfold OkS at h
    obtain ⟨_, _, h0, hf, hfl, hg, hgl⟩ := h
    have h1 := linesB_len (d - 1) f hf
    have h2 := linesB_len (d - 1) g hg
    have e : 9 ^ (d + 1) = 9 * 9 ^ d := by rw [Nat.pow_succ, Nat.mul_comm]
    have e1 : d - 1 + 1 = d := by omega
    have e2 : 1 ≤ 9 ^ d := Nat.one_le_pow _ _ (by decide)
    have e3 : f.length * 9 ^ d ≤ 3 * 9 ^ d := Nat.mul_le_mul_right _ hfl
    have e4 : g.length * 9 ^ d ≤ 3 * 9 ^ d := Nat.mul_le_mul_right _ hgl
    rw [e1] at h1 h2
    unfold linesS
    simp only [List.length_cons, List.length_append, List.length_nil]
    have e5 : (if g.isEmpty = true then [] else [wElse] :: linesB g).length ≤ 1 + (linesB g).length := by
      split
      · exact Nat.zero_le _
      · simp only [List.length_cons]; omega
    omega
theorem linesB_len : ∀ (d : Nat) (b : List Stm), OkB d b → (linesB b).length ≤ b.length * 9 ^ (d + 1)
  | d, [], _ => by unfold linesB; exact Nat.zero_le _
  | d, x :: r, h => by
    unfold OkB at h
    have h1 := linesS_len d x h.1
    have h2 := linesB_len d r h.2
    unfold linesB
    rw [List.length_append, List.length_cons, Nat.succ_mul]
    omega
end
theorem OkB.app : ∀ {d : Nat} {a b : List Stm}, OkB d a → OkB d b → OkB d (a ++ b)
  | d, [], b, _, h => h
  | d, x :: r, b, h, g => by
    unfold OkB at h
    show OkB d (x :: (r ++ b))
    unfold OkB
    exact ⟨h.1, OkB.app h.2 g⟩
theorem OkB.mem : ∀ {d : Nat} {a : List Stm} {x : Stm}, OkB d a → x ∈ a → OkS d x
  | d, y :: r, x, h, hx => by
    unfold OkB at h
    rcases List.mem_cons.mp hx with e | e
    · rw [e]; exact h.1
    · exact OkB.mem h.2 e
theorem linesB_app : ∀ (a b : List Stm), linesB (a ++ b) = linesB a ++ linesB b
  | [], b => by simp [linesB]
  | x :: r, b => by
    show linesB (x :: (r ++ b)) = _
    rw [linesB, linesB_app r b, linesB, List.append_assoc]
theorem encB_map : ∀ (b : List Stm), encB b = b.map Stm.enc
  | [] => rfl
  | x :: r => by unfold encB; rw [encB_map r]; rfl
/-! statements without blocks, their tokens -/
def sp_stoks : DSp := fun ds M Q E => ∃ (s : Sim), ds = [s.enc] ∧ s.Ok ∧ ∀ f M', M f = none → M' f = some (.lst ((s.word :: s.tail).map D.str)) → Keep [] M M' → Q (.ob f) M'
theorem mono_stoks : MonoSp sp_stoks := by
  rintro ds M Q Q' E E' hQ hE ⟨s, h1, h2, h⟩
  exact ⟨s, h1, h2, fun f M' z1 z2 z3 => hQ _ _ (h f M' z1 z2 z3)⟩
theorem fn_stoks (S0 : Src K mg "_law_simple_tokens" s__law_simple_tokens ["s"]) (G : GF K mg C_Cursor C_Block C_ProcReader C_Reader v_proc_name) (F__law_listed : Fn P w K mg base 1 "_law_listed" sp_listed []) : Fn P w K mg base 2 "_law_simple_tokens" sp_stoks [] := by
  refine S0.fn mono_stoks fun g fd F => fn_ok F sc__law_simple_tokens (fun ds M Q E h => by obtain ⟨s, rfl, _⟩ := h; rfl) ⟨_, fun cdv A outer s H E hr => have hu := hr.u200
    (xss_cons (xs_if (xt_cmp (x_eq hu) (xe_ix hu (xe_var 0) xe_int) xe_str (nomark _) bl_eq)
 (xss_one (xs_ret (xe_lst (n := 4) (xa_cons xe_str (xa_cons (xe_ix hu (xe_var 0) xe_int) (xa_cons xe_str (xa_cons (xe_ix hu (xe_var 0) xe_int) xa_nil)))))))
 xss_nil)
 (xss_cons (xs_if (xt_cmp (x_eq hu) (xe_ix hu (xe_var 0) xe_int) xe_str (nomark _) bl_eq)
 (xss_one (xs_ret (xe_lst (n := 5) (xa_cons xe_str (xa_cons (xe_ix hu (xe_var 0) xe_int) (xa_cons xe_str (xa_cons xe_str (xa_cons (xe_ix hu (xe_var 0) xe_int) xa_nil))))))))
 xss_nil)
 (xss_cons (xs_if (xt_cmp (x_eq hu) (xe_ix hu (xe_var 0) xe_int) xe_str (nomark _) bl_eq)
 (xss_one (xs_ret (xe_lst (n := 5) (xa_cons xe_str (xa_cons xe_str (xa_cons (xe_ix hu (xe_var 0) xe_int) (xa_cons xe_str (xa_cons (xe_ix hu (xe_var 0) xe_int) xa_nil))))))))
 xss_nil)
 (xss_cons (xs_if (xt_cmp (x_eq hu) (xe_ix hu (xe_var 0) xe_int) xe_str (nomark _) bl_eq)
 (xss_one (xs_ret (xe_bin x_add (xe_bin x_add (xe_lst (n := 3) (xa_cons xe_str (xa_cons (xe_ix hu (xe_var 0) xe_int) (xa_cons xe_str xa_nil)))) (xe_call F__law_listed (hr.mono (by first | decide | omega)) bx_takes (by rfl) (xa_cons (xe_ix hu (xe_var 0) xe_int) xa_nil))) (xe_lst (n := 1) (xa_cons xe_str xa_nil)))))
 xss_nil)
 (xss_one (xs_ret (xe_lst (n := 2) (xa_cons (xe_ix hu (xe_var 0) xe_int) (xa_cons (xe_ix hu (xe_var 0) xe_int) xa_nil))))))))), fun ds M Q E h => ?_⟩
  obtain ⟨s, rfl, hok, h⟩ := h
  have sz : (16777216 : Nat) = sizeLine := sizeLine_eq.symm
  cases s with
  | copy x y =>
    simp! [Sim.enc, atI_zero]
    intro l1 h1
    exact h l1 _ h1 (by rw [mupd_same]; rfl) (Keep.new h1)
  | read x y =>
    simp! [Sim.enc, atI_zero]
    intro l1 h1
    exact h l1 _ h1 (by rw [mupd_same]; rfl) (Keep.new h1)
  | link x y =>
    simp! [Sim.enc, atI_zero]
    intro l1 h1
    exact h l1 _ h1 (by rw [mupd_same]; rfl) (Keep.new h1)
  | new x =>
    simp! [Sim.enc, atI_zero]
    intro l1 h1
    exact h l1 _ h1 (by rw [mupd_same]; rfl) (Keep.new h1)
  | free x =>
    simp! [Sim.enc, atI_zero]
    intro l1 h1
    exact h l1 _ h1 (by rw [mupd_same]; rfl) (Keep.new h1)
  | call f as =>
    have hl := listed_len as
    have hl2 := hok.2.2
    simp! [Sim.enc, atI_zero]
    intro l1 h1
    refine ⟨as, rfl, by omega, fun l2 M2 h2 a2 k2 => ?_⟩
    have k1 : Keep [] M (mupd M l1 (.lst [.str (Str.ofString "call"), .str f, .str tL])) := Keep.new h1
    have a1 : M2 l1 = some (.lst [.str (Str.ofString "call"), .str f, .str tL]) := k2 _ _ mupd_same (by simp)
    have kk := k1.trans k2
    simp! [a1, a2, List.length_map]
    refine ⟨by rw [← sz]; omega, fun l3 h3 => ?_⟩
    have a3 : (mupd M2 l3 (.lst (.str (Str.ofString "call") :: .str f :: .str tL :: (listed as).map D.str))) l3 = _ := mupd_same
    have k3 := kk.trans (Keep.new (o := .lst (.str (Str.ofString "call") :: .str f :: .str tL :: (listed as).map D.str)) h3)
    generalize mupd M2 l3 _ = M3 at a3 k3 ⊢
    try simp! []
    intro l4 h4
    have a4 : (mupd M3 l4 (.lst [.str tR])) l4 = _ := mupd_same
    have b4 := put_at (o' := .lst [.str tR]) a3 h4
    have k4 := k3.trans (Keep.new (o := .lst [.str tR]) h4)
    generalize mupd M3 l4 _ = M4 at a4 b4 k4 ⊢
    simp! [a4, b4, List.length_map]
    refine ⟨by rw [← sz]; (try simp only [List.length_append, List.length_map, List.length_cons, List.length_nil]); omega, fun l5 h5 => ?_⟩
    refine h l5 _ (Keep.back k4 h5 (by simp)) ?_ (k4.trans (Keep.new h5))
    rw [mupd_same]
    simp [Sim.word, Sim.tail]
end K02

set_option maxHeartbeats 4000000
namespace K02
open PySem PySem.Spec PyProof.Rows L2 PL SX
variable {P : Program} {w : World} {K : PySem.W.Frag} {mg : Str → Option Value} {base : Heap} {C_Cursor C_Block C_ProcReader C_Reader v_proc_name : Addr}
local macro_rules | `(tactic| simp! [$ls,*]) => `(tactic| simp only [s_fld, s_fldK, s_insAt, s_optD, s_obAt, s_fput, s_fputK1, s_fputK2, s_faug, s_faugK1, s_faugK2, s_faugK3, s_meth, s_methK1, s_methK2, s_make, s_makeK, s_makeK2, s_dead, s_tryN, noX_nx, noX_rt, noX_bk, noX_ct, mSplit, opMulS, s_enum, s_enumK, s_sortBy, s_sortByK, look_nil, look_cons, putFD_nil, putFD_cons, List.append_nil, to_nx, to_rt, to_bk, to_ct, to_ex, lp_nx, lp_rt, lp_bk, lp_ct, lp_ex, ret_nx, ret_rt, ret_ex, s_exK, s_bif1, s_bif0, s_optB, s_optE, s_nxD, s_ifK, s_asgN, s_asgT, s_asgL, b_nil, b_nm, b_tp, s_next, s_seq, s_drop, s_ret, s_retN, s_ifS, s_asg, s_brk, s_cont, s_put, s_put1, s_put2, s_put3, s_aug, s_augV, s_augK, s_augK2, s_bin, s_bin1, s_bin2, s_var, s_varK, s_C, s_cb, s_cbK, s_call, s_callK, s_m, s_m1, s_m2, s_nil, s_cons, s_cons1, s_cons2, s_tup, s_tupK, s_lst, s_lstK, s_truth, s_trK, s_tK, s_eK, s_cK, s_and, s_andK, s_or, s_orK, s_not, s_notK, s_ife, s_ifeK, s_andV, s_orV, s_andvK, s_orvK, s_andvK2, s_orvK2, s_notV, s_notvK, s_blK, s_neg, s_negK, s_sl, s_sl1, s_sl2, s_sl3, s_noPart, s_part, s_partK, s_rev, s_revK, s_for, s_forK, s_lc, s_lcK, s_yes, s_walk, s_walkT, s_walkS, s_walkA, s_walkL, s_walkR, s_rng1, s_rng2, s_rng1K, s_rng2K, s_callL, s_callLK, s_callLO, s_clK, s_raise, r_val, r_new, r_put, s_whK, s_lcY, s_lcT, s_lcE, s_cg, s_cgK, s_rng3, s_rng3K, s_lcB, s_lcS, wipeD, Pat.bind, seqOf, rg, s_dict0, s_sortSet, s_sortSetK, q_is_tuple, q_is_str, q_is_int, q_is_bool, q_is_list, q_isR, ofS_inj, String.reduceEq, q_eqI, q_neI, q_eqS, q_neS, decide_true, decide_false, Int.reduceEq, reduceCtorEq, i_NoneType_tuple, i_NoneType_str, i_NoneType_int, i_NoneType_bool, i_NoneType_list, i_bool_tuple, i_bool_str, i_bool_int, i_bool_bool, i_bool_list, i_int_tuple, i_int_str, i_int_int, i_int_bool, i_int_list, i_str_tuple, i_str_str, i_str_int, i_str_bool, i_str_list, i_tuple_tuple, i_tuple_str, i_tuple_int, i_tuple_bool, i_tuple_list, i_list_tuple, i_list_str, i_list_int, i_list_bool, i_list_list, i_dict_tuple, i_dict_str, i_dict_int, i_dict_bool, i_dict_list, tyN, startD, mupd_same, mupd_ne, ne_eq, not_false_eq_true, List.map_cons, List.map_nil, List.length_cons, List.length_nil, List.replicate_succ, List.replicate_zero, Nat.zero_add, Nat.reduceAdd, Nat.reduceSub, Int.cast_ofNat_Int, List.cons_append, List.nil_append, List.getElem?_cons_zero, List.getElem?_cons_succ, List.set_cons_zero, List.set_cons_succ, opIx, atI_cons, ixN, opPut, opAdd, opSub, opMul, opFdiv, opMod, opPow, opLt, opLe, opGt, opGe, opIs, opIsNot, D.isNon, truth, bLen, bAbs, bInt, bTuple, bList, isTy, mAppend, mExtend, mPop, Int.reduceLE, Int.reduceLT, Int.reduceToNat, Int.reduceNeg, Int.reduceNe, Option.bind_some, if_true, if_false, ite_true, ite_false, true_and, and_true, Bool.not_true, Bool.not_false, opIadd, Nat.reduceLT, Nat.reduceLeDiff, Int.ofNat_lt, s_dpNil, s_dpCons, s_dpK1, s_dpK2, s_dpK3, s_disp, s_dispK, s_optKV, kvOf, s_dc, s_dcK, s_keys, s_lockK, s_sortIt, mGet, mDPop, dgetR, bDictC, bTupC, opEqD, opNeD, eqDR, D.key, merge_one, optKV, id, opEqL, opNeL, eqLR, $ls,*])
/-! lines in memory -/
abbrev Ln := Int × Addr × List Str
def lnD (z : Ln) : D := .tup [.int z.1, .ob z.2.1]
def LnAt (M : Mem) (zs : List Ln) : Prop := ∀ z ∈ zs, M z.2.1 = some (.lst (z.2.2.map D.str)) ∧ z.2.2 ≠ []
theorem LnAt.keep {M M' : Mem} {zs : List Ln} {S : List Addr} (h : LnAt M zs) (k : Keep S M M') (hS : ∀ x ∈ S, ∀ ss : List Str, ss ≠ [] → M x ≠ some (.lst (ss.map D.str))) : LnAt M' zs := fun z hz => ⟨k _ _ (h z hz).1 fun hm => hS _ hm _ (h z hz).2 (h z hz).1, (h z hz).2⟩
theorem not_strs {zs : List Ln} {ss : List Str} (hs : ss ≠ []) : zs.map lnD ≠ ss.map D.str := by
  intro e
  cases ss with
  | nil => exact hs rfl
  | cons x r =>
    cases zs with
    | nil => cases e
    | cons z q => simp [lnD] at e
structure FndAt (M0 M : Mem) (f : Addr) (zs : List Ln) (ls : List (Int × List Str)) : Prop where
  f0 : M0 f = none
  ff : M f = some (.lst (zs.map lnD))
  ln : LnAt M zs
  eq : zs.map (fun z => (z.1, z.2.2)) = ls
  new : ∀ z ∈ zs, M0 z.2.1 = none
  k : Keep [] M0 M
theorem FndAt.keep {M0 M M' : Mem} {f : Addr} {zs : List Ln} {ls : List (Int × List Str)} (h : FndAt M0 M f zs ls) (k : Keep [] M M') : FndAt M0 M' f zs ls := ⟨h.f0, k _ _ h.ff (by simp), h.ln.keep k (by simp), h.eq, h.new, h.k.trans k⟩
theorem FndAt.len {M0 M : Mem} {f : Addr} {zs : List Ln} {ls : List (Int × List Str)} (h : FndAt M0 M f zs ls) : zs.length = ls.length := by rw [← h.eq, List.length_map]
theorem FndAt.put {M0 M : Mem} {f a : Addr} {zs : List Ln} {ls : List (Int × List Str)} {d : Int} {t : List Str} (h : FndAt M0 M f zs ls) (ha : M a = some (.lst (t.map D.str))) (ht : t ≠ []) (hn : M0 a = none) : FndAt M0 (mupd M f (.lst (zs.map lnD ++ [lnD (d, a, t)]))) f (zs ++ [(d, a, t)]) (ls ++ [(d, t)]) := by
  have hS : ∀ x ∈ [f], ∀ ss : List Str, ss ≠ [] → M x ≠ some (.lst (ss.map D.str)) := fun x hx ss hs e => by
    rw [List.mem_singleton.mp hx, h.ff] at e
    simp only [Option.some.injEq, Ob.lst.injEq] at e
    exact not_strs hs e
  have h2 : LnAt M (zs ++ [(d, a, t)]) := fun z hz => by
    rcases List.mem_append.mp hz with q | q
    · exact h.ln z q
    · rw [List.mem_singleton.mp q]; exact ⟨ha, ht⟩
  have kf : Keep [f] M0 (mupd M f (.lst (zs.map lnD ++ [lnD (d, a, t)]))) := (h.k.weaken (by simp)).trans (Keep.put (by simp))
  refine ⟨h.f0, by rw [mupd_same]; simp, h2.keep (Keep.put (by simp)) hS, by rw [List.map_append, h.eq]; rfl, fun z hz => ?_, kf.drop h.f0⟩
  rcases List.mem_append.mp hz with q | q
  · exact h.new z q
  · rw [List.mem_singleton.mp q]; exact hn
theorem FndAt.cat {M0 M : Mem} {f l : Addr} {zs ys : List Ln} {ls ks : List (Int × List Str)} (h : FndAt M0 M f zs ls) (hl : M l = none) (hy : LnAt M ys) (he : ys.map (fun z => (z.1, z.2.2)) = ks) (hn : ∀ z ∈ ys, M0 z.2.1 = none) : FndAt M0 (mupd M l (.lst (zs.map lnD ++ ys.map lnD))) l (zs ++ ys) (ls ++ ks) := by
  have h2 : LnAt M (zs ++ ys) := fun z hz => by
    rcases List.mem_append.mp hz with q | q
    · exact h.ln z q
    · exact hy z q
  refine ⟨h.k.fresh hl, by rw [mupd_same]; simp, h2.keep (S := []) (Keep.new hl) (by simp), by rw [List.map_append, h.eq, he], fun z hz => ?_, h.k.trans (Keep.new hl)⟩
  rcases List.mem_append.mp hz with q | q
  · exact h.new z q
  · exact hn z q
/-! the lines with their depths -/
mutual
def dlS : Int → Stm → List (Int × List Str)
  | d, .sim s => [(d, s.word :: s.tail)]
  | d, .whl s a b body => (d, [wWhile, a, opT s, b]) :: (dlB (d + 1) body ++ [(d, [wEnd])])
  | d, .ite s a b f g => (d, [wIf, a, opT s, b]) :: (dlB (d + 1) f ++ ((if g.isEmpty = true then [] else (d, [wElse]) :: dlB (d + 1) g) ++ [(d, [wEnd])]))
def dlB : Int → List Stm → List (Int × List Str)
  | _, [] => []
  | d, x :: r => dlS d x ++ dlB d r
end
mutual
theorem dlS_snd : ∀ (d : Int) (x : Stm), (dlS d x).map (·.2) = linesS x
  | d, .sim s => by rw [dlS, linesS]; rfl
  | d, .whl s a b body => by
    rw [dlS, linesS, List.map_cons, List.map_append, dlB_snd (d + 1) body]
    rfl
  | d, .ite s a b f g => by
    rw [dlS, linesS, List.map_cons, List.map_append, dlB_snd (d + 1) f, List.map_append]
    cases g with
    | nil => rfl
    | cons y r =>
      have := dlB_snd (d + 1) (y :: r)
      simp only [List.isEmpty_cons, Bool.false_eq_true, if_false, List.map_cons, List.map_nil, this]
theorem dlB_snd : ∀ (d : Int) (b : List Stm), (dlB d b).map (·.2) = linesB b
  | d, [] => by rw [dlB, linesB]; rfl
  | d, x :: r => by rw [dlB, linesB, List.map_append, dlS_snd d x, dlB_snd d r]
end
theorem dlB_len (d : Int) (b : List Stm) : (dlB d b).length = (linesB b).length := by rw [← dlB_snd d b, List.length_map]
theorem dlB_app : ∀ (d : Int) (a b : List Stm), dlB d (a ++ b) = dlB d a ++ dlB d b
  | d, [], b => by simp [dlB]
  | d, x :: r, b => by
    show dlB d (x :: (r ++ b)) = _
    rw [dlB, dlB_app d r b, dlB, List.append_assoc]
def sp_blN (n : Nat) : DSp := fun ds M Q E => ∃ (body : List Stm) (deep : Int), ds = [.tup (encB body), .int deep] ∧ OkB n body ∧ body.length ≤ 3 ∧ n ≤ 4 ∧ ∀ f zs M', FndAt M M' f zs (dlB deep body) → Q (.ob f) M'
def sp_bl : Nat → DSp
  | 0 => fun _ _ _ _ => False
  | n + 1 => sp_blN n
theorem mono_bl : ∀ n, MonoSp (sp_bl n)
  | 0 => by
    rintro ds M Q Q' E E' hQ hE h
    exact h
  | n + 1 => by
    rintro ds M Q Q' E E' hQ hE ⟨b, d, h1, h2, h3, h4, h⟩
    exact ⟨b, d, h1, h2, h3, h4, fun f zs M' z => hQ _ _ (h f zs M' z)⟩
theorem fn_bl_step (S0 : Src K mg "_law_body_lines" s__law_body_lines ["body", "deep"]) (G : GF K mg C_Cursor C_Block C_ProcReader C_Reader v_proc_name) (F__law_test_tokens : Fn P w K mg base 1 "_law_test_tokens" sp_ttoks []) (F__law_simple_tokens : Fn P w K mg base 2 "_law_simple_tokens" sp_stoks []) (n : Nat) (F__law_body_lines : Fn P w K mg base (3 + n) "_law_body_lines" (sp_bl n) []) : Fn P w K mg base (3 + n + 1) "_law_body_lines" (sp_bl (n + 1)) [] := by
  refine S0.fn (mono_bl (n + 1)) fun g fd F => fn_ok F sc__law_body_lines (fun ds M Q E h => by obtain ⟨b, d, rfl, _⟩ := h; rfl) ⟨_, fun cdv A outer s H E hr => have hu := hr.u200
    (xss_cons (xs_set 2 sc__law_body_lines.nd (xe_lst (n := 0) xa_nil))
 (xss_cons (xs_for (p := .nm 3) bx_passes rfl (xi_walk (xe_var 0)) (xg_name 3 sc__law_body_lines.nd)
 (xss_one (xs_if (xt_wh (xw_or (xt_cmp (x_eq hu) (xe_ix hu (xe_var 3) xe_int) xe_str (nomark _) bl_eq) (xw_or1 (xt_cmp (x_eq hu) (xe_ix hu (xe_var 3) xe_int) xe_str (nomark _) bl_eq))))
 (xss_cons (xs_set 2 sc__law_body_lines.nd (xe_bin x_add (xe_bin x_add (xe_var 2) (xe_lst (n := 1) (xa_cons (xe_tup (n := 2) (xa_cons (xe_var 1) (xa_cons (xe_bin x_add (xe_lst (n := 1) (xa_cons (xe_ix hu (xe_var 3) xe_int) xa_nil)) (xe_call F__law_test_tokens (hr.mono (by first | decide | omega)) bx_takes (by rfl) (xa_cons (xe_ix hu (xe_var 3) xe_int) xa_nil))) xa_nil))) xa_nil))) (xe_call F__law_body_lines (hr.mono (by first | decide | omega)) bx_takes (by rfl) (xa_cons (xe_ix hu (xe_var 3) xe_int) (xa_cons (xe_bin x_add (xe_var 1) xe_int) xa_nil)))))
 (xss_cons (xs_if (xt_wh (xw_and (xt_cmp (x_eq hu) (xe_ix hu (xe_var 3) xe_int) xe_str (nomark _) bl_eq) (xw_and1 (xt_cmp (x_ne hu) (xe_ix hu (xe_var 3) xe_int) (xe_tup (n := 0) xa_nil) (nomark _) bl_ne))))
 (xss_one (xs_set 2 sc__law_body_lines.nd (xe_bin x_add (xe_bin x_add (xe_var 2) (xe_lst (n := 1) (xa_cons (xe_tup (n := 2) (xa_cons (xe_var 1) (xa_cons (xe_lst (n := 1) (xa_cons xe_str xa_nil)) xa_nil))) xa_nil))) (xe_call F__law_body_lines (hr.mono (by first | decide | omega)) bx_takes (by rfl) (xa_cons (xe_ix hu (xe_var 3) xe_int) (xa_cons (xe_bin x_add (xe_var 1) xe_int) xa_nil))))))
 xss_nil)
 (xss_one (xs_expr (xe_bm PySem.F.plainAttrs_list PySem.F.slot_list_append PySem.F.type_list_append m_append (xe_var 2) (xa_cons (xe_tup (n := 2) (xa_cons (xe_var 1) (xa_cons (xe_lst (n := 1) (xa_cons xe_str xa_nil)) xa_nil))) xa_nil))))))
 (xss_one (xs_expr (xe_bm PySem.F.plainAttrs_list PySem.F.slot_list_append PySem.F.type_list_append m_append (xe_var 2) (xa_cons (xe_tup (n := 2) (xa_cons (xe_var 1) (xa_cons (xe_call F__law_simple_tokens (hr.mono (by first | decide | omega)) bx_takes (by rfl) (xa_cons (xe_var 3) xa_nil)) xa_nil))) xa_nil)))))))
 (xss_one (xs_ret (xe_var 2))))), fun ds M Q E h => ?_⟩
  obtain ⟨body, deep, rfl, hok, hbl, hn4, h⟩ := h
  have sz : (16777216 : Nat) = sizeLine := sizeLine_eq.symm
  have hll := linesB_len n body hok
  have h9 : 9 ^ (n + 1) ≤ 59049 := Nat.le_trans (Nat.pow_le_pow_right (by decide) (show n + 1 ≤ 5 by omega)) (by decide)
  have hll2 : (dlB deep body).length ≤ 200000 := dlB_len deep body ▸ Nat.le_trans hll (Nat.le_trans (Nat.mul_le_mul hbl h9) (by decide))
  simp! []
  intro f hf
  rw [encB_map]
  refine loop_inv Stm.enc (fun rest e M' => ∃ (done : List Stm) (f : Addr) (zs : List Ln) (d3 : Option D), done ++ rest = body ∧ e = [some (.tup (body.map Stm.enc)), some (.int deep), some (.ob f), d3] ∧ FndAt M M' f zs (dlB deep done)) (fun _ _ _ _ => trivial) ?_ ?_ body _ _ ⟨[], f, [], none, rfl, by simp, ⟨hf, by simp [mupd_same], (fun z hz => by cases hz), by simp [dlB], (fun z hz => by cases hz), Keep.new hf⟩⟩
  · rintro x rest e M1 N ⟨done, f, zs, d3, hd, rfl, hfd⟩ hN
    have hx : OkS n x := hok.mem (by rw [← hd]; simp)
    have hlen : ∀ ls, dlS deep x = ls → (dlB deep done).length + ls.length ≤ 200000 := fun ls e => by
      rw [← hd, dlB_app] at hll2
      rw [dlB, e] at hll2
      simp only [List.length_append] at hll2
      omega
    have hzl := hfd.len
    have fin : ∀ M2 f2 zs2, FndAt M M2 f2 zs2 (dlB deep done ++ dlS deep x) → N [some (.tup (body.map Stm.enc)), some (.int deep), some (.ob f2), some x.enc] M2 := fun M2 f2 zs2 h2 => hN _ _ ⟨done ++ [x], f2, zs2, _, by rw [← hd]; simp, rfl, by rw [dlB_app]; simpa [dlB] using h2⟩
    cases x with
    | sim s =>
      have hs : s.Ok := by unfold OkS at hx; exact hx
      have e0 : (Stm.sim s).enc = s.enc := by rw [Stm.enc]
      have el : dlS deep (.sim s) = [(deep, s.word :: s.tail)] := by rw [dlS]
      rw [e0, el] at fin
      have hk : ∃ k r, s.enc = .tup (.str k :: r) ∧ k ≠ wWhile ∧ k ≠ wIf := by
        cases s with
        | copy x y => exact ⟨_, _, rfl, by decide +kernel, by decide +kernel⟩
        | read x y => exact ⟨_, _, rfl, by decide +kernel, by decide +kernel⟩
        | link x y => exact ⟨_, _, rfl, by decide +kernel, by decide +kernel⟩
        | new x => exact ⟨_, _, rfl, by decide +kernel, by decide +kernel⟩
        | free x => exact ⟨_, _, rfl, by decide +kernel, by decide +kernel⟩
        | call f as => exact ⟨_, _, rfl, by decide +kernel, by decide +kernel⟩
      obtain ⟨k, r, ek, k1, k2⟩ := hk
      have k1' : ¬ k = wWhile := k1
      have k2' : ¬ k = wIf := k2
      have hlen' := hlen _ el
      rw [e0]
      have i0 : ((0 : Int) < ((r.length + 1 : Nat) : Int)) = True := by simp
      simp! [ek, i0, k1', k2', hfd.ff]
      refine ⟨s, by rw [ek], hs, fun a M2 ha ha2 kk => ?_⟩
      have fd2 := hfd.keep kk
      have fd3 := fd2.put (d := deep) ha2 (by simp) (hfd.k.fresh ha)
      have ff2 := fd2.ff
      simp! [ff2, List.length_map]
      refine ⟨by rw [← sz]; omega, ?_⟩
      rw [ek] at fin
      exact fin _ _ _ fd3
    | whl s a b bd =>
      unfold OkS at hx
      obtain ⟨_, _, h0, hbo, hbdl⟩ := hx
      obtain ⟨n, rfl⟩ : ∃ m, n = m + 1 := ⟨n - 1, by omega⟩
      simp only [Nat.add_sub_cancel] at hbo
      have e0 : (Stm.whl s a b bd).enc = .tup [.str wWhile, testD s a b, .tup (encB bd)] := by rw [Stm.enc]
      have el : dlS deep (.whl s a b bd) = (deep, [wWhile, a, opT s, b]) :: (dlB (deep + 1) bd ++ [(deep, [wEnd])]) := by rw [dlS]
      have hlen' := hlen _ el
      simp only [List.length_cons, List.length_append, List.length_nil] at hlen'
      rw [e0, el] at fin
      rw [e0]
      simp! []
      intro l1 h1
      have fd1 := hfd.keep (Keep.new (o := .lst [.str wWhile]) h1)
      have a1 : (mupd M1 l1 (.lst [.str wWhile])) l1 = _ := mupd_same
      generalize mupd M1 l1 _ = M2 at fd1 a1 ⊢
      refine ⟨s, a, b, rfl, fun l2 M3 h2 a2 k2 => ?_⟩
      have fd2 := fd1.keep k2
      have a1' := k2 _ _ a1 (by simp)
      simp! [a1', a2]
      refine ⟨by rw [← sz]; simp, fun l3 h3 => ?_⟩
      have fd3 := fd2.keep (Keep.new (o := .lst [.str wWhile, .str a, .str (opT s), .str b]) h3)
      have a3 : (mupd M3 l3 (.lst [.str wWhile, .str a, .str (opT s), .str b])) l3 = some (.lst ([wWhile, a, opT s, b].map D.str)) := mupd_same
      have n3 := fd2.k.fresh h3
      generalize mupd M3 l3 _ = M4 at fd3 a3 ⊢
      try simp! []
      intro l4 h4
      have fd4 := fd3.keep (Keep.new (o := .lst [.tup [.int deep, .ob l3]]) h4)
      have a4 : (mupd M4 l4 (.lst [.tup [.int deep, .ob l3]])) l4 = _ := mupd_same
      have b4 := put_at (o' := .lst [.tup [.int deep, .ob l3]]) a3 h4
      generalize mupd M4 l4 _ = M5 at fd4 a4 b4 ⊢
      simp! [fd4.ff, a4, List.length_map]
      refine ⟨by rw [← sz]; omega, fun l5 h5 => ?_⟩
      have fd5 := fd4.cat (ys := [(deep, l3, [wWhile, a, opT s, b])]) (ks := [(deep, [wWhile, a, opT s, b])]) h5 (fun z hz => by rw [List.mem_singleton.mp hz]; exact ⟨b4, by simp⟩) rfl (fun z hz => by rw [List.mem_singleton.mp hz]; exact n3)
      simp only [List.map_cons, List.map_nil, lnD] at fd5
      generalize mupd M5 l5 _ = M6 at fd5 ⊢
      try simp! []
      refine ⟨bd, deep + 1, rfl, hbo, hbdl, by omega, fun g ys M7 hg => ?_⟩
      have fd7 := fd5.keep hg.k
      have hyl := hg.len
      have f7 := fd7.ff
      have e7 : (zs ++ [(deep, l3, [wWhile, a, opT s, b])]).length = (dlB deep done).length + 1 := by rw [fd5.len]; simp
      simp! [f7, hg.ff, List.length_map]
      refine ⟨by rw [← sz]; omega, fun l8 h8 => ?_⟩
      have fd8 := fd7.cat h8 hg.ln hg.eq fun z hz => fd5.k.fresh (hg.new z hz)
      generalize mupd M7 l8 _ = M8 at fd8 ⊢
      try simp! []
      intro l9 h9
      have fd9 := fd8.keep (Keep.new (o := .lst [.str wEnd]) h9)
      have a9 : (mupd M8 l9 (.lst [.str wEnd])) l9 = some (.lst ([wEnd].map D.str)) := mupd_same
      have fd10 := fd9.put (d := deep) a9 (by simp) (fd8.k.fresh h9)
      have f9 := fd9.ff
      have e9 : (zs ++ [(deep, l3, [wWhile, a, opT s, b])] ++ ys).length = (dlB deep done).length + 1 + (dlB (deep + 1) bd).length := by rw [fd8.len]; simp; omega
      simp! [f9, List.length_map]
      refine ⟨by rw [← sz]; omega, ?_⟩
      exact fin _ _ _ (by simpa [lnD] using fd10)
    | ite s a b gf gg =>
      unfold OkS at hx
      obtain ⟨_, _, h0, hbo, hbdl, hgo, hgl⟩ := hx
      obtain ⟨n, rfl⟩ : ∃ m, n = m + 1 := ⟨n - 1, by omega⟩
      simp only [Nat.add_sub_cancel] at hbo hgo
      have e0 : (Stm.ite s a b gf gg).enc = .tup [.str wIf, testD s a b, .tup (encB gf), .tup (encB gg)] := by rw [Stm.enc]
      have el : dlS deep (.ite s a b gf gg) = (deep, [wIf, a, opT s, b]) :: (dlB (deep + 1) gf ++ ((if gg.isEmpty = true then [] else (deep, [wElse]) :: dlB (deep + 1) gg) ++ [(deep, [wEnd])])) := by rw [dlS]
      have hlen' := hlen _ el
      simp only [List.length_cons, List.length_append, List.length_nil] at hlen'
      rw [e0, el] at fin
      rw [e0]
      have hge : (encB gg).isEmpty = gg.isEmpty := by rw [encB_map]; cases gg <;> rfl
      have hnn : ∀ (M : Mem) (Q : DK), (opNe (.tup (encB gg)) (.tup []) M).run M Q = Q (.bl (!gg.isEmpty)) M := fun M Q => by rw [ne_nil (stmB_dat _ gg hgo).1, hge]
      simp! []
      intro l1 h1
      have fd1 := hfd.keep (Keep.new (o := .lst [.str wIf]) h1)
      have a1 : (mupd M1 l1 (.lst [.str wIf])) l1 = _ := mupd_same
      generalize mupd M1 l1 _ = M2 at fd1 a1 ⊢
      refine ⟨s, a, b, rfl, fun l2 M3 h2 a2 k2 => ?_⟩
      have fd2 := fd1.keep k2
      have a1' := k2 _ _ a1 (by simp)
      simp! [a1', a2]
      refine ⟨by rw [← sz]; simp, fun l3 h3 => ?_⟩
      have fd3 := fd2.keep (Keep.new (o := .lst [.str wIf, .str a, .str (opT s), .str b]) h3)
      have a3 : (mupd M3 l3 (.lst [.str wIf, .str a, .str (opT s), .str b])) l3 = some (.lst ([wIf, a, opT s, b].map D.str)) := mupd_same
      have n3 := fd2.k.fresh h3
      generalize mupd M3 l3 _ = M4 at fd3 a3 ⊢
      try simp! []
      intro l4 h4
      have fd4 := fd3.keep (Keep.new (o := .lst [.tup [.int deep, .ob l3]]) h4)
      have a4 : (mupd M4 l4 (.lst [.tup [.int deep, .ob l3]])) l4 = _ := mupd_same
      have b4 := put_at (o' := .lst [.tup [.int deep, .ob l3]]) a3 h4
      generalize mupd M4 l4 _ = M5 at fd4 a4 b4 ⊢
      simp! [fd4.ff, a4, List.length_map]
      refine ⟨by rw [← sz]; omega, fun l5 h5 => ?_⟩
      have fd5 := fd4.cat (ys := [(deep, l3, [wIf, a, opT s, b])]) (ks := [(deep, [wIf, a, opT s, b])]) h5 (fun z hz => by rw [List.mem_singleton.mp hz]; exact ⟨b4, by simp⟩) rfl (fun z hz => by rw [List.mem_singleton.mp hz]; exact n3)
      simp only [List.map_cons, List.map_nil, lnD] at fd5
      generalize mupd M5 l5 _ = M6 at fd5 ⊢
      try simp! []
      refine ⟨gf, deep + 1, rfl, hbo, hbdl, by omega, fun g ys M7 hg => ?_⟩
      have fd7 := fd5.keep hg.k
      have hyl := hg.len
      have f7 := fd7.ff
      have e7 : (zs ++ [(deep, l3, [wIf, a, opT s, b])]).length = (dlB deep done).length + 1 := by rw [fd5.len]; simp
      simp! [f7, hg.ff, List.length_map]
      refine ⟨by rw [← sz]; omega, fun l8 h8 => ?_⟩
      have fd8 := fd7.cat h8 hg.ln hg.eq fun z hz => fd5.k.fresh (hg.new z hz)
      generalize mupd M7 l8 _ = M8 at fd8 ⊢
      have e8 : (zs ++ [(deep, l3, [wIf, a, opT s, b])] ++ ys).length = (dlB deep done).length + 1 + (dlB (deep + 1) gf).length := by rw [fd8.len]; simp; omega
      cases hgg : gg.isEmpty with
      | true =>
        rw [hgg] at fin hlen'
        simp only [if_true, List.nil_append, List.length_nil] at fin hlen'
        simp! [hnn, hgg, fd8.ff]
        intro l9 h9
        have fd9 := fd8.keep (Keep.new (o := .lst [.str wEnd]) h9)
        have a9 : (mupd M8 l9 (.lst [.str wEnd])) l9 = some (.lst ([wEnd].map D.str)) := mupd_same
        have fd10 := fd9.put (d := deep) a9 (by simp) (fd8.k.fresh h9)
        have f9 := fd9.ff
        have e9 : (zs ++ [(deep, l3, [wIf, a, opT s, b])] ++ ys).length = (dlB deep done).length + 1 + (dlB (deep + 1) gf).length := by rw [fd8.len]; simp; omega
        simp! [f9, List.length_map]
        refine ⟨by rw [← sz]; omega, ?_⟩
        exact fin _ _ _ (by simpa [lnD] using fd10)
      | false =>
        rw [hgg] at fin hlen'
        simp only [Bool.false_eq_true, if_false, List.length_cons] at fin hlen'
        simp! [hnn, hgg]
        intro m1 g1
        have gd1 := fd8.keep (Keep.new (o := .lst [.str wElse]) g1)
        have ga1 : (mupd M8 m1 (.lst [.str wElse])) m1 = some (.lst ([wElse].map D.str)) := mupd_same
        have gn1 := fd8.k.fresh g1
        generalize mupd M8 m1 _ = N1 at gd1 ga1 ⊢
        try simp! []
        intro m2 g2
        have gd2 := gd1.keep (Keep.new (o := .lst [.tup [.int deep, .ob m1]]) g2)
        have ga2 : (mupd N1 m2 (.lst [.tup [.int deep, .ob m1]])) m2 = _ := mupd_same
        have gb2 := put_at (o' := .lst [.tup [.int deep, .ob m1]]) ga1 g2
        generalize mupd N1 m2 _ = N2 at gd2 ga2 gb2 ⊢
        simp! [gd2.ff, ga2, List.length_map]
        refine ⟨by rw [← sz]; omega, fun m3 g3 => ?_⟩
        have gd3 := gd2.cat (ys := [(deep, m1, [wElse])]) (ks := [(deep, [wElse])]) g3 (fun z hz => by rw [List.mem_singleton.mp hz]; exact ⟨gb2, by simp⟩) rfl (fun z hz => by rw [List.mem_singleton.mp hz]; exact gn1)
        simp only [List.map_cons, List.map_nil] at gd3
        have gd3' : FndAt M (mupd N2 m3 (.lst ((zs ++ [(deep, l3, [wIf, a, opT s, b])] ++ ys).map lnD ++ [.tup [.int deep, .ob m1]]))) m3 _ _ := gd3
        clear gd3
        generalize mupd N2 m3 _ = N3 at gd3' ⊢
        try simp! []
        refine ⟨gg, deep + 1, rfl, hgo, hgl, by omega, fun g' ys' N4 hg' => ?_⟩
        have gd4 := gd3'.keep hg'.k
        have hyl' := hg'.len
        have f4 := gd4.ff
        have e4 : (zs ++ [(deep, l3, [wIf, a, opT s, b])] ++ ys ++ [(deep, m1, [wElse])]).length = (dlB deep done).length + 2 + (dlB (deep + 1) gf).length := by rw [gd4.len]; simp; omega
        simp! [f4, hg'.ff, List.length_map]
        refine ⟨by rw [← sz]; omega, fun m5 g5 => ?_⟩
        have gd5 := gd4.cat g5 hg'.ln hg'.eq fun z hz => gd3'.k.fresh (hg'.new z hz)
        generalize mupd N4 m5 _ = N5 at gd5 ⊢
        try simp! [gd5.ff]
        intro l9 h9
        have fd9 := gd5.keep (Keep.new (o := .lst [.str wEnd]) h9)
        have a9 : (mupd N5 l9 (.lst [.str wEnd])) l9 = some (.lst ([wEnd].map D.str)) := mupd_same
        have fd10 := fd9.put (d := deep) a9 (by simp) (gd5.k.fresh h9)
        have f9 := fd9.ff
        have e9 := gd5.len
        try simp only [List.length_append, List.length_cons, List.length_nil] at e9
        simp! [f9, List.length_map]
        refine ⟨by rw [← sz]; (try simp only [List.length_append, List.length_cons, List.length_nil]); omega, ?_⟩
        exact fin _ _ _ (by simpa [lnD] using fd10)
  · rintro e M1 ⟨done, f, zs, d3, hd, rfl, hfd⟩
    rw [List.append_nil] at hd
    subst hd
    simp! []
    exact h f zs _ hfd
theorem fn_bl (S0 : Src K mg "_law_body_lines" s__law_body_lines ["body", "deep"]) (G : GF K mg C_Cursor C_Block C_ProcReader C_Reader v_proc_name) (F__law_test_tokens : Fn P w K mg base 1 "_law_test_tokens" sp_ttoks []) (F__law_simple_tokens : Fn P w K mg base 2 "_law_simple_tokens" sp_stoks []) : ∀ n, Fn P w K mg base (3 + n) "_law_body_lines" (sp_bl n) []
  | 0 => S0.fn (mono_bl 0) fun f fd F => fn_none fun ds M Q E h => h
  | n + 1 => fn_bl_step S0 G F__law_test_tokens F__law_simple_tokens n (fn_bl S0 G F__law_test_tokens F__law_simple_tokens n)
end K02

set_option maxHeartbeats 4000000
namespace K02
open PySem PySem.Spec PyProof.Rows L2 PL SX
variable {P : Program} {w : World} {K : PySem.W.Frag} {mg : Str → Option Value} {base : Heap} {C_Cursor C_Block C_ProcReader C_Reader v_proc_name : Addr}
local macro_rules | `(tactic| simp! [$ls,*]) => `(tactic| simp only [s_fld, s_fldK, s_insAt, s_optD, s_obAt, s_fput, s_fputK1, s_fputK2, s_faug, s_faugK1, s_faugK2, s_faugK3, s_meth, s_methK1, s_methK2, s_make, s_makeK, s_makeK2, s_dead, s_tryN, noX_nx, noX_rt, noX_bk, noX_ct, mSplit, opMulS, s_enum, s_enumK, s_sortBy, s_sortByK, look_nil, look_cons, putFD_nil, putFD_cons, List.append_nil, to_nx, to_rt, to_bk, to_ct, to_ex, lp_nx, lp_rt, lp_bk, lp_ct, lp_ex, ret_nx, ret_rt, ret_ex, s_exK, s_bif1, s_bif0, s_optB, s_optE, s_nxD, s_ifK, s_asgN, s_asgT, s_asgL, b_nil, b_nm, b_tp, s_next, s_seq, s_drop, s_ret, s_retN, s_ifS, s_asg, s_brk, s_cont, s_put, s_put1, s_put2, s_put3, s_aug, s_augV, s_augK, s_augK2, s_bin, s_bin1, s_bin2, s_var, s_varK, s_C, s_cb, s_cbK, s_call, s_callK, s_m, s_m1, s_m2, s_nil, s_cons, s_cons1, s_cons2, s_tup, s_tupK, s_lst, s_lstK, s_truth, s_trK, s_tK, s_eK, s_cK, s_and, s_andK, s_or, s_orK, s_not, s_notK, s_ife, s_ifeK, s_andV, s_orV, s_andvK, s_orvK, s_andvK2, s_orvK2, s_notV, s_notvK, s_blK, s_neg, s_negK, s_sl, s_sl1, s_sl2, s_sl3, s_noPart, s_part, s_partK, s_rev, s_revK, s_for, s_forK, s_lc, s_lcK, s_yes, s_walk, s_walkT, s_walkS, s_walkA, s_walkL, s_walkR, s_rng1, s_rng2, s_rng1K, s_rng2K, s_callL, s_callLK, s_callLO, s_clK, s_raise, r_val, r_new, r_put, s_whK, s_lcY, s_lcT, s_lcE, s_cg, s_cgK, s_rng3, s_rng3K, s_lcB, s_lcS, wipeD, Pat.bind, seqOf, rg, s_dict0, s_sortSet, s_sortSetK, q_is_tuple, q_is_str, q_is_int, q_is_bool, q_is_list, q_isR, ofS_inj, String.reduceEq, q_eqI, q_neI, q_eqS, q_neS, decide_true, decide_false, Int.reduceEq, reduceCtorEq, i_NoneType_tuple, i_NoneType_str, i_NoneType_int, i_NoneType_bool, i_NoneType_list, i_bool_tuple, i_bool_str, i_bool_int, i_bool_bool, i_bool_list, i_int_tuple, i_int_str, i_int_int, i_int_bool, i_int_list, i_str_tuple, i_str_str, i_str_int, i_str_bool, i_str_list, i_tuple_tuple, i_tuple_str, i_tuple_int, i_tuple_bool, i_tuple_list, i_list_tuple, i_list_str, i_list_int, i_list_bool, i_list_list, i_dict_tuple, i_dict_str, i_dict_int, i_dict_bool, i_dict_list, tyN, startD, mupd_same, mupd_ne, ne_eq, not_false_eq_true, List.map_cons, List.map_nil, List.length_cons, List.length_nil, List.replicate_succ, List.replicate_zero, Nat.zero_add, Nat.reduceAdd, Nat.reduceSub, Int.cast_ofNat_Int, List.cons_append, List.nil_append, List.getElem?_cons_zero, List.getElem?_cons_succ, List.set_cons_zero, List.set_cons_succ, opIx, atI_cons, ixN, opPut, opAdd, opSub, opMul, opFdiv, opMod, opPow, opLt, opLe, opGt, opGe, opIs, opIsNot, D.isNon, truth, bLen, bAbs, bInt, bTuple, bList, isTy, mAppend, mExtend, mPop, Int.reduceLE, Int.reduceLT, Int.reduceToNat, Int.reduceNeg, Int.reduceNe, Option.bind_some, if_true, if_false, ite_true, ite_false, true_and, and_true, Bool.not_true, Bool.not_false, opIadd, Nat.reduceLT, Nat.reduceLeDiff, Int.ofNat_lt, s_dpNil, s_dpCons, s_dpK1, s_dpK2, s_dpK3, s_disp, s_dispK, s_optKV, kvOf, s_dc, s_dcK, s_keys, s_lockK, s_sortIt, mGet, mDPop, dgetR, bDictC, bTupC, opEqD, opNeD, eqDR, D.key, merge_one, optKV, id, opEqL, opNeL, eqLR, $ls,*])
theorem FndAt.one {M0 M : Mem} {l a : Addr} {d : Int} {t : List Str} (k : Keep [] M0 M) (hl : M l = none) (ha : M a = some (.lst (t.map D.str))) (ht : t ≠ []) (hn : M0 a = none) : FndAt M0 (mupd M l (.lst [lnD (d, a, t)])) l [(d, a, t)] [(d, t)] := by
  refine ⟨k.fresh hl, mupd_same, fun z hz => ?_, rfl, fun z hz => ?_, k.trans (Keep.new hl)⟩
  · rw [List.mem_singleton.mp hz]; exact ⟨put_at ha hl, ht⟩
  · rw [List.mem_singleton.mp hz]; exact hn
def dheadL (p : Proc) : List (Int × List Str) := (if p.places.isEmpty = true then [] else [((1 : Int), wLoc :: listed p.places)]) ++ ((if p.need.isEmpty = true then [] else [((1 : Int), wNeed :: partsToks p.need)]) ++ p.ens.map fun q => ((1 : Int), wEns :: partsToks q))
def dprocL (p : Proc) : List (Int × List Str) := ((0 : Int), wProc :: p.name :: tL :: (listed p.params ++ [tR])) :: (dheadL p ++ (dlB 1 p.body ++ [((0 : Int), [wEnd])]))
theorem dprocL_snd (p : Proc) : (dprocL p).map (·.2) = procL p := by
  unfold dprocL procL dheadL headL
  simp only [List.map_cons, List.map_append, dlB_snd, List.map_nil, List.map_map]
  congr 2
  split <;> split <;> rfl
theorem procL_len {p : Proc} (n : Nat) (hp : p.places.length ≤ 100) (he : p.ens.length ≤ 100) : (dheadL p).length ≤ 102 := by
  unfold dheadL
  simp only [List.length_append, List.length_map]
  split <;> split <;> simp <;> omega
def sp_pl : DSp := fun ds M Q E => ∃ (p : Proc) (nd en : Addr) (es : List (Addr × List Part)), ds = [.str p.name, .tup (p.params.map D.str), .tup (p.places.map D.str), .ob nd, .ob en, .tup (encB p.body)] ∧ M nd = some (.lst (p.need.map partD)) ∧ M en = some (.lst (es.map fun e => .ob e.1)) ∧ (∀ e ∈ es, M e.1 = some (.lst (e.2.map partD))) ∧ p.ens = es.map (·.2) ∧
  p.params.length ≤ 100 ∧ p.places.length ≤ 100 ∧ p.need.length ≤ 100 ∧ (∀ q ∈ p.need, KindOk q) ∧ es.length ≤ 100 ∧ (∀ e ∈ es, e.2.length ≤ 100 ∧ ∀ q ∈ e.2, KindOk q) ∧ OkB 4 p.body ∧ p.body.length ≤ 3 ∧ ∀ f zs M', FndAt M M' f zs (dprocL p) → Q (.ob f) M'
theorem mono_pl : MonoSp sp_pl := by
  rintro ds M Q Q' E E' hQ hE ⟨p, nd, en, es, h1, h2, h3, h4, h5, h6, h7, h8, h9, h10, h11, h12, h13, h⟩
  exact ⟨p, nd, en, es, h1, h2, h3, h4, h5, h6, h7, h8, h9, h10, h11, h12, h13, fun f zs M' z => hQ _ _ (h f zs M' z)⟩
theorem fn_pl (S0 : Src K mg "_law_proc_lines" s__law_proc_lines ["name", "parameters", "places", "need", "ensures", "body"]) (G : GF K mg C_Cursor C_Block C_ProcReader C_Reader v_proc_name) (F__law_listed : Fn P w K mg base 1 "_law_listed" sp_listed []) (F__law_parts_tokens : Fn P w K mg base 2 "_law_parts_tokens" sp_pstoks []) (F__law_body_lines : Fn P w K mg base 8 "_law_body_lines" (sp_bl 5) []) : Fn P w K mg base 9 "_law_proc_lines" sp_pl [] := by
  refine S0.fn mono_pl fun g fd F => fn_ok F sc__law_proc_lines (fun ds M Q E h => by obtain ⟨p, nd, en, es, rfl, _⟩ := h; rfl) ⟨_, fun cdv A outer s H E hr => have hu := hr.u200
    (xss_cons (xs_set 6 sc__law_proc_lines.nd (xe_lst (n := 1) (xa_cons (xe_tup (n := 2) (xa_cons xe_int (xa_cons (xe_bin x_add (xe_bin x_add (xe_lst (n := 3) (xa_cons xe_str (xa_cons (xe_var 0) (xa_cons xe_str xa_nil)))) (xe_call F__law_listed (hr.mono (by first | decide | omega)) bx_takes (by rfl) (xa_cons (xe_var 1) xa_nil))) (xe_lst (n := 1) (xa_cons xe_str xa_nil))) xa_nil))) xa_nil)))
 (xss_cons (xs_if (xt_cmp x_gt (xe_callB c_len (by rfl) G.len (by decide +kernel) (xa_cons (xe_var 2) xa_nil)) xe_int (nomark _) bl_gt)
 (xss_one (xs_expr (xe_bm PySem.F.plainAttrs_list PySem.F.slot_list_append PySem.F.type_list_append m_append (xe_var 6) (xa_cons (xe_tup (n := 2) (xa_cons xe_int (xa_cons (xe_bin x_add (xe_lst (n := 1) (xa_cons xe_str xa_nil)) (xe_call F__law_listed (hr.mono (by first | decide | omega)) bx_takes (by rfl) (xa_cons (xe_var 2) xa_nil))) xa_nil))) xa_nil))))
 xss_nil)
 (xss_cons (xs_if (xt_cmp x_gt (xe_callB c_len (by rfl) G.len (by decide +kernel) (xa_cons (xe_var 3) xa_nil)) xe_int (nomark _) bl_gt)
 (xss_one (xs_expr (xe_bm PySem.F.plainAttrs_list PySem.F.slot_list_append PySem.F.type_list_append m_append (xe_var 6) (xa_cons (xe_tup (n := 2) (xa_cons xe_int (xa_cons (xe_bin x_add (xe_lst (n := 1) (xa_cons xe_str xa_nil)) (xe_call F__law_parts_tokens (hr.mono (by first | decide | omega)) bx_takes (by rfl) (xa_cons (xe_var 3) xa_nil))) xa_nil))) xa_nil))))
 xss_nil)
 (xss_cons (xs_for (p := .nm 7) bx_passes rfl (xi_walk (xe_var 4)) (xg_name 7 sc__law_proc_lines.nd)
 (xss_one (xs_expr (xe_bm PySem.F.plainAttrs_list PySem.F.slot_list_append PySem.F.type_list_append m_append (xe_var 6) (xa_cons (xe_tup (n := 2) (xa_cons xe_int (xa_cons (xe_bin x_add (xe_lst (n := 1) (xa_cons xe_str xa_nil)) (xe_call F__law_parts_tokens (hr.mono (by first | decide | omega)) bx_takes (by rfl) (xa_cons (xe_var 7) xa_nil))) xa_nil))) xa_nil)))))
 (xss_one (xs_ret (xe_bin x_add (xe_bin x_add (xe_var 6) (xe_call F__law_body_lines (hr.mono (by first | decide | omega)) bx_takes (by rfl) (xa_cons (xe_var 5) (xa_cons xe_int xa_nil)))) (xe_lst (n := 1) (xa_cons (xe_tup (n := 2) (xa_cons xe_int (xa_cons (xe_lst (n := 1) (xa_cons xe_str xa_nil)) xa_nil))) xa_nil))))))))), fun ds M Q E h => ?_⟩
  obtain ⟨p, nd, en, es, rfl, hnd, hen, hes, hpe, hl1, hl2, hl3, hk3, hl4, hk4, hb, hbl, h⟩ := h
  have sz : (16777216 : Nat) = sizeLine := sizeLine_eq.symm
  have hll := linesB_len 4 p.body hb
  have hll2 : (linesB p.body).length ≤ 200000 := Nat.le_trans hll (Nat.le_trans (Nat.mul_le_mul_right _ hbl) (by decide))
  have edl := dlB_len 1 p.body
  have hpl := listed_len p.params
  have hql := listed_len p.places
  have hnl := partsToks_len p.need
  simp! []
  intro l1 h1
  have k1 : Keep [] M (mupd M l1 (.lst [.str wProc, .str p.name, .str tL])) := Keep.new h1
  have a1 : (mupd M l1 (.lst [.str wProc, .str p.name, .str tL])) l1 = _ := mupd_same
  generalize mupd M l1 _ = M1 at k1 a1 ⊢
  refine ⟨p.params, rfl, by omega, fun l2 M2 h2 a2 k2 => ?_⟩
  have a1' := k2 _ _ a1 (by simp)
  have k12 := k1.trans k2
  simp! [a1', a2, List.length_map]
  refine ⟨by rw [← sz]; omega, fun l3 h3 => ?_⟩
  have k3 := k12.trans (Keep.new (o := .lst (.str wProc :: .str p.name :: .str tL :: (listed p.params).map D.str)) h3)
  have a3 : (mupd M2 l3 (.lst (.str wProc :: .str p.name :: .str tL :: (listed p.params).map D.str))) l3 = _ := mupd_same
  generalize mupd M2 l3 _ = M3 at k3 a3 ⊢
  try simp! []
  intro l4 h4
  have k4 := k3.trans (Keep.new (o := .lst [.str tR]) h4)
  have a4 : (mupd M3 l4 (.lst [.str tR])) l4 = _ := mupd_same
  have b4 := put_at (o' := .lst [.str tR]) a3 h4
  generalize mupd M3 l4 _ = M4 at k4 a4 b4 ⊢
  simp! [a4, b4, List.length_map]
  refine ⟨by rw [← sz]; (try simp only [List.length_append, List.length_map, List.length_cons, List.length_nil]); omega, fun l5 h5 => ?_⟩
  have n5 := k4.fresh h5
  have k5 := k4.trans (Keep.new (o := .lst (.str wProc :: .str p.name :: .str tL :: ((listed p.params).map D.str ++ [.str tR]))) h5)
  have a5 : (mupd M4 l5 (.lst (.str wProc :: .str p.name :: .str tL :: ((listed p.params).map D.str ++ [.str tR])))) l5 = some (.lst ((wProc :: p.name :: tL :: (listed p.params ++ [tR])).map D.str)) := by rw [mupd_same]; simp
  generalize mupd M4 l5 _ = M5 at k5 a5 ⊢
  try simp! []
  intro l6 h6
  have fd6 := FndAt.one (d := 0) k5 h6 a5 (by simp) n5
  simp only [lnD] at fd6
  generalize mupd M5 l6 _ = M6 at fd6 ⊢
  refine bif_midD (fun e M' => e = [some (.str p.name), some (.tup (p.params.map D.str)), some (.tup (p.places.map D.str)), some (.ob nd), some (.ob en), some (.tup (encB p.body)), some (.ob l6), none] ∧ ∃ zs, FndAt M M' l6 zs (((0 : Int), wProc :: p.name :: tL :: (listed p.params ++ [tR])) :: (if p.places.isEmpty = true then [] else [((1 : Int), wLoc :: listed p.places)]))) (fun z N hN => ?_) (fun z N hN => ?_) ?_
  · have z : ¬ p.places.isEmpty = true := by
      intro e
      have : p.places = [] := by simpa using e
      rw [this] at z
      simp at z
    simp! [fd6.ff]
    intro m1 g1
    have q1 := fd6.keep (Keep.new (o := .lst [.str wLoc]) g1)
    have w1 : (mupd M6 m1 (.lst [.str wLoc])) m1 = _ := mupd_same
    generalize mupd M6 m1 _ = X1 at q1 w1 ⊢
    refine ⟨p.places, rfl, by omega, fun m2 X2 g2 w2 k2' => ?_⟩
    have q2 := q1.keep k2'
    have w1' := k2' _ _ w1 (by simp)
    simp! [w1', w2, List.length_map]
    refine ⟨by rw [← sz]; omega, fun m3 g3 => ?_⟩
    have n3 := q2.k.fresh g3
    have q3 := q2.keep (Keep.new (o := .lst (.str wLoc :: (listed p.places).map D.str)) g3)
    have w3 : (mupd X2 m3 (.lst (.str wLoc :: (listed p.places).map D.str))) m3 = some (.lst ((wLoc :: listed p.places).map D.str)) := mupd_same
    generalize mupd X2 m3 _ = X3 at q3 w3 ⊢
    have q4 := q3.put (d := 1) w3 (by simp) n3
    have el := q3.len
    try simp only [List.length_append, List.length_cons, List.length_nil] at el
    simp! [q3.ff, List.length_map]
    refine ⟨by rw [← sz]; omega, ?_⟩
    refine hN _ _ ⟨rfl, [(0, l5, wProc :: p.name :: tL :: (listed p.params ++ [tR]))] ++ [(1, m3, wLoc :: listed p.places)], ?_⟩
    rw [if_neg z]
    simpa [lnD] using q4
  · have z : p.places.isEmpty = true := by
      cases e : p.places with
      | nil => rfl
      | cons x r => rw [e] at z; exact absurd (by simp) z
    simp! []
    refine hN _ _ ⟨rfl, [(0, l5, wProc :: p.name :: tL :: (listed p.params ++ [tR]))], ?_⟩
    rw [if_pos z]
    exact fd6
  rintro e M7 ⟨rfl, zs7, fd7⟩
  have kk7 := fd7.k
  simp! [kk7 _ _ hnd (by simp), List.length_map]
  refine bif_midD (fun e M' => e = [some (.str p.name), some (.tup (p.params.map D.str)), some (.tup (p.places.map D.str)), some (.ob nd), some (.ob en), some (.tup (encB p.body)), some (.ob l6), none] ∧ ∃ zs, FndAt M M' l6 zs (((0 : Int), wProc :: p.name :: tL :: (listed p.params ++ [tR])) :: ((if p.places.isEmpty = true then [] else [((1 : Int), wLoc :: listed p.places)]) ++ (if p.need.isEmpty = true then [] else [((1 : Int), wNeed :: partsToks p.need)])))) (fun z N hN => ?_) (fun z N hN => ?_) ?_
  · have z : ¬ p.need.isEmpty = true := by
      intro e
      have : p.need = [] := by simpa using e
      rw [this] at z
      simp at z
    simp! [fd7.ff]
    intro m1 g1
    have q1 := fd7.keep (Keep.new (o := .lst [.str wNeed]) g1)
    have w1 : (mupd M7 m1 (.lst [.str wNeed])) m1 = _ := mupd_same
    generalize mupd M7 m1 _ = X1 at q1 w1 ⊢
    refine ⟨nd, p.need, rfl, q1.k _ _ hnd (by simp), by omega, hk3, fun m2 X2 g2 w2 k2' => ?_⟩
    have q2 := q1.keep k2'
    have w1' := k2' _ _ w1 (by simp)
    simp! [w1', w2, List.length_map]
    refine ⟨by rw [← sz]; omega, fun m3 g3 => ?_⟩
    have n3 := q2.k.fresh g3
    have q3 := q2.keep (Keep.new (o := .lst (.str wNeed :: (partsToks p.need).map D.str)) g3)
    have w3 : (mupd X2 m3 (.lst (.str wNeed :: (partsToks p.need).map D.str))) m3 = some (.lst ((wNeed :: partsToks p.need).map D.str)) := mupd_same
    generalize mupd X2 m3 _ = X3 at q3 w3 ⊢
    have q4 := q3.put (d := 1) w3 (by simp) n3
    have el := q3.len
    try simp only [List.length_append, List.length_cons, List.length_nil] at el
    simp! [q3.ff, List.length_map]
    have e3 : (if p.places.isEmpty = true then [] else [((1 : Int), wLoc :: listed p.places)]).length ≤ 1 := by split <;> simp
    refine ⟨by rw [← sz]; omega, ?_⟩
    refine hN _ _ ⟨rfl, zs7 ++ [(1, m3, wNeed :: partsToks p.need)], ?_⟩
    rw [if_neg z]
    simpa [lnD] using q4
  · have z : p.need.isEmpty = true := by
      cases e : p.need with
      | nil => rfl
      | cons x r => rw [e] at z; exact absurd (by simp) z
    simp! []
    refine hN _ _ ⟨rfl, zs7, ?_⟩
    rw [if_pos z, List.append_nil]
    exact fd7
  rintro e M8 ⟨rfl, zs8, fd8⟩
  have hen8 := fd8.k _ _ hen (by simp)
  simp! [hen8]
  refine loop_inv (fun e : Addr × List Part => .ob e.1) (fun rest e M' => ∃ (done : List (Addr × List Part)) (d7 : Option D) (zs : List Ln), done ++ rest = es ∧ e = [some (.str p.name), some (.tup (p.params.map D.str)), some (.tup (p.places.map D.str)), some (.ob nd), some (.ob en), some (.tup (encB p.body)), some (.ob l6), d7] ∧ FndAt M M' l6 zs (((0 : Int), wProc :: p.name :: tL :: (listed p.params ++ [tR])) :: ((if p.places.isEmpty = true then [] else [((1 : Int), wLoc :: listed p.places)]) ++ (if p.need.isEmpty = true then [] else [((1 : Int), wNeed :: partsToks p.need)]) ++ done.map fun q => ((1 : Int), wEns :: partsToks q.2)))) ?_ ?_ ?_ es _ _ ⟨[], none, zs8, rfl, rfl, by simpa using fd8⟩
  · rintro rest e M' ⟨done, d7, zs, _, _, fd⟩
    exact .inl (fd.k _ _ hen (by simp))
  · rintro x rest e M9 N ⟨done, d7, zs, hd, rfl, fd9⟩ hN
    have hx : x ∈ es := by rw [← hd]; simp
    have hx2 := partsToks_len x.2
    have hx3 := (hk4 x hx).1
    have hdl : done.length ≤ 100 := by
      have := congrArg List.length hd
      rw [List.length_append] at this
      omega
    simp! [fd9.ff]
    intro m1 g1
    have q1 := fd9.keep (Keep.new (o := .lst [.str wEns]) g1)
    have w1 : (mupd M9 m1 (.lst [.str wEns])) m1 = _ := mupd_same
    generalize mupd M9 m1 _ = X1 at q1 w1 ⊢
    refine ⟨x.1, x.2, rfl, q1.k _ _ (hes x hx) (by simp), by omega, (hk4 x hx).2, fun m2 X2 g2 w2 k2' => ?_⟩
    have q2 := q1.keep k2'
    have w1' := k2' _ _ w1 (by simp)
    simp! [w1', w2, List.length_map]
    refine ⟨by rw [← sz]; omega, fun m3 g3 => ?_⟩
    have n3 := q2.k.fresh g3
    have q3 := q2.keep (Keep.new (o := .lst (.str wEns :: (partsToks x.2).map D.str)) g3)
    have w3 : (mupd X2 m3 (.lst (.str wEns :: (partsToks x.2).map D.str))) m3 = some (.lst ((wEns :: partsToks x.2).map D.str)) := mupd_same
    generalize mupd X2 m3 _ = X3 at q3 w3 ⊢
    have q4 := q3.put (d := 1) w3 (by simp) n3
    have el := q3.len
    try simp only [List.length_append, List.length_cons, List.length_nil] at el
    simp! [q3.ff, List.length_map]
    have e3 : (if p.places.isEmpty = true then [] else [((1 : Int), wLoc :: listed p.places)]).length ≤ 1 := by split <;> simp
    have e4 : (if p.need.isEmpty = true then [] else [((1 : Int), wNeed :: partsToks p.need)]).length ≤ 1 := by split <;> simp
    refine ⟨by rw [← sz]; simp only [List.length_map] at el; omega, ?_⟩
    exact hN _ _ ⟨done ++ [x], _, zs ++ [(1, m3, wEns :: partsToks x.2)], by rw [← hd]; simp, rfl, by simpa [lnD] using q4⟩
  · rintro e M9 ⟨done, d7, zs, hd, rfl, fd9⟩
    rw [List.append_nil] at hd
    subst hd
    simp! []
    refine ⟨p.body, 1, rfl, hb, hbl, by decide, fun g ys M10 hg => ?_⟩
    have fd10 := fd9.keep hg.k
    have hyl := hg.len
    have e3 : (if p.places.isEmpty = true then [] else [((1 : Int), wLoc :: listed p.places)]).length ≤ 1 := by split <;> simp
    have e4 : (if p.need.isEmpty = true then [] else [((1 : Int), wNeed :: partsToks p.need)]).length ≤ 1 := by split <;> simp
    have el := fd10.len
    simp only [List.length_append, List.length_cons, List.length_map] at el
    simp! [fd10.ff, hg.ff, List.length_map]
    refine ⟨by rw [← sz]; omega, fun m1 g1 => ?_⟩
    have q1 := fd10.cat g1 hg.ln hg.eq fun z hz => fd9.k.fresh (hg.new z hz)
    generalize mupd M10 m1 _ = X1 at q1 ⊢
    try simp! []
    intro m2 g2
    have q2 := q1.keep (Keep.new (o := .lst [.str wEnd]) g2)
    have w2 : (mupd X1 m2 (.lst [.str wEnd])) m2 = some (.lst ([wEnd].map D.str)) := mupd_same
    have n2 := q1.k.fresh g2
    generalize mupd X1 m2 _ = X2 at q2 w2 ⊢
    try simp! []
    intro m3 g3
    have q3 := q2.keep (Keep.new (o := .lst [.tup [.int 0, .ob m2]]) g3)
    have w3 : (mupd X2 m3 (.lst [.tup [.int 0, .ob m2]])) m3 = _ := mupd_same
    have v3 := put_at (o' := .lst [.tup [.int 0, .ob m2]]) w2 g3
    generalize mupd X2 m3 _ = X3 at q3 w3 v3 ⊢
    simp! [q3.ff, w3, List.length_map]
    have el3 := q3.len
    try simp only [List.length_append, List.length_cons, List.length_map, List.length_nil] at el3
    refine ⟨by rw [← sz]; (try simp only [List.length_append]); omega, fun m4 g4 => ?_⟩
    have q4 := q3.cat (ys := [(0, m2, [wEnd])]) (ks := [((0 : Int), [wEnd])]) g4 (fun z hz => by rw [List.mem_singleton.mp hz]; exact ⟨v3, by simp⟩) rfl (fun z hz => by rw [List.mem_singleton.mp hz]; exact n2)
    refine h _ (zs ++ ys ++ [(0, m2, [wEnd])]) _ ?_
    unfold dprocL dheadL
    have em : (done.map (·.2)).map (fun q => ((1 : Int), wEns :: partsToks q)) = done.map fun q => ((1 : Int), wEns :: partsToks q.2) := by rw [List.map_map]; rfl
    rw [hpe, em]
    simpa [lnD] using q4
end K02

set_option maxHeartbeats 4000000
namespace K02
open PySem PySem.Spec PyProof.Rows L2 PL SX
variable {P : Program} {w : World} {K : PySem.W.Frag} {mg : Str → Option Value} {base : Heap} {C_Cursor C_Block C_ProcReader C_Reader v_proc_name : Addr}
local macro_rules | `(tactic| simp! [$ls,*]) => `(tactic| simp only [s_fld, s_fldK, s_insAt, s_optD, s_obAt, s_fput, s_fputK1, s_fputK2, s_faug, s_faugK1, s_faugK2, s_faugK3, s_meth, s_methK1, s_methK2, s_make, s_makeK, s_makeK2, s_dead, s_tryN, noX_nx, noX_rt, noX_bk, noX_ct, mSplit, opMulS, s_enum, s_enumK, s_sortBy, s_sortByK, look_nil, look_cons, putFD_nil, putFD_cons, List.append_nil, to_nx, to_rt, to_bk, to_ct, to_ex, lp_nx, lp_rt, lp_bk, lp_ct, lp_ex, ret_nx, ret_rt, ret_ex, s_exK, s_bif1, s_bif0, s_optB, s_optE, s_nxD, s_ifK, s_asgN, s_asgT, s_asgL, b_nil, b_nm, b_tp, s_next, s_seq, s_drop, s_ret, s_retN, s_ifS, s_asg, s_brk, s_cont, s_put, s_put1, s_put2, s_put3, s_aug, s_augV, s_augK, s_augK2, s_bin, s_bin1, s_bin2, s_var, s_varK, s_C, s_cb, s_cbK, s_call, s_callK, s_m, s_m1, s_m2, s_nil, s_cons, s_cons1, s_cons2, s_tup, s_tupK, s_lst, s_lstK, s_truth, s_trK, s_tK, s_eK, s_cK, s_and, s_andK, s_or, s_orK, s_not, s_notK, s_ife, s_ifeK, s_andV, s_orV, s_andvK, s_orvK, s_andvK2, s_orvK2, s_notV, s_notvK, s_blK, s_neg, s_negK, s_sl, s_sl1, s_sl2, s_sl3, s_noPart, s_part, s_partK, s_rev, s_revK, s_for, s_forK, s_lc, s_lcK, s_yes, s_walk, s_walkT, s_walkS, s_walkA, s_walkL, s_walkR, s_rng1, s_rng2, s_rng1K, s_rng2K, s_callL, s_callLK, s_callLO, s_clK, s_raise, r_val, r_new, r_put, s_whK, s_lcY, s_lcT, s_lcE, s_cg, s_cgK, s_rng3, s_rng3K, s_lcB, s_lcS, wipeD, Pat.bind, seqOf, rg, s_dict0, s_sortSet, s_sortSetK, q_is_tuple, q_is_str, q_is_int, q_is_bool, q_is_list, q_isR, ofS_inj, String.reduceEq, q_eqI, q_neI, q_eqS, q_neS, decide_true, decide_false, Int.reduceEq, reduceCtorEq, i_NoneType_tuple, i_NoneType_str, i_NoneType_int, i_NoneType_bool, i_NoneType_list, i_bool_tuple, i_bool_str, i_bool_int, i_bool_bool, i_bool_list, i_int_tuple, i_int_str, i_int_int, i_int_bool, i_int_list, i_str_tuple, i_str_str, i_str_int, i_str_bool, i_str_list, i_tuple_tuple, i_tuple_str, i_tuple_int, i_tuple_bool, i_tuple_list, i_list_tuple, i_list_str, i_list_int, i_list_bool, i_list_list, i_dict_tuple, i_dict_str, i_dict_int, i_dict_bool, i_dict_list, tyN, startD, mupd_same, mupd_ne, ne_eq, not_false_eq_true, List.map_cons, List.map_nil, List.length_cons, List.length_nil, List.replicate_succ, List.replicate_zero, Nat.zero_add, Nat.reduceAdd, Nat.reduceSub, Int.cast_ofNat_Int, List.cons_append, List.nil_append, List.getElem?_cons_zero, List.getElem?_cons_succ, List.set_cons_zero, List.set_cons_succ, opIx, atI_cons, ixN, opPut, opAdd, opSub, opMul, opFdiv, opMod, opPow, opLt, opLe, opGt, opGe, opIs, opIsNot, D.isNon, truth, bLen, bAbs, bInt, bTuple, bList, isTy, mAppend, mExtend, mPop, Int.reduceLE, Int.reduceLT, Int.reduceToNat, Int.reduceNeg, Int.reduceNe, Option.bind_some, if_true, if_false, ite_true, ite_false, true_and, and_true, Bool.not_true, Bool.not_false, opIadd, Nat.reduceLT, Nat.reduceLeDiff, Int.ofNat_lt, s_dpNil, s_dpCons, s_dpK1, s_dpK2, s_dpK3, s_disp, s_dispK, s_optKV, kvOf, s_dc, s_dcK, s_keys, s_lockK, s_sortIt, mGet, mDPop, dgetR, bDictC, bTupC, opEqD, opNeD, eqDR, D.key, merge_one, optKV, id, opEqL, opNeL, eqLR, $ls,*])
/-! drawn words -/
def WdL (l : List Nat) : Prop := (∃ c r, l = c :: r ∧ c ∈ lettersS.cps.toList) ∧ (∀ c ∈ l, c ∈ wordS.cps.toList) ∧ l.length ≤ 16 ∧ 95 ∈ l
def Wd (x : Str) : Prop := WdL x.cps.toList
theorem Wd.name {x : Str} (h : Wd x) : NameOk x := by
  obtain ⟨h1, h2, h3, h4⟩ := h
  refine ⟨h1, fun hm => ?_, h3, h2⟩
  have : ∀ y ∈ reserved, 95 ∉ y.cps.toList := by decide +kernel
  exact this x hm h4
theorem Wd.tok {x : Str} (h : Wd x) : WordT x.cps.toList := ⟨h.1, h.2.1, h.2.2.1⟩
abbrev signS : Str := Str.ofString "abcdefghijklmnopqrstuvwxyz0123456789_"
theorem sign_low : ∀ c ∈ signS.cps.toList.take 26, c ∈ lettersS.cps.toList := by decide +kernel
theorem sign_word : ∀ c ∈ signS.cps.toList, c ∈ wordS.cps.toList := by decide +kernel
theorem sign_len : signS.cps.toList.length = 37 := by decide +kernel
theorem low_word : ∀ c ∈ lettersS.cps.toList, c ∈ wordS.cps.toList := by decide +kernel
theorem sign_at {r : Int} (h0 : 0 ≤ r) (h1 : r < 37) : ∃ c, atI signS.cps.toList r = some c ∧ c ∈ wordS.cps.toList ∧ (r < 26 → c ∈ lettersS.cps.toList) := by
  have hl := sign_len
  have e := atI_get (xs := signS.cps.toList) h0 (by omega)
  refine ⟨_, e, sign_word _ (List.getElem_mem _), fun h => sign_low _ ?_⟩
  exact List.mem_take_iff_getElem.mpr ⟨r.toNat, by omega, rfl⟩
def sp_word : DSp := fun ds M Q E => ∃ (s b : Addr), ds = [.ob s] ∧ StAt M s b ∧ ∀ x M', Wd x → StAt M' s b → Keep [s] M M' → Q (.str x) M'
theorem mono_word : MonoSp sp_word := by
  rintro ds M Q Q' E E' hQ hE ⟨s, b, h1, h2, h⟩
  exact ⟨s, b, h1, h2, fun x M' z1 z2 z3 => hQ _ _ (h x M' z1 z2 z3)⟩
theorem fn_word (S0 : Src K mg "_law_word" s__law_word ["state"]) (G : GF K mg C_Cursor C_Block C_ProcReader C_Reader v_proc_name) (F__law_draw : Fn P w K mg base 1 "_law_draw" sp_draw []) : Fn P w K mg base 2 "_law_word" sp_word [] := by
  refine S0.fn mono_word fun g fd F => fn_ok F sc__law_word (fun ds M Q E h => by obtain ⟨s, b, rfl, _⟩ := h; rfl) ⟨_, fun cdv A outer s H E hr => have hu := hr.u200
    (xss_cons (xs_set 1 sc__law_word.nd xe_str)
 (xss_cons (xs_set 2 sc__law_word.nd (xe_ix hu (xe_var 1) (xe_call F__law_draw (hr.mono (by first | decide | omega)) bx_takes (by rfl) (xa_cons (xe_var 0) (xa_cons xe_int xa_nil)))))
 (xss_cons (xs_for (p := .nm 3) bx_passes rfl (xi_range1 (by rfl) G.range (xa_cons (xe_call F__law_draw (hr.mono (by first | decide | omega)) bx_takes (by rfl) (xa_cons (xe_var 0) (xa_cons (xe_ix hu (xe_lst (n := 2) (xa_cons xe_int (xa_cons xe_int xa_nil))) (xe_callTy c_int (by rfl) G.int (by decide +kernel) (xa_cons (xe_cmp (x_eq hu) (xe_call F__law_draw (hr.mono (by first | decide | omega)) bx_takes (by rfl) (xa_cons (xe_var 0) (xa_cons xe_int xa_nil))) xe_int (nomark _)) xa_nil))) xa_nil))) xa_nil)) (xg_name 3 sc__law_word.nd)
 (xss_one (xs_set 2 sc__law_word.nd (xe_bin x_add (xe_var 2) (xe_ix hu (xe_var 1) (xe_call F__law_draw (hr.mono (by first | decide | omega)) bx_takes (by rfl) (xa_cons (xe_var 0) (xa_cons xe_int xa_nil))))))))
 (xss_one (xs_ret (xe_bin x_add (xe_var 2) xe_str)))))), fun ds M Q E h => ?_⟩
  obtain ⟨s, b, rfl, hs, h⟩ := h
  have sz : (16777216 : Nat) = sizeLine := sizeLine_eq.symm
  have sg1 : ∀ c : Nat, (⟨#[c]⟩ : Str) = S [c] := fun _ => rfl
  have sl : signS.length ≤ sizeLine := by rw [← sz]; decide +kernel
  simp! []
  refine ⟨s, b, 26, rfl, hs, by decide, by decide, fun r M1 r0 r1 hs1 k1 => ?_⟩
  obtain ⟨c, hc, hw, hlow⟩ := sign_at r0 (by omega)
  simp! [hc, sg1]
  refine ⟨sl, ?_⟩
  intro l hl
  have hls := hs1.ne hl
  refine ⟨s, b, 4, rfl, hs1.new hl, by decide, by decide, fun r2 M2 r20 r21 hs2 k2 => ?_⟩
  have l2 : M2 l = some (.lst [.int 3, .int 15]) := k2 _ _ mupd_same (by simpa using hls.1)
  have k12 : Keep [s] M M2 := (k1.trans (Keep.new hl)).trans k2
  have hb3 : ∀ m : Int, m = 3 ∨ m = 15 → 0 < m ∧ m < 1073741824 ∧ m ≤ 15 := by rintro m (rfl | rfl) <;> decide
  by_cases z : r2 = 0
  all_goals
    simp! [l2, z]
    refine ⟨s, b, _, rfl, hs2, by decide, by decide, fun r3 M3 r30 r31 hs3 k3 => ?_⟩
    have k123 := k12.trans k3
    simp! []
    refine ⟨by omega, ?_⟩
    have hn : r3.toNat ≤ 14 := by omega
    refine loop_inv (fun i : Nat => D.int (0 + (i : Int))) (fun rest e M' => ∃ (l : List Nat) (d3 : Option D), e = [some (.ob s), some (.str signS), some (.str (S l)), d3] ∧ (∃ c r, l = c :: r ∧ c ∈ lettersS.cps.toList) ∧ (∀ c ∈ l, c ∈ wordS.cps.toList) ∧ l.length + rest.length ≤ 15 ∧ StAt M' s b ∧ Keep [s] M M') (fun _ _ _ _ => trivial) ?_ ?_ (List.range r3.toNat) _ _ ⟨[c], none, rfl, ⟨c, [], rfl, hlow (by omega)⟩, by simpa using hw, by simp; omega, hs3, k123⟩
    · rintro i rest e M4 N ⟨l', d3, rfl, h1, h2, h3, hs4, k4⟩ hN
      simp only [List.length_cons] at h3
      simp! []
      refine ⟨s, b, 37, rfl, hs4, by decide, by decide, fun r5 M5 r50 r51 hs5 k5 => ?_⟩
      obtain ⟨c5, hc5, hw5, _⟩ := sign_at r50 r51
      simp! [hc5, sg1, S_cat, len_S]
      refine ⟨sl, by rw [← sz]; simp; omega, ?_⟩
      obtain ⟨c0, q0, rfl, hq0⟩ := h1
      refine hN _ _ ⟨c0 :: q0 ++ [c5], _, rfl, ⟨c0, q0 ++ [c5], rfl, hq0⟩, fun x hx => ?_, by simp at h3 ⊢; omega, hs5, k4.trans k5⟩
      rcases List.mem_append.mp hx with q | q
      · exact h2 x q
      · rw [List.mem_singleton.mp q]; exact hw5
    · rintro e M4 ⟨l', d3, rfl, h1, h2, h3, hs4, k4⟩
      simp only [List.length_nil] at h3
      have eu : Str.ofString "_" = S [95] := by decide +kernel
      simp! [eu, S_cat, len_S]
      refine ⟨by rw [← sz]; simp; omega, ?_⟩
      obtain ⟨c0, q0, rfl, hq0⟩ := h1
      refine h _ _ ⟨⟨c0, q0 ++ [95], rfl, hq0⟩, fun x hx => ?_, by show (c0 :: q0 ++ [95]).length ≤ 16; simp at h3 ⊢; omega, ?_⟩ hs4 k4
      · rcases List.mem_append.mp (show x ∈ c0 :: q0 ++ [95] from hx) with q | q
        · exact h2 x q
        · rw [List.mem_singleton.mp q]; decide +kernel
      · show 95 ∈ c0 :: q0 ++ [95]
        simp
/-! drawn places -/
structure WsAt (M : Mem) (s b nm : Addr) (ws : List Str) : Prop where
  st : StAt M s b
  at_ : M nm = some (.lst (ws.map D.str))
  ne : nm ≠ s
  nonempty : ws ≠ []
  few : ws.length ≤ 1000
  wd : ∀ x ∈ ws, Wd x
theorem WsAt.keep {M M' : Mem} {s b nm : Addr} {ws : List Str} (h : WsAt M s b nm ws) (hs : StAt M' s b) (k : Keep [s] M M') : WsAt M' s b nm ws := ⟨hs, k _ _ h.at_ (by simpa using h.ne), h.ne, h.nonempty, h.few, h.wd⟩
theorem WsAt.keep0 {M M' : Mem} {s b nm : Addr} {ws : List Str} (h : WsAt M s b nm ws) (k : Keep [] M M') : WsAt M' s b nm ws := h.keep (h.st.keep k) (k.weaken (by simp))
theorem WsAt.new {M : Mem} {s b nm l : Addr} {o : Ob} {ws : List Str} (h : WsAt M s b nm ws) (hl : M l = none) : WsAt (mupd M l o) s b nm ws := h.keep0 (Keep.new hl)
/-- the words as one_of wants them -/
theorem WsAt.ask {M : Mem} {s b nm : Addr} {ws : List Str} {Q : DK} {E : DX} (h : WsAt M s b nm ws) (q : ∀ x M', x ∈ ws → WsAt M' s b nm ws → Keep [s] M M' → Q (.str x) M') : sp_one_of [.ob s, .ob nm] M Q E := by
  refine ⟨s, b, .ob nm, ws.map D.str, rfl, h.st, by simp only [seqI, h.at_], by simpa [ofA] using h.ne, by simpa using h.nonempty, by have := h.few; rw [List.length_map]; omega, fun d M2 hd hs2 k2 => ?_⟩
  obtain ⟨y, hy, rfl⟩ := List.mem_map.mp hd
  exact q y M2 hy (h.keep hs2 k2) k2
def sp_lplace : DSp := fun ds M Q E => ∃ (s b nm : Addr) (ws : List Str), ds = [.ob s, .ob nm] ∧ WsAt M s b nm ws ∧ ∀ x M', PlaceOk x → WsAt M' s b nm ws → Keep [s] M M' → Q (.str x) M'
theorem mono_lplace : MonoSp sp_lplace := by
  rintro ds M Q Q' E E' hQ hE ⟨s, b, nm, ws, h1, h2, h⟩
  exact ⟨s, b, nm, ws, h1, h2, fun x M' z1 z2 z3 => hQ _ _ (h x M' z1 z2 z3)⟩
theorem fn_lplace (S0 : Src K mg "_law_place" s__law_place ["state", "names"]) (G : GF K mg C_Cursor C_Block C_ProcReader C_Reader v_proc_name) (F__law_draw : Fn P w K mg base 1 "_law_draw" sp_draw []) (F__law_one_of : Fn P w K mg base 2 "_law_one_of" sp_one_of []) : Fn P w K mg base 3 "_law_place" sp_lplace [] := by
  refine S0.fn mono_lplace fun g fd F => fn_ok F sc__law_place (fun ds M Q E h => by obtain ⟨s, b, nm, ws, rfl, _⟩ := h; rfl) ⟨_, fun cdv A outer s H E hr => have hu := hr.u200
    (xss_cons (xs_if (xt_cmp (x_eq hu) (xe_call F__law_draw (hr.mono (by first | decide | omega)) bx_takes (by rfl) (xa_cons (xe_var 0) (xa_cons xe_int xa_nil))) xe_int (nomark _) bl_eq)
 (xss_one (xs_ret xe_str))
 xss_nil)
 (xss_one (xs_ret (xe_call F__law_one_of (hr.mono (by first | decide | omega)) bx_takes (by rfl) (xa_cons (xe_var 0) (xa_cons (xe_var 1) xa_nil)))))), fun ds M Q E h => ?_⟩
  obtain ⟨s, b, nm, ws, rfl, hn, h⟩ := h
  simp! []
  refine ⟨s, b, 4, rfl, hn.st, by decide, by decide, fun r M1 r0 r1 hs1 k1 => ?_⟩
  have hn1 := hn.keep hs1 k1
  simp! []
  refine bif_dec (fun z => ?_) fun z => ?_
  · simp! []
    exact h _ _ (.inl rfl) hn1 k1
  · simp! []
    exact hn1.ask fun x M2 hx hn2 k2 => h _ _ (.inr (hn1.wd x hx).name) hn2 (k1.trans k2)
end K02

set_option maxHeartbeats 4000000
namespace K02
open PySem PySem.Spec PyProof.Rows L2 PL SX
variable {P : Program} {w : World} {K : PySem.W.Frag} {mg : Str → Option Value} {base : Heap} {C_Cursor C_Block C_ProcReader C_Reader v_proc_name : Addr}
local macro_rules | `(tactic| simp! [$ls,*]) => `(tactic| simp only [s_fld, s_fldK, s_insAt, s_optD, s_obAt, s_fput, s_fputK1, s_fputK2, s_faug, s_faugK1, s_faugK2, s_faugK3, s_meth, s_methK1, s_methK2, s_make, s_makeK, s_makeK2, s_dead, s_tryN, noX_nx, noX_rt, noX_bk, noX_ct, mSplit, opMulS, s_enum, s_enumK, s_sortBy, s_sortByK, look_nil, look_cons, putFD_nil, putFD_cons, List.append_nil, to_nx, to_rt, to_bk, to_ct, to_ex, lp_nx, lp_rt, lp_bk, lp_ct, lp_ex, ret_nx, ret_rt, ret_ex, s_exK, s_bif1, s_bif0, s_optB, s_optE, s_nxD, s_ifK, s_asgN, s_asgT, s_asgL, b_nil, b_nm, b_tp, s_next, s_seq, s_drop, s_ret, s_retN, s_ifS, s_asg, s_brk, s_cont, s_put, s_put1, s_put2, s_put3, s_aug, s_augV, s_augK, s_augK2, s_bin, s_bin1, s_bin2, s_var, s_varK, s_C, s_cb, s_cbK, s_call, s_callK, s_m, s_m1, s_m2, s_nil, s_cons, s_cons1, s_cons2, s_tup, s_tupK, s_lst, s_lstK, s_truth, s_trK, s_tK, s_eK, s_cK, s_and, s_andK, s_or, s_orK, s_not, s_notK, s_ife, s_ifeK, s_andV, s_orV, s_andvK, s_orvK, s_andvK2, s_orvK2, s_notV, s_notvK, s_blK, s_neg, s_negK, s_sl, s_sl1, s_sl2, s_sl3, s_noPart, s_part, s_partK, s_rev, s_revK, s_for, s_forK, s_lc, s_lcK, s_yes, s_walk, s_walkT, s_walkS, s_walkA, s_walkL, s_walkR, s_rng1, s_rng2, s_rng1K, s_rng2K, s_callL, s_callLK, s_callLO, s_clK, s_raise, r_val, r_new, r_put, s_whK, s_lcY, s_lcT, s_lcE, s_cg, s_cgK, s_rng3, s_rng3K, s_lcB, s_lcS, wipeD, Pat.bind, seqOf, rg, s_dict0, s_sortSet, s_sortSetK, q_is_tuple, q_is_str, q_is_int, q_is_bool, q_is_list, q_isR, ofS_inj, String.reduceEq, q_eqI, q_neI, q_eqS, q_neS, decide_true, decide_false, Int.reduceEq, reduceCtorEq, i_NoneType_tuple, i_NoneType_str, i_NoneType_int, i_NoneType_bool, i_NoneType_list, i_bool_tuple, i_bool_str, i_bool_int, i_bool_bool, i_bool_list, i_int_tuple, i_int_str, i_int_int, i_int_bool, i_int_list, i_str_tuple, i_str_str, i_str_int, i_str_bool, i_str_list, i_tuple_tuple, i_tuple_str, i_tuple_int, i_tuple_bool, i_tuple_list, i_list_tuple, i_list_str, i_list_int, i_list_bool, i_list_list, i_dict_tuple, i_dict_str, i_dict_int, i_dict_bool, i_dict_list, tyN, startD, mupd_same, mupd_ne, ne_eq, not_false_eq_true, List.map_cons, List.map_nil, List.length_cons, List.length_nil, List.replicate_succ, List.replicate_zero, Nat.zero_add, Nat.reduceAdd, Nat.reduceSub, Int.cast_ofNat_Int, List.cons_append, List.nil_append, List.getElem?_cons_zero, List.getElem?_cons_succ, List.set_cons_zero, List.set_cons_succ, opIx, atI_cons, ixN, opPut, opAdd, opSub, opMul, opFdiv, opMod, opPow, opLt, opLe, opGt, opGe, opIs, opIsNot, D.isNon, truth, bLen, bAbs, bInt, bTuple, bList, isTy, mAppend, mExtend, mPop, Int.reduceLE, Int.reduceLT, Int.reduceToNat, Int.reduceNeg, Int.reduceNe, Option.bind_some, if_true, if_false, ite_true, ite_false, true_and, and_true, Bool.not_true, Bool.not_false, opIadd, Nat.reduceLT, Nat.reduceLeDiff, Int.ofNat_lt, s_dpNil, s_dpCons, s_dpK1, s_dpK2, s_dpK3, s_disp, s_dispK, s_optKV, kvOf, s_dc, s_dcK, s_keys, s_lockK, s_sortIt, mGet, mDPop, dgetR, bDictC, bTupC, opEqD, opNeD, eqDR, D.key, merge_one, optKV, id, opEqL, opNeL, eqLR, $ls,*])
def sp_stN (n : Nat) : DSp := fun ds M Q E => ∃ (s b nm : Addr) (ws : List Str), ds = [.ob s, .ob nm, .int n] ∧ WsAt M s b nm ws ∧ ∀ x M', OkS n x → WsAt M' s b nm ws → Keep [s] M M' → Q x.enc M'
def sp_st : Nat → DSp
  | 0 => fun _ _ _ _ => False
  | n + 1 => sp_stN n
theorem mono_st : ∀ n, MonoSp (sp_st n)
  | 0 => by
    rintro ds M Q Q' E E' hQ hE h
    exact h
  | n + 1 => by
    rintro ds M Q Q' E E' hQ hE ⟨s, b, nm, ws, h1, h2, h⟩
    exact ⟨s, b, nm, ws, h1, h2, fun x M' z1 z2 z3 => hQ _ _ (h x M' z1 z2 z3)⟩
theorem outs_names {T : Str → Prop} : ∀ {ds : List D}, (∀ d ∈ ds, ∃ x, T x ∧ d = .str x) → ∃ ss : List Str, ds = ss.map D.str ∧ ∀ x ∈ ss, T x
  | [], _ => ⟨[], rfl, fun p h => by cases h⟩
  | d :: ds, h => by
    obtain ⟨ss, rfl, h2⟩ := outs_names (T := T) (ds := ds) fun d hd => h d (List.mem_cons_of_mem _ hd)
    obtain ⟨x, hx, rfl⟩ := h d List.mem_cons_self
    refine ⟨x :: ss, rfl, fun p hp => ?_⟩
    rcases List.mem_cons.mp hp with e | e
    · rw [e]; exact hx
    · exact h2 p e
theorem outs_stms {n : Nat} : ∀ {ds : List D}, (∀ d ∈ ds, ∃ x, OkS n x ∧ d = x.enc) → ∃ ss : List Stm, ds = encB ss ∧ OkB n ss ∧ ss.length = ds.length
  | [], _ => ⟨[], by rw [encB], by rw [OkB]; trivial, rfl⟩
  | d :: ds, h => by
    obtain ⟨ss, rfl, h2, h3⟩ := outs_stms (n := n) (ds := ds) fun d hd => h d (List.mem_cons_of_mem _ hd)
    obtain ⟨x, hx, rfl⟩ := h d List.mem_cons_self
    exact ⟨x :: ss, by rw [encB], by rw [OkB]; exact ⟨hx, h2⟩, by simp [h3]⟩
theorem fn_st_step (S0 : Src K mg "_law_statement" s__law_statement ["state", "names", "deep"]) (G : GF K mg C_Cursor C_Block C_ProcReader C_Reader v_proc_name) (F__law_draw : Fn P w K mg base 1 "_law_draw" sp_draw []) (F__law_one_of : Fn P w K mg base 2 "_law_one_of" sp_one_of []) (F__law_place : Fn P w K mg base 3 "_law_place" sp_lplace []) (n : Nat) (F__law_statement : Fn P w K mg base (4 + n) "_law_statement" (sp_st n) []) : Fn P w K mg base (4 + n + 1) "_law_statement" (sp_st (n + 1)) [] := by
  refine S0.fn (mono_st (n + 1)) fun g fd F => fn_ok F sc__law_statement (fun ds M Q E h => by obtain ⟨s, b, nm, ws, rfl, _⟩ := h; rfl) ⟨_, fun cdv A outer s H E hr => have hu := hr.u200
    (xss_cons (xs_set 3 sc__law_statement.nd (xe_call F__law_one_of (hr.mono (by first | decide | omega)) bx_takes (by rfl) (xa_cons (xe_var 0) (xa_cons (xe_var 1) xa_nil))))
 (xss_cons (xs_set 4 sc__law_statement.nd (xe_call F__law_draw (hr.mono (by first | decide | omega)) bx_takes (by rfl) (xa_cons (xe_var 0) (xa_cons xe_int xa_nil))))
 (xss_cons (xs_if (xt_cmp (x_eq hu) (xe_var 4) xe_int (nomark _) bl_eq)
 (xss_one (xs_ret (xe_tup (n := 3) (xa_cons xe_str (xa_cons (xe_var 3) (xa_cons (xe_call F__law_one_of (hr.mono (by first | decide | omega)) bx_takes (by rfl) (xa_cons (xe_var 0) (xa_cons (xe_var 1) xa_nil))) xa_nil))))))
 xss_nil)
 (xss_cons (xs_if (xt_cmp (x_eq hu) (xe_var 4) xe_int (nomark _) bl_eq)
 (xss_one (xs_ret (xe_tup (n := 3) (xa_cons xe_str (xa_cons (xe_var 3) (xa_cons (xe_call F__law_place (hr.mono (by first | decide | omega)) bx_takes (by rfl) (xa_cons (xe_var 0) (xa_cons (xe_var 1) xa_nil))) xa_nil))))))
 xss_nil)
 (xss_cons (xs_if (xt_cmp (x_eq hu) (xe_var 4) xe_int (nomark _) bl_eq)
 (xss_one (xs_ret (xe_tup (n := 2) (xa_cons (xe_ix hu (xe_lst (n := 2) (xa_cons xe_str (xa_cons xe_str xa_nil))) (xe_call F__law_draw (hr.mono (by first | decide | omega)) bx_takes (by rfl) (xa_cons (xe_var 0) (xa_cons xe_int xa_nil)))) (xa_cons (xe_var 3) xa_nil)))))
 xss_nil)
 (xss_cons (xs_if (xt_cmp (x_eq hu) (xe_var 4) xe_int (nomark _) bl_eq)
 (xss_one (xs_ret (xe_tup (n := 3) (xa_cons xe_str (xa_cons (xe_call F__law_one_of (hr.mono (by first | decide | omega)) bx_takes (by rfl) (xa_cons (xe_var 0) (xa_cons (xe_var 1) xa_nil))) (xa_cons (xe_callTy c_tuple (by rfl) G.tuple (by decide +kernel) (xa_cons (xe_lc (own := [("k", 7)]) (p := .nm 7) rfl sc__law_statement.nd (xi_range1 (by rfl) G.range (xa_cons (xe_call F__law_draw (hr.mono (by first | decide | omega)) bx_takes (by rfl) (xa_cons (xe_var 0) (xa_cons xe_int xa_nil))) xa_nil)) (blkOk_by (by first | (show blkC ["state", "names", "deep", "x", "pick", "test", "first", "k"] (defScope s__law_statement) _ _ = true; decide +kernel) | kernel_rfl | rfl)) (fun _ _ _ _ _ => (xg_name 7 sc__law_statement.nd)) (fun _ _ _ _ _ => xts_nil) (fun _ _ _ _ _ => (xe_call F__law_one_of (hr.mono (by first | decide | omega)) takes0 (by rfl) (xa_cons (xe_var 0) (xa_cons (xe_var 1) xa_nil))))) xa_nil)) xa_nil))))))
 xss_nil)
 (xss_cons (xs_if (xt_wh (xw_or (xt_cmp x_lt (xe_var 4) xe_int (nomark _) bl_lt) (xw_or1 (xt_cmp (x_eq hu) (xe_var 2) xe_int (nomark _) bl_eq))))
 (xss_one (xs_ret (xe_tup (n := 3) (xa_cons xe_str (xa_cons (xe_var 3) (xa_cons (xe_call F__law_place (hr.mono (by first | decide | omega)) bx_takes (by rfl) (xa_cons (xe_var 0) (xa_cons (xe_var 1) xa_nil))) xa_nil))))))
 xss_nil)
 (xss_cons (xs_set 5 sc__law_statement.nd (xe_tup (n := 3) (xa_cons (xe_ix hu (xe_lst (n := 2) (xa_cons xe_str (xa_cons xe_str xa_nil))) (xe_call F__law_draw (hr.mono (by first | decide | omega)) bx_takes (by rfl) (xa_cons (xe_var 0) (xa_cons xe_int xa_nil)))) (xa_cons (xe_call F__law_place (hr.mono (by first | decide | omega)) bx_takes (by rfl) (xa_cons (xe_var 0) (xa_cons (xe_var 1) xa_nil))) (xa_cons (xe_call F__law_place (hr.mono (by first | decide | omega)) bx_takes (by rfl) (xa_cons (xe_var 0) (xa_cons (xe_var 1) xa_nil))) xa_nil)))))
 (xss_cons (xs_set 6 sc__law_statement.nd (xe_callTy c_tuple (by rfl) G.tuple (by decide +kernel) (xa_cons (xe_lc (own := [("k", 7)]) (p := .nm 7) rfl sc__law_statement.nd (xi_range1 (by rfl) G.range (xa_cons (xe_call F__law_draw (hr.mono (by first | decide | omega)) bx_takes (by rfl) (xa_cons (xe_var 0) (xa_cons xe_int xa_nil))) xa_nil)) (blkOk_by (by first | (show blkC ["state", "names", "deep", "x", "pick", "test", "first", "k"] (defScope s__law_statement) _ _ = true; decide +kernel) | kernel_rfl | rfl)) (fun _ _ _ _ _ => (xg_name 7 sc__law_statement.nd)) (fun _ _ _ _ _ => xts_nil) (fun _ _ _ _ _ => (xe_call F__law_statement (hr.mono (by first | decide | omega)) takes0 (by rfl) (xa_cons (xe_var 0) (xa_cons (xe_var 1) (xa_cons (xe_bin x_sub (xe_var 2) xe_int) xa_nil)))))) xa_nil)))
 (xss_cons (xs_if (xt_cmp (x_eq hu) (xe_var 4) xe_int (nomark _) bl_eq)
 (xss_one (xs_ret (xe_tup (n := 3) (xa_cons xe_str (xa_cons (xe_var 5) (xa_cons (xe_var 6) xa_nil))))))
 xss_nil)
 (xss_one (xs_ret (xe_tup (n := 4) (xa_cons xe_str (xa_cons (xe_var 5) (xa_cons (xe_var 6) (xa_cons (xe_callTy c_tuple (by rfl) G.tuple (by decide +kernel) (xa_cons (xe_lc (own := [("k", 7)]) (p := .nm 7) rfl sc__law_statement.nd (xi_range1 (by rfl) G.range (xa_cons (xe_call F__law_draw (hr.mono (by first | decide | omega)) bx_takes (by rfl) (xa_cons (xe_var 0) (xa_cons xe_int xa_nil))) xa_nil)) (blkOk_by (by first | (show blkC ["state", "names", "deep", "x", "pick", "test", "first", "k"] (defScope s__law_statement) _ _ = true; decide +kernel) | kernel_rfl | rfl)) (fun _ _ _ _ _ => (xg_name 7 sc__law_statement.nd)) (fun _ _ _ _ _ => xts_nil) (fun _ _ _ _ _ => (xe_call F__law_statement (hr.mono (by first | decide | omega)) takes0 (by rfl) (xa_cons (xe_var 0) (xa_cons (xe_var 1) (xa_cons (xe_bin x_sub (xe_var 2) xe_int) xa_nil)))))) xa_nil)) xa_nil))))))))))))))))), fun ds M Q E h => ?_⟩
  obtain ⟨s, b, nm, ws, rfl, hn, h⟩ := h
  have sz : (16777216 : Nat) = sizeLine := sizeLine_eq.symm
  have pick2 : ∀ r : Int, 0 ≤ r → r < 2 → r = 0 ∨ r = 1 := fun r h0 h1 => by omega
  simp! []
  refine hn.ask fun x M1 hx hn1 k1 => ?_
  have nx := (hn.wd x hx).name
  simp! []
  refine ⟨s, b, 9, rfl, hn1.st, by decide, by decide, fun pk M2 p0 p1 hs2 k2 => ?_⟩
  have hn2 := hn1.keep hs2 k2
  have k12 := k1.trans k2
  simp! []
  refine bif_dec (fun z => ?_) fun z => ?_
  · simp! []
    refine hn2.ask fun y M3 hy hn3 k3 => ?_
    simp! []
    have := h (.sim (.read x y)) M3 (by rw [OkS]; exact ⟨nx, (hn.wd y hy).name⟩) hn3 (k12.trans k3)
    rw [Stm.enc] at this
    exact this
  simp! []
  refine bif_dec (fun z => ?_) fun z => ?_
  · simp! []
    refine ⟨s, b, nm, ws, rfl, hn2, fun y M3 hy hn3 k3 => ?_⟩
    simp! []
    have := h (.sim (.link x y)) M3 (by rw [OkS]; exact ⟨nx, hy⟩) hn3 (k12.trans k3)
    rw [Stm.enc] at this
    exact this
  simp! []
  refine bif_dec (fun z => ?_) fun z => ?_
  · simp! []
    intro l hl
    have hls := hn2.st.ne hl
    refine ⟨s, b, 2, rfl, (hn2.new hl).st, by decide, by decide, fun r M3 r0 r1 hs3 k3 => ?_⟩
    have hn3 := (hn2.new hl).keep hs3 k3
    have l3 := k3 _ _ mupd_same (by simpa using hls.1)
    have k13 := (k12.trans (Keep.new hl)).trans k3
    rcases pick2 r r0 r1 with rfl | rfl
    · simp! [l3]
      have := h (.sim (.new x)) M3 (by rw [OkS]; exact nx) hn3 k13
      rw [Stm.enc] at this
      exact this
    · simp! [l3]
      have := h (.sim (.free x)) M3 (by rw [OkS]; exact nx) hn3 k13
      rw [Stm.enc] at this
      exact this
  simp! []
  refine bif_dec (fun z => ?_) fun z => ?_
  · simp! []
    refine hn2.ask fun f M3 hf hn3 k3 => ?_
    simp! []
    refine ⟨s, b, 4, rfl, hn3.st, by decide, by decide, fun r M4 r0 r1 hs4 k4 => ?_⟩
    have hn4 := hn3.keep hs4 k4
    simp! []
    refine ⟨by omega, fun l hl => ?_⟩
    have rs := (hn4.st.ne hl).1
    refine lc_rule (fun i : Nat => D.int (0 + (i : Int))) (fun _ o => ∃ y, (y ∈ ws) ∧ o = some (.str y)) (fun M => StAt M s b) [s] (List.range r.toNat) hl (by simpa using rs) hn4.st (fun M' o hj => hj.put rs (hn4.st.ne hl).2) (fun _ _ => trivial) (by rw [List.length_range, ← sz]; omega)
      (fun i hi M5 N sk hs5 k5 hy _ => ?_) fun M5 ds ho hs5 k5 e5 => ?_
    · simp! []
      refine (hn4.keep hs5 k5).ask fun y M6 hym hn6 k6 => ?_
      exact hy _ _ ⟨y, hym, rfl⟩ hn6.st k6
    · have hlen := ho.lenEq (fun _ ⟨_, _, z⟩ => by cases z)
      obtain ⟨as, rfl, has⟩ := outs_names (T := fun y => y ∈ ws) (ho.all (P := fun d => ∃ y, y ∈ ws ∧ d = .str y) fun _ d ⟨y, hy, h⟩ => ⟨y, hy, Option.some.inj h⟩)
      simp only [List.length_map, List.length_range] at hlen
      simp! [e5]
      have := h (.sim (.call f as)) M5 (by rw [OkS]; exact ⟨(hn.wd f hf).name, fun y hy => (hn.wd y (has y hy)).name, by omega⟩) (hn4.keep hs5 k5) (((k12.trans k3).trans k4).trans k5)
      rw [Stm.enc] at this
      exact this
  simp! []
  refine bif_dec (fun z6 => ?_) fun z6 => ?_
  · simp! []
    refine ⟨s, b, nm, ws, rfl, hn2, fun y M3 hy hn3 k3 => ?_⟩
    simp! []
    have := h (.sim (.copy x y)) M3 (by rw [OkS]; exact ⟨nx, hy⟩) hn3 (k12.trans k3)
    rw [Stm.enc] at this
    exact this
  simp! []
  refine bif_dec (fun z7 => ?_) fun z7 => ?_
  · simp! []
    refine ⟨s, b, nm, ws, rfl, hn2, fun y M3 hy hn3 k3 => ?_⟩
    simp! []
    have := h (.sim (.copy x y)) M3 (by rw [OkS]; exact ⟨nx, hy⟩) hn3 (k12.trans k3)
    rw [Stm.enc] at this
    exact this
  obtain ⟨n, rfl⟩ : ∃ m, n = m + 1 := ⟨n - 1, by omega⟩
  simp! []
  intro l hl
  have hls := hn2.st.ne hl
  refine ⟨s, b, 2, rfl, (hn2.new hl).st, by decide, by decide, fun r M3 r0 r1 hs3 k3 => ?_⟩
  have hn3 := (hn2.new hl).keep hs3 k3
  have l3 := k3 _ _ mupd_same (by simpa using hls.1)
  have k13 := (k12.trans (Keep.new hl)).trans k3
  obtain ⟨tt, ht⟩ : ∃ tt : Bool, atI [D.str (Str.ofString "same"), D.str (Str.ofString "unlike")] r = some (.str (kindS tt)) := by
    rcases pick2 r r0 r1 with rfl | rfl
    · exact ⟨true, rfl⟩
    · exact ⟨false, rfl⟩
  have ho : ∀ Q : DK, (opIx (.ob l) (.int r) M3).run M3 Q = Q (.str (kindS tt)) M3 := fun Q => by
    simp only [opIx, l3, ht, Res.run, true_and]
  rw [s_bin2, ho]
  simp! []
  refine ⟨s, b, nm, ws, rfl, hn3, fun a M4 ha hn4 k4 => ?_⟩
  simp! []
  refine ⟨s, b, nm, ws, rfl, hn4, fun b' M5 hb hn5 k5 => ?_⟩
  have k15 := (k13.trans k4).trans k5
  simp! []
  refine ⟨s, b, 3, rfl, hn5.st, by decide, by decide, fun r6 M6 r60 r61 hs6 k6 => ?_⟩
  have hn6 := hn5.keep hs6 k6
  have k16 := k15.trans k6
  simp! []
  have en : ((n + 1 : Nat) : Int) - 1 = (n : Int) := by omega
  refine ⟨by omega, fun l2 hl2 => ?_⟩
  have rs := (hn6.st.ne hl2).1
  refine lc_rule (fun i : Nat => D.int (0 + (i : Int))) (fun _ o => ∃ y, OkS n y ∧ o = some y.enc) (fun M => StAt M s b) [s] (List.range r6.toNat) hl2 (by simpa using rs) hn6.st (fun M' o hj => hj.put rs (hn6.st.ne hl2).2) (fun _ _ => trivial) (by rw [List.length_range, ← sz]; omega)
    (fun i hi M7 N sk hs7 k7 hy _ => ?_) fun M7 ds ho2 hs7 k7 e7 => ?_
  · simp! [en]
    exact ⟨s, b, nm, ws, rfl, hn6.keep hs7 k7, fun y M8 hyo hn8 k8 => hy _ _ ⟨y, hyo, rfl⟩ hn8.st k8⟩
  have hlen := ho2.lenEq (fun _ ⟨_, _, z⟩ => by cases z)
  obtain ⟨fs, rfl, hfs, hfl⟩ := outs_stms (ho2.all (P := fun d => ∃ y, OkS n y ∧ d = y.enc) fun _ d ⟨y, hy, h⟩ => ⟨y, hy, Option.some.inj h⟩)
  simp only [List.length_range] at hlen
  have hn7 := hn6.keep hs7 k7
  have k17 := k16.trans k7
  simp! [e7]
  refine bif_dec (fun z8 => ?_) fun z8 => ?_
  · simp! []
    have := h (.whl tt a b' fs) M7 (by rw [OkS]; exact ⟨ha, hb, by omega, hfs, by omega⟩) hn7 k17
    rw [Stm.enc, testD] at this
    exact this
  · simp! []
    refine ⟨s, b, 3, rfl, hn7.st, by decide, by decide, fun r8 M8 r80 r81 hs8 k8 => ?_⟩
    have hn8 := hn7.keep hs8 k8
    have k18 := k17.trans k8
    simp! []
    refine ⟨by omega, fun l3 hl3 => ?_⟩
    have rs := (hn8.st.ne hl3).1
    refine lc_rule (fun i : Nat => D.int (0 + (i : Int))) (fun _ o => ∃ y, OkS n y ∧ o = some y.enc) (fun M => StAt M s b) [s] (List.range r8.toNat) hl3 (by simpa using rs) hn8.st (fun M' o hj => hj.put rs (hn8.st.ne hl3).2) (fun _ _ => trivial) (by rw [List.length_range, ← sz]; omega)
      (fun i hi M9 N sk hs9 k9 hy _ => ?_) fun M9 ds ho3 hs9 k9 e9 => ?_
    · simp! [en]
      exact ⟨s, b, nm, ws, rfl, hn8.keep hs9 k9, fun y M10 hyo hn10 k10 => hy _ _ ⟨y, hyo, rfl⟩ hn10.st k10⟩
    have hlen3 := ho3.lenEq (fun _ ⟨_, _, z⟩ => by cases z)
    obtain ⟨gs, rfl, hgs, hgl⟩ := outs_stms (ho3.all (P := fun d => ∃ y, OkS n y ∧ d = y.enc) fun _ d ⟨y, hy, h⟩ => ⟨y, hy, Option.some.inj h⟩)
    simp only [List.length_range] at hlen3
    simp! [e9]
    have := h (.ite tt a b' fs gs) M9 (by rw [OkS]; exact ⟨ha, hb, by omega, hfs, by omega, hgs, by omega⟩) (hn8.keep hs9 k9) (k18.trans k9)
    rw [Stm.enc, testD] at this
    exact this
theorem fn_st (S0 : Src K mg "_law_statement" s__law_statement ["state", "names", "deep"]) (G : GF K mg C_Cursor C_Block C_ProcReader C_Reader v_proc_name) (F__law_draw : Fn P w K mg base 1 "_law_draw" sp_draw []) (F__law_one_of : Fn P w K mg base 2 "_law_one_of" sp_one_of []) (F__law_place : Fn P w K mg base 3 "_law_place" sp_lplace []) : ∀ n, Fn P w K mg base (4 + n) "_law_statement" (sp_st n) []
  | 0 => S0.fn (mono_st 0) fun f fd F => fn_none fun ds M Q E h => h
  | n + 1 => fn_st_step S0 G F__law_draw F__law_one_of F__law_place n (fn_st S0 G F__law_draw F__law_one_of F__law_place n)
end K02

set_option maxHeartbeats 4000000
namespace K02
open PySem PySem.Spec PyProof.Rows L2 PL SX
variable {P : Program} {w : World} {K : PySem.W.Frag} {mg : Str → Option Value} {base : Heap} {C_Cursor C_Block C_ProcReader C_Reader v_proc_name : Addr}
local macro_rules | `(tactic| simp! [$ls,*]) => `(tactic| simp only [s_fld, s_fldK, s_insAt, s_optD, s_obAt, s_fput, s_fputK1, s_fputK2, s_faug, s_faugK1, s_faugK2, s_faugK3, s_meth, s_methK1, s_methK2, s_make, s_makeK, s_makeK2, s_dead, s_tryN, noX_nx, noX_rt, noX_bk, noX_ct, mSplit, opMulS, s_enum, s_enumK, s_sortBy, s_sortByK, look_nil, look_cons, putFD_nil, putFD_cons, List.append_nil, to_nx, to_rt, to_bk, to_ct, to_ex, lp_nx, lp_rt, lp_bk, lp_ct, lp_ex, ret_nx, ret_rt, ret_ex, s_exK, s_bif1, s_bif0, s_optB, s_optE, s_nxD, s_ifK, s_asgN, s_asgT, s_asgL, b_nil, b_nm, b_tp, s_next, s_seq, s_drop, s_ret, s_retN, s_ifS, s_asg, s_brk, s_cont, s_put, s_put1, s_put2, s_put3, s_aug, s_augV, s_augK, s_augK2, s_bin, s_bin1, s_bin2, s_var, s_varK, s_C, s_cb, s_cbK, s_call, s_callK, s_m, s_m1, s_m2, s_nil, s_cons, s_cons1, s_cons2, s_tup, s_tupK, s_lst, s_lstK, s_truth, s_trK, s_tK, s_eK, s_cK, s_and, s_andK, s_or, s_orK, s_not, s_notK, s_ife, s_ifeK, s_andV, s_orV, s_andvK, s_orvK, s_andvK2, s_orvK2, s_notV, s_notvK, s_blK, s_neg, s_negK, s_sl, s_sl1, s_sl2, s_sl3, s_noPart, s_part, s_partK, s_rev, s_revK, s_for, s_forK, s_lc, s_lcK, s_yes, s_walk, s_walkT, s_walkS, s_walkA, s_walkL, s_walkR, s_rng1, s_rng2, s_rng1K, s_rng2K, s_callL, s_callLK, s_callLO, s_clK, s_raise, r_val, r_new, r_put, s_whK, s_lcY, s_lcT, s_lcE, s_cg, s_cgK, s_rng3, s_rng3K, s_lcB, s_lcS, wipeD, Pat.bind, seqOf, rg, s_dict0, s_sortSet, s_sortSetK, q_is_tuple, q_is_str, q_is_int, q_is_bool, q_is_list, q_isR, ofS_inj, String.reduceEq, q_eqI, q_neI, q_eqS, q_neS, decide_true, decide_false, Int.reduceEq, reduceCtorEq, i_NoneType_tuple, i_NoneType_str, i_NoneType_int, i_NoneType_bool, i_NoneType_list, i_bool_tuple, i_bool_str, i_bool_int, i_bool_bool, i_bool_list, i_int_tuple, i_int_str, i_int_int, i_int_bool, i_int_list, i_str_tuple, i_str_str, i_str_int, i_str_bool, i_str_list, i_tuple_tuple, i_tuple_str, i_tuple_int, i_tuple_bool, i_tuple_list, i_list_tuple, i_list_str, i_list_int, i_list_bool, i_list_list, i_dict_tuple, i_dict_str, i_dict_int, i_dict_bool, i_dict_list, tyN, startD, mupd_same, mupd_ne, ne_eq, not_false_eq_true, List.map_cons, List.map_nil, List.length_cons, List.length_nil, List.replicate_succ, List.replicate_zero, Nat.zero_add, Nat.reduceAdd, Nat.reduceSub, Int.cast_ofNat_Int, List.cons_append, List.nil_append, List.getElem?_cons_zero, List.getElem?_cons_succ, List.set_cons_zero, List.set_cons_succ, opIx, atI_cons, ixN, opPut, opAdd, opSub, opMul, opFdiv, opMod, opPow, opLt, opLe, opGt, opGe, opIs, opIsNot, D.isNon, truth, bLen, bAbs, bInt, bTuple, bList, isTy, mAppend, mExtend, mPop, Int.reduceLE, Int.reduceLT, Int.reduceToNat, Int.reduceNeg, Int.reduceNe, Option.bind_some, if_true, if_false, ite_true, ite_false, true_and, and_true, Bool.not_true, Bool.not_false, opIadd, Nat.reduceLT, Nat.reduceLeDiff, Int.ofNat_lt, s_dpNil, s_dpCons, s_dpK1, s_dpK2, s_dpK3, s_disp, s_dispK, s_optKV, kvOf, s_dc, s_dcK, s_keys, s_lockK, s_sortIt, mGet, mDPop, dgetR, bDictC, bTupC, opEqD, opNeD, eqDR, D.key, merge_one, optKV, id, opEqL, opNeL, eqLR, $ls,*])
theorem outs_parts : ∀ {ds : List D}, (∀ d ∈ ds, ∃ p, PartOk p ∧ d = partD p) → ∃ ps : List Part, ds = ps.map partD ∧ ∀ p ∈ ps, PartOk p
  | [], _ => ⟨[], rfl, fun p h => by cases h⟩
  | d :: ds, h => by
    obtain ⟨ss, rfl, h2⟩ := outs_parts (ds := ds) fun d hd => h d (List.mem_cons_of_mem _ hd)
    obtain ⟨x, hx, rfl⟩ := h d List.mem_cons_self
    refine ⟨x :: ss, rfl, fun p hp => ?_⟩
    rcases List.mem_cons.mp hp with e | e
    · rw [e]; exact hx
    · exact h2 p e
abbrev kinds5 : List Str := [kSame, kUnl, kCell, kChn, kNone]
def sp_parts : DSp := fun ds M Q E => ∃ (s b nm : Addr) (ws : List Str) (least : Nat), ds = [.ob s, .ob nm, .int least] ∧ WsAt M s b nm ws ∧ least ≤ 10 ∧ ∀ f (ps : List Part) M', M f = none → M' f = some (.lst (ps.map partD)) → (∀ p ∈ ps, PartOk p) → least ≤ ps.length → ps.length ≤ least + 4 → WsAt M' s b nm ws → Keep [s] M M' → Q (.ob f) M'
theorem mono_parts : MonoSp sp_parts := by
  rintro ds M Q Q' E E' hQ hE ⟨s, b, nm, ws, l, h1, h2, h3, h⟩
  exact ⟨s, b, nm, ws, l, h1, h2, h3, fun f ps M' z1 z2 z3 z4 z5 z6 z7 => hQ _ _ (h f ps M' z1 z2 z3 z4 z5 z6 z7)⟩
theorem fn_parts (S0 : Src K mg "_law_parts" s__law_parts ["state", "names", "least"]) (G : GF K mg C_Cursor C_Block C_ProcReader C_Reader v_proc_name) (F__law_draw : Fn P w K mg base 1 "_law_draw" sp_draw []) (F__law_one_of : Fn P w K mg base 2 "_law_one_of" sp_one_of []) (F__law_place : Fn P w K mg base 3 "_law_place" sp_lplace []) : Fn P w K mg base 4 "_law_parts" sp_parts [] := by
  refine S0.fn mono_parts fun g fd F => fn_ok F sc__law_parts (fun ds M Q E h => by obtain ⟨s, b, nm, ws, l, rfl, _⟩ := h; rfl) ⟨_, fun cdv A outer s H E hr => have hu := hr.u200
    (xss_cons (xs_set 3 sc__law_parts.nd (xe_lst (n := 5) (xa_cons xe_str (xa_cons xe_str (xa_cons xe_str (xa_cons xe_str (xa_cons xe_str xa_nil)))))))
 (xss_cons (xs_set 4 sc__law_parts.nd (xe_bin x_add (xe_var 2) (xe_call F__law_draw (hr.mono (by first | decide | omega)) bx_takes (by rfl) (xa_cons (xe_var 0) (xa_cons xe_int xa_nil)))))
 (xss_one (xs_ret (xe_lc (own := [("k", 5)]) (p := .nm 5) rfl sc__law_parts.nd (xi_range1 (by rfl) G.range (xa_cons (xe_var 4) xa_nil)) (blkOk_by (by first | (show blkC ["state", "names", "least", "kinds", "many", "k"] (defScope s__law_parts) _ _ = true; decide +kernel) | kernel_rfl | rfl)) (fun _ _ _ _ _ => (xg_name 5 sc__law_parts.nd)) (fun _ _ _ _ _ => xts_nil) (fun _ _ _ _ _ => (xe_tup (n := 3) (xa_cons (xe_call F__law_one_of (hr.mono (by first | decide | omega)) takes0 (by rfl) (xa_cons (xe_var 0) (xa_cons (xe_var 3) xa_nil))) (xa_cons (xe_call F__law_place (hr.mono (by first | decide | omega)) takes0 (by rfl) (xa_cons (xe_var 0) (xa_cons (xe_var 1) xa_nil))) (xa_cons (xe_call F__law_place (hr.mono (by first | decide | omega)) takes0 (by rfl) (xa_cons (xe_var 0) (xa_cons (xe_var 1) xa_nil))) xa_nil)))))))))), fun ds M Q E h => ?_⟩
  obtain ⟨s, b, nm, ws, least, rfl, hn, hl10, h⟩ := h
  have sz : (16777216 : Nat) = sizeLine := sizeLine_eq.symm
  simp! []
  intro kl hkl
  have hks := hn.st.ne hkl
  have hn1 := hn.new (o := .lst (kinds5.map D.str)) hkl
  have a1 : (mupd M kl (.lst (kinds5.map D.str))) kl = some (.lst (kinds5.map D.str)) := mupd_same
  have k1 : Keep [s] M (mupd M kl (.lst (kinds5.map D.str))) := Keep.new hkl
  simp only [List.map_cons, List.map_nil] at hn1 a1 k1
  generalize mupd M kl _ = M1 at hn1 a1 k1 ⊢
  refine ⟨s, b, 5, rfl, hn1.st, by decide, by decide, fun r M2 r0 r1 hs2 k2 => ?_⟩
  have hn2 := hn1.keep hs2 k2
  have a2 := k2 _ _ a1 (by simpa using hks.1)
  have k12 := k1.trans k2
  simp! []
  obtain ⟨m, hm⟩ : ∃ m : Nat, (least : Int) + r = m := ⟨least + r.toNat, by omega⟩
  rw [hm]
  refine ⟨by omega, fun l hl => ?_⟩
  have rs := (hn2.st.ne hl).1
  have hlk : l ≠ kl := (ne_new a2 hl).symm
  refine lc_rule (fun i : Nat => D.int (0 + (i : Int))) (fun _ o => ∃ p, PartOk p ∧ o = some (partD p)) (fun M => StAt M s b ∧ M kl = some (.lst (kinds5.map D.str))) [s] (List.range (m : Int).toNat) hl (by simpa using rs) ⟨hn2.st, a2⟩ (fun M' o hj => ⟨hj.1.put rs (hn2.st.ne hl).2, by rw [mupd_ne hlk.symm]; exact hj.2⟩) (fun _ _ => trivial) (by rw [List.length_range, ← sz]; omega)
    (fun i hi M3 N sk hs3 k3 hy _ => ?_) fun M3 ds ho hs3 k3 e3 => ?_
  · simp! []
    have hn3 := hn2.keep hs3.1 k3
    refine ⟨s, b, .ob kl, kinds5.map D.str, rfl, hs3.1, by simp only [seqI, hs3.2], by simpa [ofA] using hks.1, by simp, by simp, fun d M4 hd hs4 k4 => ?_⟩
    obtain ⟨k, hk, rfl⟩ := List.mem_map.mp hd
    have hn4 := hn3.keep hs4 k4
    simp! []
    refine ⟨s, b, nm, ws, rfl, hn4, fun x M5 hx hn5 k5 => ?_⟩
    simp! []
    refine ⟨s, b, nm, ws, rfl, hn5, fun y M6 hy' hn6 k6 => ?_⟩
    simp! []
    refine hy (partD (k, x, y)) _ ⟨(k, x, y), ⟨?_, hx, hy'⟩, rfl⟩ ⟨hn6.st, ((k4.trans k5).trans k6) _ _ hs3.2 (by simpa using hks.1)⟩ ((k4.trans k5).trans k6)
    simpa [kinds5] using hk
  · have hlen := ho.lenEq (fun _ ⟨_, _, z⟩ => by cases z)
    obtain ⟨ps, rfl, hps⟩ := outs_parts (ho.all (P := fun d => ∃ p, PartOk p ∧ d = partD p) fun _ d ⟨y, hy, h⟩ => ⟨y, hy, Option.some.inj h⟩)
    simp only [List.length_map, List.length_range] at hlen
    try simp! []
    refine h l ps M3 ?_ e3 hps (by omega) (by omega) (hn2.keep hs3.1 k3) (k12.trans k3)
    exact hn2.st.fresh k12 hl
def sp_lpic : DSp := fun ds M Q E => ∃ (a : Addr) (ps : List Part), ds = [.ob a] ∧ M a = some (.lst (ps.map partD)) ∧ ps.length ≤ 1000 ∧ ∀ M', Keep [] M M' → Q (picD ps) M'
theorem mono_lpic : MonoSp sp_lpic := by
  rintro ds M Q Q' E E' hQ hE ⟨a, ps, h1, h2, h3, h⟩
  exact ⟨a, ps, h1, h2, h3, fun M' z1 => hQ _ _ (h M' z1)⟩
theorem fn_lpic (S0 : Src K mg "_law_picture" s__law_picture ["parts"]) (G : GF K mg C_Cursor C_Block C_ProcReader C_Reader v_proc_name) : Fn P w K mg base 1 "_law_picture" sp_lpic [] := by
  refine S0.fn mono_lpic fun g fd F => fn_ok F sc__law_picture (fun ds M Q E h => by obtain ⟨a, ps, rfl, _⟩ := h; rfl) ⟨_, fun cdv A outer s H E hr => have hu := hr.u200
    (xss_cons (xs_set 1 sc__law_picture.nd (xe_lst (n := 4) (xa_cons xe_str (xa_cons xe_str (xa_cons xe_str (xa_cons xe_str xa_nil))))))
 (xss_one (xs_ret (xe_callTy c_tuple (by rfl) G.tuple (by decide +kernel) (xa_cons (xe_lc (own := [("kind", 2)]) (p := .nm 2) rfl sc__law_picture.nd (xi_walk (xe_var 1)) (blkOk_by (by first | (show blkC ["parts", "kinds", "kind", "part"] (defScope s__law_picture) _ _ = true; decide +kernel) | kernel_rfl | rfl)) (fun _ _ _ _ _ => (xg_name 2 sc__law_picture.nd)) (fun _ _ _ _ _ => xts_nil) (fun _ _ _ _ _ => (xe_callTy c_tuple (by rfl) G.tuple (by decide +kernel) (xa_cons (xe_lc (own := [("part", 3)]) (p := .nm 3) rfl sc__law_picture.nd (xi_walk (xe_var 0)) (blkOk_by (by first | (show blkC ["parts", "kinds", "kind", "part"] (defScope s__law_picture) _ _ = true; decide +kernel) | kernel_rfl | rfl)) (fun _ _ _ _ _ => (xg_name 3 sc__law_picture.nd)) (fun _ _ _ _ _ => (xts_one (xt_cmp (x_eq hu) (xe_ix hu (xe_var 3) xe_int) (xe_var 2) (nomark _) bl_eq))) (fun _ _ _ _ _ => (xe_sl (xe_var 3) (xo_some xe_int) xo_none))) xa_nil)))) xa_nil))))), fun ds M Q E h => ?_⟩
  obtain ⟨a, ps, rfl, ha, hl, h⟩ := h
  have sz : (16777216 : Nat) = sizeLine := sizeLine_eq.symm
  have e1 : ∀ a b c : D, PL.cutD [a, b, c] (some 1) none = [b, c] := fun a b c => rfl
  simp! []
  intro kl hkl l hl
  have a1 := put_at (o' := .lst ([kSame, kUnl, kCell, kChn].map D.str)) ha hkl
  have b1 : (mupd M kl (.lst ([kSame, kUnl, kCell, kChn].map D.str))) kl = some (.lst ([kSame, kUnl, kCell, kChn].map D.str)) := mupd_same
  have k1 : Keep [] M (mupd M kl (.lst ([kSame, kUnl, kCell, kChn].map D.str))) := Keep.new hkl
  simp only [List.map_cons, List.map_nil] at a1 b1 k1
  generalize mupd M kl _ = M1 at a1 b1 k1 hl ⊢
  refine lc_pure D.str (fun k => .tup (kindL k ps)) (fun _ => true) [kSame, kUnl, kCell, kChn] hl (fun M' k => by first | exact .inl (k _ _ b1 (by simp)) | exact k _ _ b1 (by simp) | trivial) (by rw [← sz]; simp) (fun k hk M2 N sk k2 hy _ => ?_) fun M2 k2 e2 => ?_
  · have a2 := k2 _ _ a1 (by simp)
    simp! [a2]
    intro l2 hl2
    refine lc_pure partD pairD (fun p => decide (p.1 = k)) ps hl2 (fun M' k => Or.inl (k _ _ a2 (by simp))) (by rw [← sz]; omega) (fun p hp M3 N3 sk3 k3 hy3 hn3 => ?_) fun M3 k3 e3 => ?_
    · simp! [partD]
      refine bif_dec (fun z => ?_) fun z => ?_
      · simp! [opSl, e1]
        exact hy3 (decide_eq_true z) _ Keep.refl
      · exact hn3 (decide_eq_false z) _ Keep.refl
    · simp! [e3]
      exact hy rfl _ k3
  · simp! [e2]
    refine h M2 (k1.trans k2)
end K02

set_option maxHeartbeats 4000000
namespace K02
open PySem PySem.Spec PyProof.Rows L2 PL SX
variable {P : Program} {w : World} {K : PySem.W.Frag} {mg : Str → Option Value} {base : Heap} {C_Cursor C_Block C_ProcReader C_Reader v_proc_name : Addr}
/-! a text of tokens -/
theorem Lay.sps {l : List Nat} {ts : List (List Nat)} (h : Lay l ts) : ∀ n, Lay (List.replicate n 32 ++ l) ts
  | 0 => h
  | n + 1 => by rw [List.replicate_succ]; exact .sp (h.sps n)
theorem Sep.sp {t l : List Nat} : Sep t (32 :: l) := ⟨(fun _ c hc => by
  have : 32 = c := by simpa using hc
  rw [← this]; decide +kernel), fun _ => by simp⟩
theorem Sep.nil {t : List Nat} : Sep t [] := ⟨(fun _ c hc => by simp at hc), fun _ => by simp⟩
theorem Sep.rep {t : List Nat} : ∀ n, Sep t (List.replicate n 32)
  | 0 => Sep.nil
  | n + 1 => Sep.sp
theorem sing_word : ∀ c ∈ singS.cps.toList, c ∉ wordS.cps.toList := by decide +kernel
def LowH (t : List Nat) : Prop := ∀ c ∈ t.head?, c ∈ lettersS.cps.toList
theorem WordT.low {t : List Nat} (h : WordT t) : LowH t := by
  obtain ⟨⟨c, r, rfl, hc⟩, _⟩ := h
  intro d hd
  have : c = d := by simpa using hd
  rw [← this]; exact hc
theorem Sep.tok {t u l : List Nat} (hu : TokOk u) (nb : t = [61] → WordT u) (hg : ¬ (LowH t ∧ LowH u)) : Sep t (u ++ l) := by
  constructor
  · intro ht c hc
    rcases hu with h | h | h
    · exact absurd ⟨ht.low, h.low⟩ hg
    · rcases h with rfl | rfl
      · have : 61 = c := by simpa using hc
        rw [← this]; decide +kernel
      · have : 33 = c := by simpa using hc
        rw [← this]; decide +kernel
    · obtain ⟨d, rfl, hd⟩ := h
      have : d = c := by simpa using hc
      rw [← this]
      exact sing_word d hd
  · intro e h
    obtain ⟨⟨c, r, rfl, hc⟩, _⟩ := nb e
    have : c = 61 := by simpa using h
    rw [this] at hc
    exact absurd hc (by decide +kernel)
def LaySo (T : List Nat) (done : List (List Nat)) : Prop := ∀ l rest, Lay l rest → (∀ t ∈ done.getLast?, Sep t l) → Lay (T ++ l) (done ++ rest)
theorem LaySo.sp (n : Nat) : LaySo (List.replicate n 32) [] := fun l rest h _ => h.sps n
theorem LaySo.step {T : List Nat} {done : List (List Nat)} {u : List Nat} {g : Nat} (h : LaySo T done) (hu : TokOk u) (hs : ∀ t ∈ done.getLast?, (t = [61] → WordT u) ∧ (g = 0 → ¬ (LowH t ∧ LowH u))) : LaySo (T ++ (List.replicate g 32 ++ u)) (done ++ [u]) := by
  intro l rest hl hsep
  have hsu : Sep u l := hsep u (by simp)
  have := h (List.replicate g 32 ++ (u ++ l)) (u :: rest) ((Lay.tok hu hsu hl).sps g) fun t ht => by
    obtain ⟨h1, h2⟩ := hs t ht
    cases g with
    | zero => rw [List.replicate_zero, List.nil_append]; exact Sep.tok hu h1 (h2 rfl)
    | succ n => exact Sep.sp
  simpa [List.append_assoc] using this
theorem LaySo.end {T : List Nat} {done : List (List Nat)} (h : LaySo T done) (n : Nat) : Lay (T ++ List.replicate n 32) done := by
  have := h (List.replicate n 32) [] (by simpa using Lay.nil.sps n) fun t _ => Sep.rep n
  simpa using this
theorem Lay.blank (n : Nat) : Lay (List.replicate n 32) [] := by simpa using Lay.nil.sps n
/-! no "=" ahead of a token that begins with "=" -/
def AdjOk : List (List Nat) → Prop
  | [] => True
  | [_] => True
  | a :: b :: r => (a = [61] → WordT b) ∧ AdjOk (b :: r)
theorem AdjOk.get : ∀ {tk : List (List Nat)}, AdjOk tk → ∀ (i : Nat) (h : i + 1 < tk.length), tk[i] = [61] → WordT tk[i + 1]
  | [], _, i, h => absurd h (by simp)
  | [_], _, i, h => absurd h (by simp)
  | a :: b :: r, hk, 0, h => fun e => hk.1 e
  | a :: b :: r, hk, i + 1, h => fun e => AdjOk.get (tk := b :: r) hk.2 i (by simpa using h) e
theorem AdjOk.free : ∀ {tk : List (List Nat)}, (∀ t ∈ tk, t ≠ [61]) → AdjOk tk
  | [], _ => trivial
  | [_], _ => trivial
  | a :: b :: r, h => ⟨(fun e => absurd e (h a List.mem_cons_self)), AdjOk.free fun t ht => h t (List.mem_cons_of_mem _ ht)⟩
def TokL (tk : List (List Nat)) : Prop := tk ≠ [] ∧ tk.length ≤ 60 ∧ (∀ t ∈ tk, TokOk t) ∧ AdjOk tk
theorem tok_len {t : List Nat} (h : TokOk t) : t.length ≤ 16 := by
  rcases h with h | h | ⟨c, rfl, _⟩
  · exact h.2.2
  · rcases h with rfl | rfl <;> simp
  · simp
end K02

set_option maxHeartbeats 4000000
namespace K02
open PySem PySem.Spec PyProof.Rows L2 PL SX
variable {P : Program} {w : World} {K : PySem.W.Frag} {mg : Str → Option Value} {base : Heap} {C_Cursor C_Block C_ProcReader C_Reader v_proc_name : Addr}
open TL (joinL)
abbrev cpsL (x : Str) : List Nat := x.cps.toList
theorem S_cps (x : Str) : S (cpsL x) = x := by
  obtain ⟨a⟩ := x
  rfl
/-- texts of token lines, with blank ones between -/
inductive Texts : List (List Str) → List (List Nat) → Prop
  | nil : Texts [] []
  | blank {l : List Nat} {ts : List (List Str)} {ls : List (List Nat)} : Lay l [] → l.length ≤ 1200 → Texts ts ls → Texts ts (l :: ls)
  | line {l : List Nat} {t : List Str} {ts : List (List Str)} {ls : List (List Nat)} : Lay l (t.map cpsL) → l.length ≤ 1200 → Texts ts ls → Texts (t :: ts) (l :: ls)
theorem Texts.app {a b : List (List Str)} {x y : List (List Nat)} (h : Texts a x) (g : Texts b y) : Texts (a ++ b) (x ++ y) := by
  induction h with
  | nil => exact g
  | blank h1 h2 _ ih => exact .blank h1 h2 ih
  | line h1 h2 _ ih => exact .line h1 h2 ih
theorem Texts.each {a : List (List Str)} {x : List (List Nat)} (h : Texts a x) : ∀ l ∈ x, l.length ≤ 1200 ∧ 10 ∉ l := by
  have nl : ∀ {l : List Nat} {ts : List (List Nat)}, Lay l ts → 10 ∉ l := fun h => by
    induction h with
    | nil => simp
    | sp _ ih => simpa using ih
    | tok h _ _ ih =>
      rw [List.mem_append]
      rintro (e | e)
      · rcases h with h | h | ⟨c, rfl, h⟩
        · exact absurd (h.2.1 _ e) (by decide +kernel)
        · rcases h with rfl | rfl <;> simp at e
        · rw [List.mem_singleton] at e
          subst e
          exact absurd h (by decide +kernel)
      · exact ih e
  induction h with
  | nil => intro l hl; cases hl
  | blank h1 h2 _ ih =>
    intro l hl
    rcases List.mem_cons.mp hl with rfl | hl
    · exact ⟨h2, nl h1⟩
    · exact ih l hl
  | line h1 h2 _ ih =>
    intro l hl
    rcases List.mem_cons.mp hl with rfl | hl
    · exact ⟨h2, nl h1⟩
    · exact ih l hl
theorem runs_texts {ls : List (List Str)} {tx : List (List Nat)} (h : Texts ls tx) : ∀ {σ σ' : RS}, RunT σ ls σ' → (∀ l ∈ ls, l ≠ [] ∧ l.length ≤ 60) → Runs σ tx σ' := by
  induction h with
  | nil => intro σ σ' hr _; cases hr; exact .nil
  | blank h1 h2 _ ih => intro σ σ' hr hl; exact .blank h1 (ih hr hl)
  | line h1 h2 _ ih =>
    intro σ σ' hr hl
    rename_i l t ts ls _
    cases hr with
    | cons hh hr =>
      obtain ⟨q1, q2⟩ := hl t List.mem_cons_self
      refine .line h1 (by simpa using q1) (by simpa using q2) ?_ (ih hr fun l hl' => hl l (List.mem_cons_of_mem _ hl'))
      rw [List.map_map, show (S ∘ cpsL) = id from funext S_cps, List.map_id]
      exact hh
theorem Keep.putS {M M' : Mem} {s p : Addr} {o : Ob} (k : Keep [s] M M') (h : M p = none) : Keep [s] M (mupd M' p o) := ((k.weaken (T := [p, s]) (by simp)).trans (Keep.put (by simp))).drop h
def LineTok (l : List Str) : Prop := TokL (l.map cpsL)
end K02

set_option maxHeartbeats 4000000
namespace K02
open PySem PySem.Spec PyProof.Rows L2 PL SX
variable {P : Program} {w : World} {K : PySem.W.Frag} {mg : Str → Option Value} {base : Heap} {C_Cursor C_Block C_ProcReader C_Reader v_proc_name : Addr}
open TL (joinL)
/-! the tokens of drawn lines -/
theorem NameOk.tok {x : Str} (h : NameOk x) : WordT (cpsL x) := ⟨h.1, h.2.2.2, h.2.2.1⟩
def wordB (l : List Nat) : Bool := (match l with | [] => false | c :: _ => decide (c ∈ lettersS.cps.toList)) && (l.all fun c => decide (c ∈ wordS.cps.toList)) && decide (l.length ≤ 16)
theorem wordT_of {l : List Nat} (h : wordB l = true) : WordT l := by
  simp only [wordB, Bool.and_eq_true, List.all_eq_true, decide_eq_true_eq] at h
  obtain ⟨⟨h1, h2⟩, h3⟩ := h
  cases l with
  | nil => cases h1
  | cons c r => exact ⟨⟨c, r, rfl, of_decide_eq_true h1⟩, h2, h3⟩
theorem PlaceOk.tok {x : Str} (h : PlaceOk x) : WordT (cpsL x) := by
  rcases h with rfl | h
  · exact wordT_of (by decide +kernel)
  · exact h.tok
/-- a token that is not "=" -/
def TkN (x : Str) : Prop := TokOk (cpsL x) ∧ cpsL x ≠ [61]
theorem WordT.tkn {x : Str} (h : WordT (cpsL x)) : TkN x := ⟨.inl h, fun e => by
  rw [e] at h
  obtain ⟨⟨c, r, e, hc⟩, _⟩ := h
  cases e
  exact absurd hc (by decide +kernel)⟩
theorem kw_tkn : ∀ x ∈ reserved, WordT (cpsL x) := fun x hx => wordT_of (by
  have : ∀ x ∈ reserved, wordB (cpsL x) = true := by decide +kernel
  exact this x hx)
def singB (x : Str) : Bool := (match cpsL x with | [c] => decide (c ∈ singS.cps.toList) && decide (c ≠ 61) | _ => false)
theorem singB_tkn {x : Str} (h : singB x = true) : TkN x := by
  unfold singB at h
  split at h
  · rename_i c e
    simp only [Bool.and_eq_true, decide_eq_true_eq] at h
    exact ⟨.inr (.inr ⟨c, e, h.1⟩), by rw [e]; simpa using h.2⟩
  · cases h
theorem tL_tkn : TkN tL := singB_tkn (by decide +kernel)
theorem tR_tkn : TkN tR := singB_tkn (by decide +kernel)
theorem tC_tkn : TkN tC := singB_tkn (by decide +kernel)
theorem tX_tkn : TkN tX := singB_tkn (by decide +kernel)
theorem opT_tkn (s : Bool) : TkN (opT s) := by
  cases s
  · exact ⟨.inr (.inl (.inr (by decide +kernel))), by decide +kernel⟩
  · exact ⟨.inr (.inl (.inl (by decide +kernel))), by decide +kernel⟩
theorem line_of {l : List Str} (h0 : l ≠ []) (hl : l.length ≤ 60) (h : ∀ x ∈ l, TkN x) : LineTok l := by
  refine ⟨by simpa using h0, by simpa using hl, fun t ht => ?_, AdjOk.free fun t ht => ?_⟩
  · obtain ⟨x, hx, rfl⟩ := List.mem_map.mp ht
    exact (h x hx).1
  · obtain ⟨x, hx, rfl⟩ := List.mem_map.mp ht
    exact (h x hx).2
theorem listed_tkn {ns : List Str} (h : ∀ x ∈ ns, NameOk x) : ∀ x ∈ listed ns, TkN x := by
  cases ns with
  | nil => intro x hx; cases hx
  | cons y r =>
    intro x hx
    have : x = tC ∨ x ∈ y :: r := by
      simp only [listed, List.mem_cons, List.mem_flatMap] at hx ⊢
      grind
    rcases this with rfl | hm
    · exact tC_tkn
    · exact (h x hm).tok.tkn
theorem partToks_tkn {p : Part} (h : PartOk p) : ∀ x ∈ partToks p, TkN x := by
  obtain ⟨hk, h1, h2⟩ := h
  have e1 := opT_tkn true
  have e2 := opT_tkn false
  have k3 : TkN kNone := (kw_tkn _ (by simp)).tkn
  unfold partToks
  intro x hx
  split at hx
  · rw [List.mem_singleton.mp hx]; exact k3
  split at hx
  · simp only [List.mem_cons, List.not_mem_nil, or_false] at hx
    rcases hx with rfl | rfl | rfl
    · exact h1.tok.tkn
    · exact e1
    · exact h2.tok.tkn
  split at hx
  · simp only [List.mem_cons, List.not_mem_nil, or_false] at hx
    rcases hx with rfl | rfl | rfl
    · exact h1.tok.tkn
    · exact e2
    · exact h2.tok.tkn
  · rename_i n1 n2 n3
    have hkk : TkN p.1 := by
      rcases hk with e | e | e | e | e
      · exact absurd e n2
      · exact absurd e n3
      · rw [e]; exact (kw_tkn _ (by simp)).tkn
      · rw [e]; exact (kw_tkn _ (by simp)).tkn
      · exact absurd e n1
    simp only [List.mem_cons, List.not_mem_nil, or_false] at hx
    rcases hx with rfl | rfl | rfl | rfl | rfl | rfl
    · exact hkk
    · exact tL_tkn
    · exact h1.tok.tkn
    · exact tC_tkn
    · exact h2.tok.tkn
    · exact tR_tkn
theorem partsToks_tkn {ps : List Part} (h : ∀ p ∈ ps, PartOk p) : ∀ x ∈ partsToks ps, TkN x := by
  have ht : ∀ l : List Part, (∀ p ∈ l, PartOk p) → ∀ x ∈ partsTail l, TkN x := fun l hl x hx => by
    obtain ⟨p, hp, hx⟩ := List.mem_flatMap.mp hx
    rcases List.mem_cons.mp hx with rfl | hx
    · exact tX_tkn
    · exact partToks_tkn (hl p hp) x hx
  cases ps with
  | nil => intro x hx; cases hx
  | cons p r =>
    intro x hx
    rcases List.mem_append.mp (show x ∈ partToks p ++ partsTail r from hx) with hx | hx
    · exact partToks_tkn (h p List.mem_cons_self) x hx
    · exact ht r (fun q hq => h q (List.mem_cons_of_mem _ hq)) x hx
theorem wset : WordT (cpsL (Str.ofString "set")) ∧ WordT (cpsL (Str.ofString "next")) ∧ WordT (cpsL (Str.ofString "new")) ∧ WordT (cpsL (Str.ofString "free")) ∧ WordT (cpsL (Str.ofString "call")) := ⟨kw_tkn _ (by simp), kw_tkn _ (by simp), kw_tkn _ (by simp), kw_tkn _ (by simp), kw_tkn _ (by simp)⟩
theorem tA_tok : TokOk (cpsL tA) := .inr (.inr ⟨61, by decide +kernel, by decide +kernel⟩)
theorem wneA {x : Str} (h : WordT (cpsL x)) : cpsL x ≠ [61] := (WordT.tkn h).2
theorem sim_line {s : Sim} (h : s.Ok) : LineTok (s.word :: s.tail) := by
  obtain ⟨w1, w2, w3, w4, w5⟩ := wset
  have tok4 : ∀ a b c : Str, WordT (cpsL a) → WordT (cpsL b) → WordT (cpsL c) → LineTok [a, b, tA, c] := fun a b c ha hb hc => by
    refine ⟨by simp, by simp, fun t ht => ?_, ?_⟩
    · simp only [List.map_cons, List.map_nil, List.mem_cons, List.not_mem_nil, or_false] at ht
      rcases ht with rfl | rfl | rfl | rfl
      · exact .inl ha
      · exact .inl hb
      · exact tA_tok
      · exact .inl hc
    · exact ⟨fun e => absurd e (wneA ha), fun e => absurd e (wneA hb), fun _ => hc, trivial⟩
  have tok5 : ∀ a b c d : Str, WordT (cpsL a) → WordT (cpsL b) → WordT (cpsL c) → WordT (cpsL d) → LineTok [a, b, tA, c, d] ∧ LineTok [a, b, c, tA, d] := fun a b c d ha hb hc hd => by
    refine ⟨⟨by simp, by simp, fun t ht => ?_, ?_⟩, ⟨by simp, by simp, fun t ht => ?_, ?_⟩⟩
    · simp only [List.map_cons, List.map_nil, List.mem_cons, List.not_mem_nil, or_false] at ht
      rcases ht with rfl | rfl | rfl | rfl | rfl
      · exact .inl ha
      · exact .inl hb
      · exact tA_tok
      · exact .inl hc
      · exact .inl hd
    · exact ⟨fun e => absurd e (wneA ha), fun e => absurd e (wneA hb), fun _ => hc, fun e => absurd e (wneA hc), trivial⟩
    · simp only [List.map_cons, List.map_nil, List.mem_cons, List.not_mem_nil, or_false] at ht
      rcases ht with rfl | rfl | rfl | rfl | rfl
      · exact .inl ha
      · exact .inl hb
      · exact .inl hc
      · exact tA_tok
      · exact .inl hd
    · exact ⟨fun e => absurd e (wneA ha), fun e => absurd e (wneA hb), fun e => absurd e (wneA hc), fun _ => hd, trivial⟩
  cases s with
  | copy x y => exact tok4 _ _ _ w1 h.1.tok h.2.tok
  | read x y => exact (tok5 _ _ _ _ w1 h.1.tok w2 h.2.tok).1
  | link x y => exact (tok5 _ _ _ _ w1 w2 h.1.tok h.2.tok).2
  | new x =>
    refine line_of (by simp) (by simp [Sim.tail]) fun t ht => ?_
    simp only [Sim.word, Sim.tail, List.mem_cons, List.not_mem_nil, or_false] at ht
    rcases ht with rfl | rfl
    · exact w3.tkn
    · exact (show NameOk _ from h).tok.tkn
  | free x =>
    refine line_of (by simp) (by simp [Sim.tail]) fun t ht => ?_
    simp only [Sim.word, Sim.tail, List.mem_cons, List.not_mem_nil, or_false] at ht
    rcases ht with rfl | rfl
    · exact w4.tkn
    · exact (show NameOk _ from h).tok.tkn
  | call f as =>
    obtain ⟨h1, h2, h3⟩ := h
    have := listed_len as
    refine line_of (by simp) (by simp only [Sim.tail, List.length_cons, List.length_append, List.length_nil]; omega) fun t ht => ?_
    simp only [Sim.word, Sim.tail, List.mem_cons, List.mem_append, List.not_mem_nil, or_false] at ht
    rcases ht with rfl | rfl | rfl | ht | rfl
    · exact w5.tkn
    · exact h1.tok.tkn
    · exact tL_tkn
    · exact listed_tkn h2 t ht
    · exact tR_tkn
theorem kwEnd : LineTok [wEnd] := line_of (by simp) (by simp) fun t ht => by
  rw [List.mem_singleton.mp ht]
  exact (kw_tkn _ (by simp)).tkn
theorem kwElse : LineTok [wElse] := line_of (by simp) (by simp) fun t ht => by
  rw [List.mem_singleton.mp ht]
  exact (kw_tkn _ (by simp)).tkn
theorem kwOpen {k a b : Str} (s : Bool) (hk : k ∈ reserved) (ha : PlaceOk a) (hb : PlaceOk b) : LineTok [k, a, opT s, b] := line_of (by simp) (by simp) fun t ht => by
  simp only [List.mem_cons, List.not_mem_nil, or_false] at ht
  rcases ht with rfl | rfl | rfl | rfl
  · exact (kw_tkn _ hk).tkn
  · exact ha.tok.tkn
  · exact opT_tkn s
  · exact hb.tok.tkn
mutual
theorem linesS_tok : ∀ (d : Nat) (x : Stm), OkS d x → ∀ l ∈ linesS x, LineTok l
  | d, .sim s, h => by
    unfold OkS at h
    unfold linesS
    intro l hl
    rw [List.mem_singleton.mp hl]
    exact sim_line h
  | d, .whl s a b body, h => by
    unfold OkS at h
    obtain ⟨ha, hb, h0, hbo, hl⟩ := h
    have hB := linesB_tok (d - 1) body hbo
    unfold linesS
    intro l hl
    simp only [List.mem_cons, List.mem_append, List.not_mem_nil, or_false] at hl
    rcases hl with rfl | hl | rfl
    · exact kwOpen s (by simp) ha hb
    · exact hB l hl
    · exact kwEnd
  | d, .ite s a b f g, h => by
    unfold OkS at h
    obtain ⟨ha, hb, h0, hf, hfl, hg, hgl⟩ := h
    have h1 := linesB_tok (d - 1) f hf
    have h2 := linesB_tok (d - 1) g hg
    unfold linesS
    intro l hl
    simp only [List.mem_cons, List.mem_append, List.not_mem_nil, or_false] at hl
    rcases hl with rfl | hl | hl | rfl
    · exact kwOpen s (by simp) ha hb
    · exact h1 l hl
    · split at hl
      · cases hl
      · rcases List.mem_cons.mp hl with rfl | hl
        · exact kwElse
        · exact h2 l hl
    · exact kwEnd
theorem linesB_tok : ∀ (d : Nat) (b : List Stm), OkB d b → ∀ l ∈ linesB b, LineTok l
  | d, [], _ => by unfold linesB; intro l hl; cases hl
  | d, x :: r, h => by
    unfold OkB at h
    have h1 := linesS_tok d x h.1
    have h2 := linesB_tok d r h.2
    unfold linesB
    intro l hl
    rcases List.mem_append.mp hl with hl | hl
    · exact h1 l hl
    · exact h2 l hl
end
/-! how many lines there are -/
mutual
theorem linesS_few : ∀ (d : Nat) (x : Stm), OkS d x → 5 * (linesS x).length + 3 ≤ 8 * 6 ^ d
  | d, .sim s, h => by
    unfold linesS
    have : 1 ≤ 6 ^ d := Nat.one_le_pow _ _ (by decide)
    simp only [List.length_cons, List.length_nil]
    omega
  | d, .whl s a b body, h => by
    unfold OkS at h
    obtain ⟨_, _, h0, hb, hl⟩ := h
    have := linesB_few (d - 1) body hb
    have e : 6 ^ d = 6 * 6 ^ (d - 1) := by rw [show d = d - 1 + 1 by omega, Nat.pow_succ, Nat.mul_comm]; rfl
    have e3 : body.length * (8 * 6 ^ (d - 1) - 3) ≤ 3 * (8 * 6 ^ (d - 1) - 3) := Nat.mul_le_mul_right _ hl
    have e2 : 1 ≤ 6 ^ (d - 1) := Nat.one_le_pow _ _ (by decide)
    unfold linesS
    simp only [List.length_cons, List.length_append, List.length_nil]
    rw [e]
    omega
  | d, .ite s a b f g, h => by
    unfold OkS at h
    obtain ⟨_, _, h0, hf, hfl, hg, hgl⟩ := h
    have h1 := linesB_few (d - 1) f hf
    have h2 := linesB_few (d - 1) g hg
    have e : 6 ^ d = 6 * 6 ^ (d - 1) := by rw [show d = d - 1 + 1 by omega, Nat.pow_succ, Nat.mul_comm]; rfl
    have e2 : 1 ≤ 6 ^ (d - 1) := Nat.one_le_pow _ _ (by decide)
    have e3 : f.length * (8 * 6 ^ (d - 1) - 3) ≤ 3 * (8 * 6 ^ (d - 1) - 3) := Nat.mul_le_mul_right _ hfl
    have e4 : g.length * (8 * 6 ^ (d - 1) - 3) ≤ 3 * (8 * 6 ^ (d - 1) - 3) := Nat.mul_le_mul_right _ hgl
    unfold linesS
    simp only [List.length_cons, List.length_append, List.length_nil]
    have e5 : (if g.isEmpty = true then [] else [wElse] :: linesB g).length ≤ 1 + (linesB g).length := by
      split
      · exact Nat.zero_le _
      · simp only [List.length_cons]; omega
    rw [e]
    omega
theorem linesB_few : ∀ (d : Nat) (b : List Stm), OkB d b → 5 * (linesB b).length ≤ b.length * (8 * 6 ^ d - 3)
  | d, [], _ => by unfold linesB; exact Nat.zero_le _
  | d, x :: r, h => by
    unfold OkB at h
    have h1 := linesS_few d x h.1
    have h2 := linesB_few d r h.2
    unfold linesB
    rw [List.length_append, List.length_cons, Nat.add_mul, Nat.one_mul]
    omega
end
/-- drawn procs -/
structure Proc.Few (p : Proc) : Prop where
  ok : p.Ok
  a : p.params.length ≤ 10
  b : p.places.length ≤ 10
  c : p.need.length ≤ 8
  d : p.ens.length ≤ 4
  e : ∀ q ∈ p.ens, q.length ≤ 8
  body : OkB 3 p.body
theorem procL_tok {p : Proc} (h : p.Few) : ∀ l ∈ procL p, LineTok l := by
  have lp := listed_len p.params
  have ll := listed_len p.places
  have ln := partsToks_len p.need
  have := h.a
  have := h.b
  have := h.c
  unfold procL headL
  intro l hl
  simp only [List.mem_cons, List.mem_append, List.not_mem_nil, or_false] at hl
  rcases hl with rfl | (hl | hl | hl) | hl | rfl
  · refine line_of (by simp) (by simp only [List.length_cons, List.length_append, List.length_nil]; omega) fun t ht => ?_
    simp only [List.mem_cons, List.mem_append, List.not_mem_nil, or_false] at ht
    rcases ht with rfl | rfl | rfl | ht | rfl
    · exact (kw_tkn _ (by simp)).tkn
    · exact h.ok.name.tok.tkn
    · exact tL_tkn
    · exact listed_tkn h.ok.params t ht
    · exact tR_tkn
  · split at hl
    · cases hl
    · rw [List.mem_singleton.mp hl]
      refine line_of (by simp) (by simp only [List.length_cons]; omega) fun t ht => ?_
      rcases List.mem_cons.mp ht with rfl | ht
      · exact (kw_tkn _ (by simp)).tkn
      · exact listed_tkn h.ok.places t ht
  · split at hl
    · cases hl
    · rw [List.mem_singleton.mp hl]
      refine line_of (by simp) (by simp only [List.length_cons]; omega) fun t ht => ?_
      rcases List.mem_cons.mp ht with rfl | ht
      · exact (kw_tkn _ (by simp)).tkn
      · exact partsToks_tkn h.ok.need t ht
  · obtain ⟨q, hq, rfl⟩ := List.mem_map.mp hl
    have := partsToks_len q
    have := h.e q hq
    refine line_of (by simp) (by simp only [List.length_cons]; omega) fun t ht => ?_
    rcases List.mem_cons.mp ht with rfl | ht
    · exact (kw_tkn _ (by simp)).tkn
    · exact partsToks_tkn (h.ok.ens q hq).2.1 t ht
  · exact linesB_tok _ _ h.body l hl
  · exact kwEnd
theorem procL_few {p : Proc} (h : p.Few) : (procL p).length ≤ 1100 := by
  have hb := linesB_few 3 p.body h.body
  have := h.ok.blen
  have e : p.body.length * (8 * 6 ^ 3 - 3) ≤ 3 * (8 * 6 ^ 3 - 3) := Nat.mul_le_mul_right _ this
  have e2 : 3 * (8 * 6 ^ 3 - 3) = 5175 := by decide
  have := h.d
  have h1 : (if p.places.isEmpty = true then [] else [wLoc :: listed p.places]).length ≤ 1 := by split <;> simp
  have h2 : (if p.need.isEmpty = true then [] else [wNeed :: partsToks p.need]).length ≤ 1 := by split <;> simp
  unfold procL headL
  simp only [List.length_cons, List.length_append, List.length_nil, List.length_map]
  omega
end K02

set_option maxHeartbeats 4000000
namespace K02
open PySem PySem.Spec PyProof.Rows L2 PL SX
variable {P : Program} {w : World} {K : PySem.W.Frag} {mg : Str → Option Value} {base : Heap} {C_Cursor C_Block C_ProcReader C_Reader v_proc_name : Addr}
local macro_rules | `(tactic| simp! [$ls,*]) => `(tactic| simp only [s_fld, s_fldK, s_insAt, s_optD, s_obAt, s_fput, s_fputK1, s_fputK2, s_faug, s_faugK1, s_faugK2, s_faugK3, s_meth, s_methK1, s_methK2, s_make, s_makeK, s_makeK2, s_dead, s_tryN, noX_nx, noX_rt, noX_bk, noX_ct, mSplit, opMulS, s_enum, s_enumK, s_sortBy, s_sortByK, look_nil, look_cons, putFD_nil, putFD_cons, List.append_nil, to_nx, to_rt, to_bk, to_ct, to_ex, lp_nx, lp_rt, lp_bk, lp_ct, lp_ex, ret_nx, ret_rt, ret_ex, s_exK, s_bif1, s_bif0, s_optB, s_optE, s_nxD, s_ifK, s_asgN, s_asgT, s_asgL, b_nil, b_nm, b_tp, s_next, s_seq, s_drop, s_ret, s_retN, s_ifS, s_asg, s_brk, s_cont, s_put, s_put1, s_put2, s_put3, s_aug, s_augV, s_augK, s_augK2, s_bin, s_bin1, s_bin2, s_var, s_varK, s_C, s_cb, s_cbK, s_call, s_callK, s_m, s_m1, s_m2, s_nil, s_cons, s_cons1, s_cons2, s_tup, s_tupK, s_lst, s_lstK, s_truth, s_trK, s_tK, s_eK, s_cK, s_and, s_andK, s_or, s_orK, s_not, s_notK, s_ife, s_ifeK, s_andV, s_orV, s_andvK, s_orvK, s_andvK2, s_orvK2, s_notV, s_notvK, s_blK, s_neg, s_negK, s_sl, s_sl1, s_sl2, s_sl3, s_noPart, s_part, s_partK, s_rev, s_revK, s_for, s_forK, s_lc, s_lcK, s_yes, s_walk, s_walkT, s_walkS, s_walkA, s_walkL, s_walkR, s_rng1, s_rng2, s_rng1K, s_rng2K, s_callL, s_callLK, s_callLO, s_clK, s_raise, r_val, r_new, r_put, s_whK, s_lcY, s_lcT, s_lcE, s_cg, s_cgK, s_rng3, s_rng3K, s_lcB, s_lcS, wipeD, Pat.bind, seqOf, rg, s_dict0, s_sortSet, s_sortSetK, q_is_tuple, q_is_str, q_is_int, q_is_bool, q_is_list, q_isR, ofS_inj, String.reduceEq, q_eqI, q_neI, q_eqS, q_neS, decide_true, decide_false, Int.reduceEq, reduceCtorEq, i_NoneType_tuple, i_NoneType_str, i_NoneType_int, i_NoneType_bool, i_NoneType_list, i_bool_tuple, i_bool_str, i_bool_int, i_bool_bool, i_bool_list, i_int_tuple, i_int_str, i_int_int, i_int_bool, i_int_list, i_str_tuple, i_str_str, i_str_int, i_str_bool, i_str_list, i_tuple_tuple, i_tuple_str, i_tuple_int, i_tuple_bool, i_tuple_list, i_list_tuple, i_list_str, i_list_int, i_list_bool, i_list_list, i_dict_tuple, i_dict_str, i_dict_int, i_dict_bool, i_dict_list, tyN, startD, mupd_same, mupd_ne, ne_eq, not_false_eq_true, List.map_cons, List.map_nil, List.length_cons, List.length_nil, List.replicate_succ, List.replicate_zero, Nat.zero_add, Nat.reduceAdd, Nat.reduceSub, Int.cast_ofNat_Int, List.cons_append, List.nil_append, List.getElem?_cons_zero, List.getElem?_cons_succ, List.set_cons_zero, List.set_cons_succ, opIx, atI_cons, ixN, opPut, opAdd, opSub, opMul, opFdiv, opMod, opPow, opLt, opLe, opGt, opGe, opIs, opIsNot, D.isNon, truth, bLen, bAbs, bInt, bTuple, bList, isTy, mAppend, mExtend, mPop, Int.reduceLE, Int.reduceLT, Int.reduceToNat, Int.reduceNeg, Int.reduceNe, Option.bind_some, if_true, if_false, ite_true, ite_false, true_and, and_true, Bool.not_true, Bool.not_false, opIadd, Nat.reduceLT, Nat.reduceLeDiff, Int.ofNat_lt, s_dpNil, s_dpCons, s_dpK1, s_dpK2, s_dpK3, s_disp, s_dispK, s_optKV, kvOf, s_dc, s_dcK, s_keys, s_lockK, s_sortIt, mGet, mDPop, dgetR, bDictC, bTupC, opEqD, opNeD, eqDR, D.key, merge_one, optKV, id, opEqL, opNeL, eqLR, $ls,*])
open TL (joinL)
/-! tokens with the spaces that the printer sets -/
def glue (a b : Str) : List Nat := if b = tL ∨ b = tR ∨ b = tC ∨ a = tL then [] else [32]
def spcR (a : Str) : List Str → List Nat
  | [] => []
  | b :: r => glue a b ++ (cpsL b ++ spcR b r)
def spc : List Str → List Nat
  | [] => []
  | a :: r => cpsL a ++ spcR a r
theorem spcR_app (a x : Str) : ∀ (l : List Str) (b : Str) (r : List Str), spcR a (l ++ [x] ++ b :: r) = spcR a (l ++ [x]) ++ (glue x b ++ spc (b :: r))
  | [], b, r => by simp [spcR, spc]
  | y :: l, b, r => by
    have := spcR_app y x l b r
    show glue a y ++ (cpsL y ++ spcR y (l ++ [x] ++ b :: r)) = glue a y ++ (cpsL y ++ spcR y (l ++ [x])) ++ _
    rw [this]
    simp
theorem spc_app (l : List Str) (x b : Str) (r : List Str) : spc (l ++ [x] ++ b :: r) = spc (l ++ [x]) ++ (glue x b ++ spc (b :: r)) := by
  cases l with
  | nil => simp [spc, spcR]
  | cons a l =>
    show cpsL a ++ spcR a (l ++ [x] ++ b :: r) = cpsL a ++ spcR a (l ++ [x]) ++ _
    rw [spcR_app]
    simp
theorem glue_len (a b : Str) : (glue a b).length ≤ 1 := by unfold glue; split <;> simp
theorem spc_len : ∀ (tk : List Str), (∀ t ∈ tk, (cpsL t).length ≤ 16) → (spc tk).length ≤ 17 * tk.length := by
  have hr : ∀ (r : List Str) (a : Str), (∀ t ∈ r, (cpsL t).length ≤ 16) → (spcR a r).length ≤ 17 * r.length := by
    intro r
    induction r with
    | nil => intro a _; simp [spcR]
    | cons b r ih =>
      intro a h
      have h1 := ih b fun t ht => h t (List.mem_cons_of_mem _ ht)
      have h2 := h b List.mem_cons_self
      have h3 := glue_len a b
      simp only [spcR, List.length_append, List.length_cons]
      omega
  intro tk h
  cases tk with
  | nil => simp [spc]
  | cons a r =>
    have h1 := hr r a fun t ht => h t (List.mem_cons_of_mem _ ht)
    have h2 := h a List.mem_cons_self
    simp only [spc, List.length_append, List.length_cons]
    omega
theorem par_head {b : Str} (h : b = tL ∨ b = tR ∨ b = tC) : ∃ c, cpsL b = [c] ∧ c ∉ wordS.cps.toList ∧ c ≠ 61 := by
  rcases h with rfl | rfl | rfl
  · exact ⟨40, by decide +kernel, by decide +kernel, by decide⟩
  · exact ⟨41, by decide +kernel, by decide +kernel, by decide⟩
  · exact ⟨44, by decide +kernel, by decide +kernel, by decide⟩
theorem sep_spcR (a : Str) : ∀ r : List Str, Sep (cpsL a) (spcR a r)
  | [] => Sep.nil
  | b :: r => by
    unfold spcR glue
    by_cases h : b = tL ∨ b = tR ∨ b = tC ∨ a = tL
    · rw [if_pos h]
      have ha : a = tL → ¬ WordT (cpsL a) ∧ cpsL a ≠ [61] := fun e => by
        have e40 : cpsL tL = [40] := by decide +kernel
        rw [e, e40]
        refine ⟨fun hw => ?_, by decide⟩
        exact absurd (hw.2.1 40 (by simp)) (by decide +kernel)
      by_cases h2 : a = tL
      · exact ⟨(fun z => absurd z (ha h2).1), fun z => absurd z (ha h2).2⟩
      · obtain ⟨c, e, hc1, hc2⟩ := par_head (b := b) (by
          rcases h with h | h | h | h
          · exact .inl h
          · exact .inr (.inl h)
          · exact .inr (.inr h)
          · exact absurd h h2)
        rw [e]
        refine ⟨fun _ d hd => ?_, fun _ => by simpa using hc2⟩
        have : c = d := by simpa using hd
        rw [← this]; exact hc1
    · rw [if_neg h]
      exact Sep.sp
theorem lay_spcR : ∀ (r : List Str) (a : Str), (∀ t ∈ r, TokOk (cpsL t)) → Lay (spcR a r) (r.map cpsL)
  | [], a, _ => .nil
  | b :: r, a, h => by
    have h1 := lay_spcR r b fun t ht => h t (List.mem_cons_of_mem _ ht)
    have h2 : Lay (cpsL b ++ spcR b r) ((b :: r).map cpsL) := .tok (h b List.mem_cons_self) (sep_spcR b r) h1
    unfold spcR glue
    split
    · exact h2
    · exact .sp h2
theorem lay_spc (tk : List Str) (h : ∀ t ∈ tk, TokOk (cpsL t)) : Lay (spc tk) (tk.map cpsL) := by
  cases tk with
  | nil => exact .nil
  | cons a r => exact .tok (h a List.mem_cons_self) (sep_spcR a r) (lay_spcR r a fun t ht => h t (List.mem_cons_of_mem _ ht))
theorem S_catx (l : List Nat) (x : Str) : S l ++ x = S (l ++ cpsL x) := by
  conv => lhs; rw [← S_cps x]
  exact S_cat _ _
theorem cpsL_S (l : List Nat) : cpsL (S l) = l := rfl
theorem len_x (x : Str) : x.length = (cpsL x).length := by
  conv => lhs; rw [← S_cps x]
  exact len_S _
def sp_spaced : DSp := fun ds M Q E => ∃ (a : Addr) (tk : List Str), ds = [.ob a] ∧ M a = some (.lst (tk.map D.str)) ∧ tk ≠ [] ∧ tk.length ≤ 100 ∧ (∀ t ∈ tk, (cpsL t).length ≤ 16) ∧ ∀ M', Keep [] M M' → Q (.str (S (spc tk))) M'
theorem mono_spaced : MonoSp sp_spaced := by
  rintro ds M Q Q' E E' hQ hE ⟨a, tk, h1, h2, h3, h4, h5, h⟩
  exact ⟨a, tk, h1, h2, h3, h4, h5, fun M' z => hQ _ _ (h M' z)⟩
theorem fn_spaced (S0 : Src K mg "_law_spaced" s__law_spaced ["tokens"]) (G : GF K mg C_Cursor C_Block C_ProcReader C_Reader v_proc_name) : Fn P w K mg base 1 "_law_spaced" sp_spaced [] := by
  refine S0.fn mono_spaced fun g fd F => fn_ok F sc__law_spaced (fun ds M Q E h => by obtain ⟨a, tk, rfl, _⟩ := h; rfl) ⟨_, fun cdv A outer s H E hr => have hu := hr.u200
    (xss_cons (xs_set 1 sc__law_spaced.nd (xe_ix hu (xe_var 0) xe_int))
 (xss_cons (xs_for (p := .nm 2) bx_passes rfl (xi_range2 (by rfl) G.range (xa_cons xe_int (xa_cons (xe_callB c_len (by rfl) G.len (by decide +kernel) (xa_cons (xe_var 0) xa_nil)) xa_nil))) (xg_name 2 sc__law_spaced.nd)
 (xss_cons (xs_if (xt_wh (xw_and (xt_cmp (x_notin hu) (xe_ix hu (xe_var 0) (xe_var 2)) (xe_lst (n := 3) (xa_cons xe_str (xa_cons xe_str (xa_cons xe_str xa_nil)))) rfl bl_notin) (xw_and1 (xt_cmp (x_ne hu) (xe_ix hu (xe_var 0) (xe_bin x_sub (xe_var 2) xe_int)) xe_str (nomark _) bl_ne))))
 (xss_one (xs_set 1 sc__law_spaced.nd (xe_bin x_add (xe_var 1) xe_str)))
 xss_nil)
 (xss_one (xs_set 1 sc__law_spaced.nd (xe_bin x_add (xe_var 1) (xe_ix hu (xe_var 0) (xe_var 2)))))))
 (xss_one (xs_ret (xe_var 1))))), fun ds M Q E h => ?_⟩
  obtain ⟨a, tk, rfl, ha, hne, hl, ht, h⟩ := h
  have sz : (16777216 : Nat) = sizeLine := sizeLine_eq.symm
  obtain ⟨t0, r0, rfl⟩ : ∃ x r, tk = x :: r := by
    cases tk with
    | nil => exact absurd rfl hne
    | cons x r => exact ⟨x, r, rfl⟩
  have h0 : atI ((t0 :: r0).map D.str) 0 = some (.str t0) := atI_natI (i := 0) (by simp)
  obtain ⟨tk, htk⟩ : ∃ tk, tk = t0 :: r0 := ⟨_, rfl⟩
  rw [← htk] at ha hl ht h h0
  have hlen : 0 < tk.length := by rw [htk]; simp
  simp! [ha, h0, List.length_map]
  have tk1 : t0 = S (spc (tk.take 1)) := by rw [htk]; simp [spc, spcR, S_cps]
  have e32 : cpsL (Str.ofString " ") = [32] := by decide +kernel
  have l32 : (Str.ofString " ").length = 1 := by decide +kernel
  refine ⟨by omega, ?_⟩
  refine loop_inv (fun i : Nat => D.int (1 + (i : Int))) (fun rest e M' => ∃ (i : Nat) (d2 : Option D), rest = List.range' i (tk.length - 1 - i) ∧ i + 1 ≤ tk.length ∧ e = [some (.ob a), some (.str (S (spc (tk.take (i + 1))))), d2] ∧ Keep [] M M') (fun _ _ _ _ => trivial) ?_ ?_ (List.range _) _ _ ⟨0, none, by rw [List.range_eq_range']; congr 1; omega, hlen, by rw [← tk1], Keep.refl⟩
  · rintro y rest e M1 N ⟨i, d2, e1, hi, rfl, k1⟩ hN
    have hil : i + 1 < tk.length := by
      rcases Nat.lt_or_ge (i + 1) tk.length with z | z
      · exact z
      · rw [show tk.length - 1 - i = 0 by omega] at e1; cases e1
    rw [show tk.length - 1 - i = (tk.length - 1 - i - 1) + 1 by omega, List.range'_succ] at e1
    simp only [List.cons.injEq] at e1
    obtain ⟨rfl, rfl⟩ := e1
    have a1 := k1 _ _ ha (by simp)
    have hat : atI (tk.map D.str) (1 + (y : Int)) = some (.str tk[y + 1]) := by
      rw [show (1 : Int) + (y : Int) = ((y + 1 : Nat) : Int) by omega, atI_natI (by simpa using hil)]
      simp
    have hap : atI (tk.map D.str) (1 + (y : Int) - 1) = some (.str tk[y]) := by
      rw [show (1 : Int) + (y : Int) - 1 = (y : Int) by omega, atI_natI (by simp; omega)]
      simp
    have hs := spc_len (tk.take (y + 1)) fun t h => ht t (List.mem_of_mem_take h)
    rw [List.length_take] at hs
    have htl := ht tk[y + 1] (List.getElem_mem _)
    have hsn : spc (tk.take (y + 2)) = spc (tk.take (y + 1)) ++ (glue tk[y] tk[y + 1] ++ cpsL tk[y + 1]) := by
      have := spc_app (tk.take y) tk[y] tk[y + 1] []
      rw [← List.take_append_getElem hil, ← List.take_append_getElem (show y < tk.length by omega), this]
      simp [spc, spcR]
    have fin : ∀ (g : List Nat) M2, glue tk[y] tk[y + 1] = g → Keep [] M M2 → N [some (.ob a), some (.str (S (spc (tk.take (y + 1)) ++ g ++ cpsL tk[y + 1]))), some (.int (1 + (y : Int)))] M2 := by
      intro g M2 hg k2
      have e1 : List.range' (y + 1) (tk.length - 1 - y - 1) = List.range' (y + 1) (tk.length - 1 - (y + 1)) := by rw [Nat.sub_sub _ y 1]
      refine hN _ _ ⟨y + 1, some (.int (1 + (y : Int))), e1, hil, ?_, k2⟩
      rw [hsn, hg, List.append_assoc]
    simp! [a1, hat]
    intro l hl
    have k2 : Keep [] M (mupd M1 l (.lst [.str (Str.ofString "("), .str (Str.ofString ")"), .str (Str.ofString ",")])) := k1.trans (Keep.new hl)
    have a2 := put_at (o' := .lst [.str (Str.ofString "("), .str (Str.ofString ")"), .str (Str.ofString ",")]) a1 hl
    have b2 : (mupd M1 l (.lst [.str (Str.ofString "("), .str (Str.ofString ")"), .str (Str.ofString ",")])) l = some (.lst ([tL, tR, tC].map D.str)) := mupd_same
    generalize mupd M1 l _ = M2 at k2 a2 b2 ⊢
    simp! [notIn_strs b2]
    by_cases z1 : tk[y + 1] ∈ [tL, tR, tC]
    · have hg : glue tk[y] tk[y + 1] = [] := by
        unfold glue
        rw [if_pos]
        simp only [List.mem_cons, List.not_mem_nil, or_false] at z1
        rcases z1 with z | z | z
        · exact .inl z
        · exact .inr (.inl z)
        · exact .inr (.inr (.inl z))
      simp! [decide_eq_true z1, a2, hat, S_catx, len_S, len_x, cpsL_S]
      refine ⟨by rw [← sz]; omega, ?_⟩
      simpa using fin [] M2 hg k2
    · simp! [decide_eq_false z1, a2, hap]
      by_cases z2 : tk[y] = tL
      · have hg : glue tk[y] tk[y + 1] = [] := by
          unfold glue
          rw [if_pos (.inr (.inr (.inr z2)))]
        simp! [decide_eq_true z2, a2, hat, S_catx, len_S, len_x, cpsL_S]
        refine ⟨by rw [← sz]; omega, ?_⟩
        simpa using fin [] M2 hg k2
      · have hg : glue tk[y] tk[y + 1] = [32] := by
          unfold glue
          rw [if_neg]
          simp only [List.mem_cons, List.not_mem_nil, or_false] at z1
          rintro (z | z | z | z)
          · exact z1 (.inl z)
          · exact z1 (.inr (.inl z))
          · exact z1 (.inr (.inr z))
          · exact z2 z
        simp! [decide_eq_false z2, a2, hat, S_catx, len_S, len_x, cpsL_S, e32]
        refine ⟨by rw [← sz]; (try simp only [List.length_append, List.length_cons, List.length_nil]); omega, by rw [← sz]; (try simp only [List.length_append, List.length_cons, List.length_nil]); omega, ?_⟩
        exact fin [32] M2 hg k2
  · rintro e M1 ⟨i, d2, e1, hi, rfl, k1⟩
    have hil : i + 1 = tk.length := by
      rcases Nat.lt_or_ge (i + 1) tk.length with z | z
      · rw [show tk.length - 1 - i = (tk.length - 1 - i - 1) + 1 by omega, List.range'_succ] at e1; cases e1
      · omega
    rw [hil, List.take_length]
    simp! []
    exact h _ k1
end K02

set_option maxHeartbeats 4000000
namespace K02
open PySem PySem.Spec PyProof.Rows L2 PL SX
variable {P : Program} {w : World} {K : PySem.W.Frag} {mg : Str → Option Value} {base : Heap} {C_Cursor C_Block C_ProcReader C_Reader v_proc_name : Addr}
local macro_rules | `(tactic| simp! [$ls,*]) => `(tactic| simp only [s_fld, s_fldK, s_insAt, s_optD, s_obAt, s_fput, s_fputK1, s_fputK2, s_faug, s_faugK1, s_faugK2, s_faugK3, s_meth, s_methK1, s_methK2, s_make, s_makeK, s_makeK2, s_dead, s_tryN, noX_nx, noX_rt, noX_bk, noX_ct, mSplit, opMulS, s_enum, s_enumK, s_sortBy, s_sortByK, look_nil, look_cons, putFD_nil, putFD_cons, List.append_nil, to_nx, to_rt, to_bk, to_ct, to_ex, lp_nx, lp_rt, lp_bk, lp_ct, lp_ex, ret_nx, ret_rt, ret_ex, s_exK, s_bif1, s_bif0, s_optB, s_optE, s_nxD, s_ifK, s_asgN, s_asgT, s_asgL, b_nil, b_nm, b_tp, s_next, s_seq, s_drop, s_ret, s_retN, s_ifS, s_asg, s_brk, s_cont, s_put, s_put1, s_put2, s_put3, s_aug, s_augV, s_augK, s_augK2, s_bin, s_bin1, s_bin2, s_var, s_varK, s_C, s_cb, s_cbK, s_call, s_callK, s_m, s_m1, s_m2, s_nil, s_cons, s_cons1, s_cons2, s_tup, s_tupK, s_lst, s_lstK, s_truth, s_trK, s_tK, s_eK, s_cK, s_and, s_andK, s_or, s_orK, s_not, s_notK, s_ife, s_ifeK, s_andV, s_orV, s_andvK, s_orvK, s_andvK2, s_orvK2, s_notV, s_notvK, s_blK, s_neg, s_negK, s_sl, s_sl1, s_sl2, s_sl3, s_noPart, s_part, s_partK, s_rev, s_revK, s_for, s_forK, s_lc, s_lcK, s_yes, s_walk, s_walkT, s_walkS, s_walkA, s_walkL, s_walkR, s_rng1, s_rng2, s_rng1K, s_rng2K, s_callL, s_callLK, s_callLO, s_clK, s_raise, r_val, r_new, r_put, s_whK, s_lcY, s_lcT, s_lcE, s_cg, s_cgK, s_rng3, s_rng3K, s_lcB, s_lcS, wipeD, Pat.bind, seqOf, rg, s_dict0, s_sortSet, s_sortSetK, q_is_tuple, q_is_str, q_is_int, q_is_bool, q_is_list, q_isR, ofS_inj, String.reduceEq, q_eqI, q_neI, q_eqS, q_neS, decide_true, decide_false, Int.reduceEq, reduceCtorEq, i_NoneType_tuple, i_NoneType_str, i_NoneType_int, i_NoneType_bool, i_NoneType_list, i_bool_tuple, i_bool_str, i_bool_int, i_bool_bool, i_bool_list, i_int_tuple, i_int_str, i_int_int, i_int_bool, i_int_list, i_str_tuple, i_str_str, i_str_int, i_str_bool, i_str_list, i_tuple_tuple, i_tuple_str, i_tuple_int, i_tuple_bool, i_tuple_list, i_list_tuple, i_list_str, i_list_int, i_list_bool, i_list_list, i_dict_tuple, i_dict_str, i_dict_int, i_dict_bool, i_dict_list, tyN, startD, mupd_same, mupd_ne, ne_eq, not_false_eq_true, List.map_cons, List.map_nil, List.length_cons, List.length_nil, List.replicate_succ, List.replicate_zero, Nat.zero_add, Nat.reduceAdd, Nat.reduceSub, Int.cast_ofNat_Int, List.cons_append, List.nil_append, List.getElem?_cons_zero, List.getElem?_cons_succ, List.set_cons_zero, List.set_cons_succ, opIx, atI_cons, ixN, opPut, opAdd, opSub, opMul, opFdiv, opMod, opPow, opLt, opLe, opGt, opGe, opIs, opIsNot, D.isNon, truth, bLen, bAbs, bInt, bTuple, bList, isTy, mAppend, mExtend, mPop, Int.reduceLE, Int.reduceLT, Int.reduceToNat, Int.reduceNeg, Int.reduceNe, Option.bind_some, if_true, if_false, ite_true, ite_false, true_and, and_true, Bool.not_true, Bool.not_false, opIadd, Nat.reduceLT, Nat.reduceLeDiff, Int.ofNat_lt, s_dpNil, s_dpCons, s_dpK1, s_dpK2, s_dpK3, s_disp, s_dispK, s_optKV, kvOf, s_dc, s_dcK, s_keys, s_lockK, s_sortIt, mGet, mDPop, dgetR, bDictC, bTupC, opEqD, opNeD, eqDR, D.key, merge_one, optKV, id, opEqL, opNeL, eqLR, $ls,*])
open TL (joinL)
/-! what the glue is -/
def NP (x : Str) : Prop := x ≠ tL ∧ x ≠ tR ∧ x ≠ tC
theorem glue_np {a b : Str} (ha : a ≠ tL) (hb : NP b) : glue a b = [32] := by
  unfold glue
  rw [if_neg]
  rintro (z | z | z | z)
  · exact hb.1 z
  · exact hb.2.1 z
  · exact hb.2.2 z
  · exact ha z
theorem glue_tL (a : Str) : glue a tL = [] := if_pos (.inl rfl)
theorem glue_tR (a : Str) : glue a tR = [] := if_pos (.inr (.inl rfl))
theorem glue_tC (a : Str) : glue a tC = [] := if_pos (.inr (.inr (.inl rfl)))
theorem glue_op (b : Str) : glue tL b = [] := if_pos (.inr (.inr (.inr rfl)))
theorem WordT.np {x : Str} (h : WordT (cpsL x)) : NP x := by
  obtain ⟨⟨c, r, e, hc⟩, _⟩ := h
  have : ∀ z : Str, ∀ d, cpsL z = [d] → d ∉ lettersS.cps.toList → x ≠ z := fun z d hz hd he => by
    rw [he, hz] at e
    cases e
    exact hd hc
  exact ⟨this tL 40 (by decide +kernel) (by decide +kernel), this tR 41 (by decide +kernel) (by decide +kernel), this tC 44 (by decide +kernel) (by decide +kernel)⟩
theorem np_ops : NP tEq ∧ NP tNe ∧ NP tX ∧ NP tA := by unfold NP; decide +kernel
theorem tC_tL : tC ≠ tL := by decide +kernel
theorem tR_tL : tR ≠ tL := by decide +kernel
abbrev kk4 : List Str := [kSame, kUnl, kCell, kChn]
def fk (k : Str) (ps : List Part) : List Part := ps.filter fun p => decide (p.1 = k)
theorem kindL_fk (k : Str) (ps : List Part) : kindL k ps = (fk k ps).map pairD := rfl
/-- the parts in the order of the picture -/
def norm (ps : List Part) : List Part := kk4.flatMap fun k => fk k ps
theorem norm_mem {ps : List Part} {p : Part} (h : p ∈ norm ps) : p ∈ ps ∧ p.1 ∈ kk4 := by
  obtain ⟨k, hk, hp⟩ := List.mem_flatMap.mp h
  have := List.mem_filter.mp hp
  exact ⟨this.1, by rw [of_decide_eq_true this.2]; exact hk⟩
theorem fk_len (k : Str) (ps : List Part) : (fk k ps).length ≤ ps.length := List.length_filter_le _ _
theorem flat_len (ps : List Part) : ∀ l : List Str, (l.flatMap fun k => fk k ps).length ≤ l.length * ps.length
  | [] => by simp
  | k :: l => by
    have := flat_len ps l
    have := fk_len k ps
    rw [List.flatMap_cons, List.length_append, List.length_cons, Nat.add_mul, Nat.one_mul]
    omega
theorem kne4 : kSame ≠ kUnl ∧ kSame ≠ kCell ∧ kSame ≠ kChn ∧ kUnl ≠ kCell ∧ kUnl ≠ kChn ∧ kCell ≠ kChn := by decide +kernel
theorem norm_len : ∀ ps : List Part, (norm ps).length ≤ ps.length
  | [] => Nat.le_refl _
  | p :: r => by
    have ih := norm_len r
    obtain ⟨n1, n2, n3, n4, n5, n6⟩ := kne4
    have hc : ∀ k, (fk k (p :: r)).length = (if p.1 = k then 1 else 0) + (fk k r).length := fun k => by
      unfold fk
      rw [List.filter_cons]
      by_cases h : p.1 = k
      · rw [if_pos (decide_eq_true h), if_pos h, List.length_cons, Nat.add_comm]
      · rw [if_neg (by simpa using h), if_neg h, Nat.zero_add]
    have hs : (if p.1 = kSame then 1 else 0) + ((if p.1 = kUnl then 1 else 0) + ((if p.1 = kCell then 1 else 0) + if p.1 = kChn then 1 else 0)) ≤ 1 := by
      by_cases h1 : p.1 = kSame
      · rw [h1, if_pos rfl, if_neg n1, if_neg n2, if_neg n3]; decide
      · by_cases h2 : p.1 = kUnl
        · rw [h2, if_neg n1.symm, if_pos rfl, if_neg n4, if_neg n5]; decide
        · by_cases h3 : p.1 = kCell
          · rw [h3, if_neg n2.symm, if_neg n4.symm, if_pos rfl, if_neg n6]; decide
          · rw [if_neg h1, if_neg h2, if_neg h3]; split <;> decide
    simp only [norm, List.flatMap_cons, List.flatMap_nil, List.length_append, List.length_nil, hc, List.length_cons] at ih ⊢
    omega
theorem fk_fk (k j : Str) (ps : List Part) : fk k (fk j ps) = if k = j then fk k ps else [] := by
  unfold fk
  rw [List.filter_filter]
  by_cases h : k = j
  · subst h
    rw [if_pos rfl]
    congr 1
    funext p
    simp
  · rw [if_neg h, List.filter_eq_nil_iff]
    intro p _
    simp only [Bool.and_eq_true, decide_eq_true_eq, not_and]
    intro e1 e2
    exact h (e1.symm.trans e2)
theorem picD_norm (ps : List Part) : picD (norm ps) = picD ps := by
  obtain ⟨n1, n2, n3, n4, n5, n6⟩ := kne4
  have h : ∀ k, fk k (norm ps) = fk k (fk kSame ps) ++ (fk k (fk kUnl ps) ++ (fk k (fk kCell ps) ++ (fk k (fk kChn ps) ++ []))) := fun k => by
    simp only [norm, List.flatMap_cons, List.flatMap_nil]
    unfold fk
    simp only [List.filter_append, List.filter_nil]
  unfold picD
  simp only [kindL_fk, h, fk_fk, if_pos, if_neg n1, if_neg n2, if_neg n3, if_neg n4, if_neg n5, if_neg n6, if_neg n1.symm, if_neg n2.symm, if_neg n3.symm, if_neg n4.symm, if_neg n5.symm, if_neg n6.symm, List.nil_append, List.append_nil]
theorem picD_tup (ps : List Part) : picD ps = .tup (kk4.map fun k => .tup ((fk k ps).map pairD)) := rfl
/-! the parts of a picture -/
def sp_partsof : DSp := fun ds M Q E => ∃ (ps : List Part), ds = [picD ps] ∧ ps.length ≤ 1000 ∧ ∀ f M', M f = none → M' f = some (.lst ((norm ps).map partD)) → Keep [] M M' → Q (.ob f) M'
theorem mono_partsof : MonoSp sp_partsof := by
  rintro ds M Q Q' E E' hQ hE ⟨ps, h1, h2, h⟩
  exact ⟨ps, h1, h2, fun f M' z1 z2 z3 => hQ _ _ (h f M' z1 z2 z3)⟩
theorem fn_partsof (S0 : Src K mg "_law_parts_of" s__law_parts_of ["picture"]) (G : GF K mg C_Cursor C_Block C_ProcReader C_Reader v_proc_name) : Fn P w K mg base 1 "_law_parts_of" sp_partsof [] := by
  refine S0.fn mono_partsof fun g fd F => fn_ok F sc__law_parts_of (fun ds M Q E h => by obtain ⟨ps, rfl, _⟩ := h; rfl) ⟨_, fun cdv A outer s H E hr => have hu := hr.u200
    (xss_cons (xs_set 1 sc__law_parts_of.nd (xe_lst (n := 0) xa_nil))
 (xss_cons (xs_for (p := .nm 2) bx_passes rfl (xi_range1 (by rfl) G.range (xa_cons xe_int xa_nil)) (xg_name 2 sc__law_parts_of.nd)
 (xss_one (xs_set 1 sc__law_parts_of.nd (xe_bin x_add (xe_var 1) (xe_lc (own := [("one", 3), ("other", 4)]) (p := .tp [.nm 3, .nm 4]) rfl sc__law_parts_of.nd (xi_walk (xe_ix hu (xe_var 0) (xe_var 2))) (blkOk_by (by first | (show blkC ["picture", "found", "k", "one", "other"] (defScope s__law_parts_of) _ _ = true; decide +kernel) | kernel_rfl | rfl)) (fun _ _ _ _ _ => (xg_tup rfl (xgs_cons (xg_name 3 sc__law_parts_of.nd) (xgs_cons (xg_name 4 sc__law_parts_of.nd) xgs_nil)))) (fun _ _ _ _ _ => xts_nil) (fun _ _ _ _ _ => (xe_tup (n := 3) (xa_cons (xe_ix hu (xe_lst (n := 4) (xa_cons xe_str (xa_cons xe_str (xa_cons xe_str (xa_cons xe_str xa_nil))))) (xe_var 2)) (xa_cons (xe_var 3) (xa_cons (xe_var 4) xa_nil))))))))))
 (xss_one (xs_ret (xe_var 1))))), fun ds M Q E h => ?_⟩
  obtain ⟨ps, rfl, hl, h⟩ := h
  have sz : (16777216 : Nat) = sizeLine := sizeLine_eq.symm
  rw [picD_tup]
  obtain ⟨ts, hts⟩ : ∃ ts, ts = kk4.map fun k => D.tup ((fk k ps).map pairD) := ⟨_, rfl⟩
  rw [← hts]
  simp! []
  intro f hf
  refine ⟨by decide, ?_⟩
  refine loop_inv (fun i : Nat => D.int (0 + (i : Int))) (fun rest e M' => ∃ (i : Nat) (f : Addr) (d2 : Option D), rest = List.range' i (4 - i) ∧ i ≤ 4 ∧ e = [some (.tup ts), some (.ob f), d2, none, none] ∧ M' f = some (.lst (((kk4.take i).flatMap fun k => fk k ps).map partD)) ∧ M f = none ∧ Keep [] M M') (fun _ _ _ _ => trivial) ?_ ?_ (List.range 4) _ _ ⟨0, f, none, by rw [List.range_eq_range'], by decide, rfl, by rw [mupd_same]; rfl, hf, Keep.new hf⟩
  · rintro y rest e M1 N ⟨i, f, d2, e1, hi, rfl, hff, hf0, k1⟩ hN
    have hil : i < 4 := by
      rcases Nat.lt_or_ge i 4 with z | z
      · exact z
      · rw [show 4 - i = 0 by omega] at e1; cases e1
    rw [show 4 - i = (4 - i - 1) + 1 by omega, List.range'_succ] at e1
    simp only [List.cons.injEq] at e1
    obtain ⟨rfl, rfl⟩ := e1
    have hy4 : y < kk4.length := hil
    have hat : atI ts (0 + (y : Int)) = some (.tup ((fk kk4[y] ps).map pairD)) := by
      rw [Int.zero_add, hts, atI_natI (by simpa using hil), List.getElem_map]
    have hkd : atI [D.str (Str.ofString "same"), .str (Str.ofString "unlike"), .str (Str.ofString "cell"), .str (Str.ofString "chain")] (0 + (y : Int)) = some (.str kk4[y]) := by
      show atI (kk4.map D.str) (0 + (y : Int)) = _
      rw [Int.zero_add, atI_natI (by simpa using hil), List.getElem_map]
    have hfl := fk_len kk4[y] ps
    simp! [hat]
    have hnl := norm_len ps
    have hsl := flat_len ps (kk4.take y)
    have hsl2 : (kk4.take y).length * ps.length ≤ 4 * ps.length := Nat.mul_le_mul_right _ (by rw [List.length_take]; exact Nat.min_le_right _ _)
    intro l hl
    refine lc_pure pairD partD (fun _ => true) (fk kk4[y] ps) hl (fun _ _ => trivial) (by rw [← sz]; omega) (fun p hp M2 N2 sk k2 hy _ => ?_) fun M2 k2 e2 => ?_
    · have hpk : p.1 = kk4[y] := of_decide_eq_true (List.mem_filter.mp hp).2
      simp! [pairD]
      intro l2 hl2
      have := hy rfl _ (Keep.new (o := .lst [.str (Str.ofString "same"), .str (Str.ofString "unlike"), .str (Str.ofString "cell"), .str (Str.ofString "chain")]) hl2)
      unfold partD at this
      rw [hpk] at this
      rcases (show y = 0 ∨ y = 1 ∨ y = 2 ∨ y = 3 by omega) with rfl | rfl | rfl | rfl
      all_goals
        refine (And.intro trivial ?_ : True ∧ _)
        simp! []
        exact this
    rw [show (fk kk4[y] ps).filter (fun _ => true) = fk kk4[y] ps from List.filter_eq_self.mpr (by simp)] at e2
    have ff2 := k2 _ _ hff (by simp)
    simp! [ff2, e2, List.length_map]
    refine ⟨by rw [← sz]; omega, fun l3 hl3 => ?_⟩
    have k12 := k1.trans k2
    refine hN _ _ ⟨y + 1, l3, some (.int (0 + (y : Int))), by rw [Nat.sub_sub], hil, by simp only [Int.zero_add], ?_, k12.fresh hl3, k12.trans (Keep.new hl3)⟩
    rw [mupd_same, ← List.take_append_getElem hy4, List.flatMap_append, List.map_append]
    simp
  · rintro e M1 ⟨i, f, d2, e1, hi, rfl, hff, hf0, k1⟩
    have hil : i = 4 := by
      rcases Nat.lt_or_ge i 4 with z | z
      · rw [show 4 - i = (4 - i - 1) + 1 by omega, List.range'_succ] at e1; cases e1
      · omega
    subst hil
    simp! []
    exact h f _ hf0 hff k1
end K02

set_option maxHeartbeats 4000000
namespace K02
open PySem PySem.Spec PyProof.Rows L2 PL SX
variable {P : Program} {w : World} {K : PySem.W.Frag} {mg : Str → Option Value} {base : Heap} {C_Cursor C_Block C_ProcReader C_Reader v_proc_name : Addr}
local macro_rules | `(tactic| simp! [$ls,*]) => `(tactic| simp only [s_fld, s_fldK, s_insAt, s_optD, s_obAt, s_fput, s_fputK1, s_fputK2, s_faug, s_faugK1, s_faugK2, s_faugK3, s_meth, s_methK1, s_methK2, s_make, s_makeK, s_makeK2, s_dead, s_tryN, noX_nx, noX_rt, noX_bk, noX_ct, mSplit, opMulS, s_enum, s_enumK, s_sortBy, s_sortByK, look_nil, look_cons, putFD_nil, putFD_cons, List.append_nil, to_nx, to_rt, to_bk, to_ct, to_ex, lp_nx, lp_rt, lp_bk, lp_ct, lp_ex, ret_nx, ret_rt, ret_ex, s_exK, s_bif1, s_bif0, s_optB, s_optE, s_nxD, s_ifK, s_asgN, s_asgT, s_asgL, b_nil, b_nm, b_tp, s_next, s_seq, s_drop, s_ret, s_retN, s_ifS, s_asg, s_brk, s_cont, s_put, s_put1, s_put2, s_put3, s_aug, s_augV, s_augK, s_augK2, s_bin, s_bin1, s_bin2, s_var, s_varK, s_C, s_cb, s_cbK, s_call, s_callK, s_m, s_m1, s_m2, s_nil, s_cons, s_cons1, s_cons2, s_tup, s_tupK, s_lst, s_lstK, s_truth, s_trK, s_tK, s_eK, s_cK, s_and, s_andK, s_or, s_orK, s_not, s_notK, s_ife, s_ifeK, s_andV, s_orV, s_andvK, s_orvK, s_andvK2, s_orvK2, s_notV, s_notvK, s_blK, s_neg, s_negK, s_sl, s_sl1, s_sl2, s_sl3, s_noPart, s_part, s_partK, s_rev, s_revK, s_for, s_forK, s_lc, s_lcK, s_yes, s_walk, s_walkT, s_walkS, s_walkA, s_walkL, s_walkR, s_rng1, s_rng2, s_rng1K, s_rng2K, s_callL, s_callLK, s_callLO, s_clK, s_raise, r_val, r_new, r_put, s_whK, s_lcY, s_lcT, s_lcE, s_cg, s_cgK, s_rng3, s_rng3K, s_lcB, s_lcS, wipeD, Pat.bind, seqOf, rg, s_dict0, s_sortSet, s_sortSetK, q_is_tuple, q_is_str, q_is_int, q_is_bool, q_is_list, q_isR, ofS_inj, String.reduceEq, q_eqI, q_neI, q_eqS, q_neS, decide_true, decide_false, Int.reduceEq, reduceCtorEq, i_NoneType_tuple, i_NoneType_str, i_NoneType_int, i_NoneType_bool, i_NoneType_list, i_bool_tuple, i_bool_str, i_bool_int, i_bool_bool, i_bool_list, i_int_tuple, i_int_str, i_int_int, i_int_bool, i_int_list, i_str_tuple, i_str_str, i_str_int, i_str_bool, i_str_list, i_tuple_tuple, i_tuple_str, i_tuple_int, i_tuple_bool, i_tuple_list, i_list_tuple, i_list_str, i_list_int, i_list_bool, i_list_list, i_dict_tuple, i_dict_str, i_dict_int, i_dict_bool, i_dict_list, tyN, startD, mupd_same, mupd_ne, ne_eq, not_false_eq_true, List.map_cons, List.map_nil, List.length_cons, List.length_nil, List.replicate_succ, List.replicate_zero, Nat.zero_add, Nat.reduceAdd, Nat.reduceSub, Int.cast_ofNat_Int, List.cons_append, List.nil_append, List.getElem?_cons_zero, List.getElem?_cons_succ, List.set_cons_zero, List.set_cons_succ, opIx, atI_cons, ixN, opPut, opAdd, opSub, opMul, opFdiv, opMod, opPow, opLt, opLe, opGt, opGe, opIs, opIsNot, D.isNon, truth, bLen, bAbs, bInt, bTuple, bList, isTy, mAppend, mExtend, mPop, Int.reduceLE, Int.reduceLT, Int.reduceToNat, Int.reduceNeg, Int.reduceNe, Option.bind_some, if_true, if_false, ite_true, ite_false, true_and, and_true, Bool.not_true, Bool.not_false, opIadd, Nat.reduceLT, Nat.reduceLeDiff, Int.ofNat_lt, s_dpNil, s_dpCons, s_dpK1, s_dpK2, s_dpK3, s_disp, s_dispK, s_optKV, kvOf, s_dc, s_dcK, s_keys, s_lockK, s_sortIt, mGet, mDPop, dgetR, bDictC, bTupC, opEqD, opNeD, eqDR, D.key, merge_one, optKV, id, opEqL, opNeL, eqLR, $ls,*])
open TL (joinL)
theorem joinL_len : ∀ (s : List Nat) (ls : List (List Nat)), (joinL s ls).length ≤ (ls.map (·.length)).sum + ls.length * s.length
  | s, [] => by simp [joinL]
  | s, [p] => by simp [joinL]
  | s, p :: q :: r => by
    have := joinL_len s (q :: r)
    show (p ++ (s ++ joinL s (q :: r))).length ≤ _
    simp only [List.length_append, List.map_cons, List.sum_cons, List.length_cons] at this ⊢
    rw [Nat.add_mul, Nat.one_mul]
    omega
theorem sum_le : ∀ (ls : List (List Nat)) (n : Nat), (∀ l ∈ ls, l.length ≤ n) → (ls.map (·.length)).sum ≤ ls.length * n
  | [], n, _ => by simp
  | l :: r, n, h => by
    have h1 := sum_le r n fun x hx => h x (List.mem_cons_of_mem _ hx)
    have h2 := h l List.mem_cons_self
    simp only [List.map_cons, List.sum_cons, List.length_cons]
    rw [Nat.add_mul, Nat.one_mul]
    omega
theorem cat_x (x y : Str) : x ++ y = S (cpsL x ++ cpsL y) := by
  conv => lhs; rw [← S_cps x]
  exact S_catx _ _
theorem spc3 {a o b : Str} (ha : a ≠ tL) (ho : NP o) (hb : NP b) : spc [a, o, b] = cpsL a ++ ([32] ++ (cpsL o ++ ([32] ++ cpsL b))) := by
  simp only [spc, spcR, glue_np ha ho, glue_np ho.1 hb, List.append_nil]
theorem spc_call {k x y : Str} (hy : NP y) : spc [k, tL, x, tC, y, tR] = cpsL k ++ (cpsL tL ++ (cpsL x ++ (cpsL tC ++ ([32] ++ (cpsL y ++ cpsL tR))))) := by
  simp only [spc, spcR, glue_tL, glue_op, glue_tC, glue_np tC_tL hy, glue_tR, List.append_nil, List.nil_append]
def atomT (p : Part) : List Nat := spc (partToks p)
def fD (p : Part) : D := .str (S (atomT p))
theorem PartOk.l1 {p : Part} (h : PartOk p) : (cpsL p.2.1).length ≤ 16 ∧ (cpsL p.2.2).length ≤ 16 ∧ NP p.2.1 ∧ NP p.2.2 := ⟨h.2.1.tok.2.2, h.2.2.tok.2.2, h.2.1.tok.np, h.2.2.tok.np⟩
theorem c_eq : cpsL (Str.ofString " == ") = [32, 61, 61, 32] := by decide +kernel
theorem c_ne : cpsL (Str.ofString " != ") = [32, 33, 61, 32] := by decide +kernel
theorem c_cell : cpsL (Str.ofString "cell(") = cpsL kCell ++ cpsL tL := by decide +kernel
theorem c_chn : cpsL (Str.ofString "chain(") = cpsL kChn ++ cpsL tL := by decide +kernel
theorem c_com : cpsL (Str.ofString ", ") = cpsL tC ++ [32] := by decide +kernel
theorem c_tEq : cpsL tEq = [61, 61] := by decide +kernel
theorem c_tNe : cpsL tNe = [33, 61] := by decide +kernel
theorem c_tL : cpsL tL = [40] := by decide +kernel
theorem c_tR : cpsL tR = [41] := by decide +kernel
theorem c_tC : cpsL tC = [44] := by decide +kernel
theorem c_tX : cpsL tX = [42] := by decide +kernel
theorem c_tA : cpsL tA = [61] := by decide +kernel
theorem atom_same {p : Part} (h : PartOk p) (hk : p.1 = kSame) : atomT p = cpsL p.2.1 ++ [32, 61, 61, 32] ++ cpsL p.2.2 := by
  have e : partToks p = [p.2.1, tEq, p.2.2] := by unfold partToks; rw [hk, if_neg (by decide +kernel), if_pos rfl]
  unfold atomT
  rw [e, spc3 h.l1.2.2.1.1 np_ops.1 h.l1.2.2.2, c_tEq]
  simp
theorem atom_unl {p : Part} (h : PartOk p) (hk : p.1 = kUnl) : atomT p = cpsL p.2.1 ++ [32, 33, 61, 32] ++ cpsL p.2.2 := by
  have e : partToks p = [p.2.1, tNe, p.2.2] := by unfold partToks; rw [hk, if_neg (by decide +kernel), if_neg (by decide +kernel), if_pos rfl]
  unfold atomT
  rw [e, spc3 h.l1.2.2.1.1 np_ops.2.1 h.l1.2.2.2, c_tNe]
  simp
theorem atom_cell {p : Part} (h : PartOk p) (hk : p.1 = kCell) : atomT p = cpsL kCell ++ cpsL tL ++ cpsL p.2.1 ++ (cpsL tC ++ [32]) ++ cpsL p.2.2 ++ cpsL tR := by
  have e : partToks p = [kCell, tL, p.2.1, tC, p.2.2, tR] := by unfold partToks; rw [hk, if_neg (by decide +kernel), if_neg (by decide +kernel), if_neg (by decide +kernel)]
  unfold atomT
  rw [e, spc_call h.l1.2.2.2]
  simp only [List.append_assoc]
theorem atom_chn {p : Part} (h : PartOk p) (hk : p.1 = kChn) : atomT p = cpsL kChn ++ cpsL tL ++ cpsL p.2.1 ++ (cpsL tC ++ [32]) ++ cpsL p.2.2 ++ cpsL tR := by
  have e : partToks p = [kChn, tL, p.2.1, tC, p.2.2, tR] := by unfold partToks; rw [hk, if_neg (by decide +kernel), if_neg (by decide +kernel), if_neg (by decide +kernel)]
  unfold atomT
  rw [e, spc_call h.l1.2.2.2]
  simp only [List.append_assoc]
/-- the first and the last token of a part -/
theorem part_ends {p : Part} (h : PartOk p) (hn : p.1 ≠ kNone) : (∃ a r, partToks p = a :: r ∧ NP a) ∧ ∃ l x, partToks p = l ++ [x] ∧ x ≠ tL := by
  obtain ⟨_, _, n1, n2⟩ := h.l1
  unfold partToks
  rw [if_neg hn]
  split
  · exact ⟨⟨_, _, rfl, n1⟩, [p.2.1, tEq], p.2.2, rfl, n2.1⟩
  split
  · exact ⟨⟨_, _, rfl, n1⟩, [p.2.1, tNe], p.2.2, rfl, n2.1⟩
  · rename_i h1 h2
    refine ⟨⟨_, _, rfl, ?_⟩, [p.1, tL, p.2.1, tC, p.2.2], tR, rfl, tR_tL⟩
    rcases h.1 with e | e | e | e | e
    · exact absurd e h1
    · exact absurd e h2
    · rw [e]; unfold NP; decide +kernel
    · rw [e]; unfold NP; decide +kernel
    · exact absurd e hn
theorem join_atoms : ∀ (r : List Part) (p : Part), (∀ q ∈ p :: r, PartOk q ∧ q.1 ≠ kNone) → joinL [32, 42, 32] ((p :: r).map atomT) = spc (partToks p ++ partsTail r)
  | [], p, _ => by simp [joinL, partsTail, atomT]
  | q :: r, p, h => by
    have ih := join_atoms r q fun z hz => h z (List.mem_cons_of_mem _ hz)
    obtain ⟨h1, h2⟩ := h p List.mem_cons_self
    obtain ⟨h3, h4⟩ := h q (List.mem_cons_of_mem _ List.mem_cons_self)
    obtain ⟨_, l, x, e1, n1⟩ := part_ends h1 h2
    obtain ⟨⟨a, s, e2, n2⟩, _⟩ := part_ends h3 h4
    show atomT p ++ ([32, 42, 32] ++ joinL [32, 42, 32] ((q :: r).map atomT)) = _
    rw [ih]
    have e3 : partsTail (q :: r) = tX :: (partToks q ++ partsTail r) := rfl
    rw [e3, e1, spc_app, glue_np n1 np_ops.2.2.1, show atomT p = spc (l ++ [x]) by unfold atomT; rw [e1]]
    rw [e2]
    have e4 : spc (tX :: (a :: s ++ partsTail r)) = cpsL tX ++ ([32] ++ spc (a :: s ++ partsTail r)) := by
      show cpsL tX ++ (glue tX a ++ (cpsL a ++ spcR a (s ++ partsTail r))) = _
      rw [glue_np np_ops.2.2.1.1 n2]
      rfl
    rw [e4, c_tX]
    simp
def shown (ps : List Part) : List Part := if (norm ps).isEmpty = true then [(kNone, nilS, nilS)] else norm ps
def pictT (ps : List Part) : List Nat := spc (partsToks (shown ps))
theorem norm_ok {ps : List Part} (h : ∀ p ∈ ps, PartOk p) : ∀ q ∈ norm ps, PartOk q ∧ q.1 ≠ kNone := fun q hq => by
  obtain ⟨h1, h2⟩ := norm_mem hq
  refine ⟨h q h1, fun e => ?_⟩
  rw [e] at h2
  exact absurd h2 (by decide +kernel)
theorem pictT_join {ps : List Part} (h : ∀ p ∈ ps, PartOk p) (hn : norm ps ≠ []) : pictT ps = joinL [32, 42, 32] ((norm ps).map atomT) := by
  have hk := norm_ok h
  unfold pictT shown
  rw [if_neg (by simpa using hn)]
  cases e : norm ps with
  | nil => exact absurd e hn
  | cons p r =>
    rw [e] at hk
    rw [join_atoms r p hk]
    rfl
theorem pictT_none {ps : List Part} (hn : norm ps = []) : pictT ps = cpsL kNone := by
  unfold pictT shown
  rw [if_pos (by rw [hn]; rfl)]
  have : partsToks [(kNone, nilS, nilS)] = [kNone] := by decide +kernel
  rw [this]
  simp [spc, spcR]
theorem atom_len {p : Part} (h : PartOk p) (hn : p.1 ≠ kNone) : (atomT p).length ≤ 102 := by
  have := spc_len (partToks p) fun t ht => tok_len (partToks_tkn h t ht).1
  have := (partToks_len p).1
  unfold atomT
  omega
def sp_ptext : DSp := fun ds M Q E => ∃ (ps : List Part), ds = [picD ps] ∧ (∀ p ∈ ps, PartOk p) ∧ ps.length ≤ 100 ∧ ∀ M', Keep [] M M' → Q (.str (S (pictT ps))) M'
theorem mono_ptext : MonoSp sp_ptext := by
  rintro ds M Q Q' E E' hQ hE ⟨ps, h1, h2, h3, h⟩
  exact ⟨ps, h1, h2, h3, fun M' z1 => hQ _ _ (h M' z1)⟩
theorem fn_ptext (S0 : Src K mg "picture_text" s_picture_text ["picture"]) (G : GF K mg C_Cursor C_Block C_ProcReader C_Reader v_proc_name) : Fn P w K mg base 1 "picture_text" sp_ptext [] := by
  refine S0.fn mono_ptext fun g fd F => fn_ok F sc_picture_text (fun ds M Q E h => by obtain ⟨ps, rfl, _⟩ := h; rfl) ⟨_, fun cdv A outer s H E hr => have hu := hr.u200
    (xss_cons (xs_asg (p := .tp [.nm 1, .nm 2, .nm 3, .nm 4]) (xe_var 0) (xg_tup rfl (xgs_cons (xg_name 1 sc_picture_text.nd) (xgs_cons (xg_name 2 sc_picture_text.nd) (xgs_cons (xg_name 3 sc_picture_text.nd) (xgs_cons (xg_name 4 sc_picture_text.nd) xgs_nil))))))
 (xss_cons (xs_setLc 5 (own := [("one", 6), ("other", 7)]) (p := .tp [.nm 6, .nm 7]) rfl sc_picture_text.nd rfl (sw_true rfl rfl rfl (by decide +kernel)) (xi_walk (xe_var 1)) (blkOk_by (by first | (show blkC ["picture", "same", "unlike", "cells", "chains", "found", "one", "other"] (defScope s_picture_text) _ _ = true; decide +kernel) | kernel_rfl | rfl)) (fun _ _ _ _ _ => (xg_tup rfl (xgs_cons (xg_name 6 sc_picture_text.nd) (xgs_cons (xg_name 7 sc_picture_text.nd) xgs_nil)))) (fun _ _ _ _ _ => xts_nil) (fun _ _ _ _ _ => (xe_bin x_add (xe_bin x_add (xe_var 6) xe_str) (xe_var 7))))
 (xss_cons (xs_expr (xe_bm PySem.F.plainAttrs_list PySem.F.slot_list_extend PySem.F.type_list_extend m_extend (xe_var 5) (xa_cons (xe_lc (own := [("one", 6), ("other", 7)]) (p := .tp [.nm 6, .nm 7]) rfl sc_picture_text.nd (xi_walk (xe_var 2)) (blkOk_by (by first | (show blkC ["picture", "same", "unlike", "cells", "chains", "found", "one", "other"] (defScope s_picture_text) _ _ = true; decide +kernel) | kernel_rfl | rfl)) (fun _ _ _ _ _ => (xg_tup rfl (xgs_cons (xg_name 6 sc_picture_text.nd) (xgs_cons (xg_name 7 sc_picture_text.nd) xgs_nil)))) (fun _ _ _ _ _ => xts_nil) (fun _ _ _ _ _ => (xe_bin x_add (xe_bin x_add (xe_var 6) xe_str) (xe_var 7)))) xa_nil)))
 (xss_cons (xs_expr (xe_bm PySem.F.plainAttrs_list PySem.F.slot_list_extend PySem.F.type_list_extend m_extend (xe_var 5) (xa_cons (xe_lc (own := [("one", 6), ("other", 7)]) (p := .tp [.nm 6, .nm 7]) rfl sc_picture_text.nd (xi_walk (xe_var 3)) (blkOk_by (by first | (show blkC ["picture", "same", "unlike", "cells", "chains", "found", "one", "other"] (defScope s_picture_text) _ _ = true; decide +kernel) | kernel_rfl | rfl)) (fun _ _ _ _ _ => (xg_tup rfl (xgs_cons (xg_name 6 sc_picture_text.nd) (xgs_cons (xg_name 7 sc_picture_text.nd) xgs_nil)))) (fun _ _ _ _ _ => xts_nil) (fun _ _ _ _ _ => (xe_bin x_add (xe_bin x_add (xe_bin x_add (xe_bin x_add xe_str (xe_var 6)) xe_str) (xe_var 7)) xe_str))) xa_nil)))
 (xss_cons (xs_expr (xe_bm PySem.F.plainAttrs_list PySem.F.slot_list_extend PySem.F.type_list_extend m_extend (xe_var 5) (xa_cons (xe_lc (own := [("one", 6), ("other", 7)]) (p := .tp [.nm 6, .nm 7]) rfl sc_picture_text.nd (xi_walk (xe_var 4)) (blkOk_by (by first | (show blkC ["picture", "same", "unlike", "cells", "chains", "found", "one", "other"] (defScope s_picture_text) _ _ = true; decide +kernel) | kernel_rfl | rfl)) (fun _ _ _ _ _ => (xg_tup rfl (xgs_cons (xg_name 6 sc_picture_text.nd) (xgs_cons (xg_name 7 sc_picture_text.nd) xgs_nil)))) (fun _ _ _ _ _ => xts_nil) (fun _ _ _ _ _ => (xe_bin x_add (xe_bin x_add (xe_bin x_add (xe_bin x_add xe_str (xe_var 6)) xe_str) (xe_var 7)) xe_str))) xa_nil)))
 (xss_one (xs_ret (xe_if (xt_val (xe_var 5)) (xe_bm PySem.F.plainAttrs_str PySem.F.slot_str_join PySem.F.type_str_join m_join xe_str (xa_cons (xe_var 5) xa_nil)) xe_str)))))))), fun ds M Q E h => ?_⟩
  obtain ⟨ps, rfl, hok, hl, h⟩ := h
  have sz : (16777216 : Nat) = sizeLine := sizeLine_eq.symm
  have hfk : ∀ k p, p ∈ fk k ps → PartOk p ∧ p.1 = k := fun k p hp => ⟨hok p (List.mem_filter.mp hp).1, of_decide_eq_true (List.mem_filter.mp hp).2⟩
  have hft : ∀ k, (fk k ps).filter (fun _ => true) = fk k ps := fun k => List.filter_eq_self.mpr (by simp)
  have n1 := fk_len kSame ps
  have n2 := fk_len kUnl ps
  have n3 := fk_len kCell ps
  have n4 := fk_len kChn ps
  have u1 : (cpsL kCell).length = 4 := by decide +kernel
  have u2 : (cpsL kChn).length = 5 := by decide +kernel
  have u3 : (cpsL tL).length = 1 := by decide +kernel
  have u4 : (cpsL tR).length = 1 := by decide +kernel
  have u5 : (cpsL tC).length = 1 := by decide +kernel
  simp! [picD, kindL_fk]
  intro l1 hl1
  refine lc_pure pairD fD (fun _ => true) (fk kSame ps) hl1 (fun _ _ => trivial) (by rw [← sz]; omega) (fun p hp M2 N sk k2 hy _ => ?_) fun M2 k2 e2 => ?_
  · obtain ⟨hp1, hp2⟩ := hfk _ p hp
    obtain ⟨q1, q2, _⟩ := hp1.l1
    simp! [pairD, cat_x, cpsL_S, len_x, c_eq]
    refine ⟨by rw [← sz]; omega, by rw [← sz]; simp only [List.length_append, List.length_cons, List.length_nil]; omega, ?_⟩
    have := hy rfl _ Keep.refl
    unfold fD at this
    rw [atom_same hp1 hp2] at this
    exact this
  rw [hft] at e2
  simp! [e2]
  have k12 : Keep [] M M2 := k2
  intro l2 hl2
  refine lc_pure pairD fD (fun _ => true) (fk kUnl ps) hl2 (fun _ _ => trivial) (by rw [← sz]; omega) (fun p hp M3 N sk k3 hy _ => ?_) fun M3 k3 e3 => ?_
  · obtain ⟨hp1, hp2⟩ := hfk _ p hp
    obtain ⟨q1, q2, _⟩ := hp1.l1
    simp! [pairD, cat_x, cpsL_S, len_x, c_ne]
    refine ⟨by rw [← sz]; (try simp only [List.length_append, List.length_cons, List.length_nil, u1, u2, u3, u4, u5]); omega, by rw [← sz]; (try simp only [List.length_append, List.length_cons, List.length_nil, u1, u2, u3, u4, u5]); omega, ?_⟩
    have := hy rfl _ Keep.refl
    unfold fD at this
    rw [atom_unl hp1 hp2] at this
    exact this
  rw [hft] at e3
  have f3 := k3 _ _ e2 (by simp)
  have k13 : Keep [] M M3 := k12.trans k3
  simp! [f3, e3, List.length_map]
  have k14 : Keep [] M (mupd M3 l1 (.lst ((fk kSame ps).map fD ++ (fk kUnl ps).map fD))) := k13.putN hl1
  have f4 : (mupd M3 l1 (.lst ((fk kSame ps).map fD ++ (fk kUnl ps).map fD))) l1 = _ := mupd_same
  generalize mupd M3 l1 _ = M4 at k14 f4 ⊢
  refine ⟨by rw [← sz]; omega, fun l5 hl5 => ?_⟩
  refine lc_pure pairD fD (fun _ => true) (fk kCell ps) hl5 (fun _ _ => trivial) (by rw [← sz]; omega) (fun p hp M5 N sk k5 hy _ => ?_) fun M5 k5 e5 => ?_
  · obtain ⟨hp1, hp2⟩ := hfk _ p hp
    obtain ⟨q1, q2, _⟩ := hp1.l1
    simp! [pairD, cat_x, cpsL_S, len_x, c_cell, c_com]
    refine ⟨by rw [← sz]; (try simp only [List.length_append, List.length_cons, List.length_nil, u1, u2, u3, u4, u5]); omega, by rw [← sz]; (try simp only [List.length_append, List.length_cons, List.length_nil, u1, u2, u3, u4, u5]); omega, by rw [← sz]; (try simp only [List.length_append, List.length_cons, List.length_nil, u1, u2, u3, u4, u5]); omega, by rw [← sz]; (try simp only [List.length_append, List.length_cons, List.length_nil, u1, u2, u3, u4, u5]); omega, ?_⟩
    have := hy rfl _ Keep.refl
    unfold fD at this
    rw [atom_cell hp1 hp2] at this
    exact this
  rw [hft] at e5
  have f5 := k5 _ _ f4 (by simp)
  have k15 : Keep [] M M5 := k14.trans k5
  simp! [f5, e5, List.length_map]
  have k16 : Keep [] M (mupd M5 l1 (.lst ((fk kSame ps).map fD ++ (fk kUnl ps).map fD ++ (fk kCell ps).map fD))) := k15.putN hl1
  have f6 : (mupd M5 l1 (.lst ((fk kSame ps).map fD ++ (fk kUnl ps).map fD ++ (fk kCell ps).map fD))) l1 = _ := mupd_same
  generalize mupd M5 l1 _ = M6 at k16 f6 ⊢
  refine ⟨by rw [← sz]; simp only [List.length_append, List.length_map]; omega, fun l7 hl7 => ?_⟩
  refine lc_pure pairD fD (fun _ => true) (fk kChn ps) hl7 (fun _ _ => trivial) (by rw [← sz]; omega) (fun p hp M7 N sk k7 hy _ => ?_) fun M7 k7 e7 => ?_
  · obtain ⟨hp1, hp2⟩ := hfk _ p hp
    obtain ⟨q1, q2, _⟩ := hp1.l1
    simp! [pairD, cat_x, cpsL_S, len_x, c_chn, c_com]
    refine ⟨by rw [← sz]; (try simp only [List.length_append, List.length_cons, List.length_nil, u1, u2, u3, u4, u5]); omega, by rw [← sz]; (try simp only [List.length_append, List.length_cons, List.length_nil, u1, u2, u3, u4, u5]); omega, by rw [← sz]; (try simp only [List.length_append, List.length_cons, List.length_nil, u1, u2, u3, u4, u5]); omega, by rw [← sz]; (try simp only [List.length_append, List.length_cons, List.length_nil, u1, u2, u3, u4, u5]); omega, ?_⟩
    have := hy rfl _ Keep.refl
    unfold fD at this
    rw [atom_chn hp1 hp2] at this
    exact this
  rw [hft] at e7
  have f7 := k7 _ _ f6 (by simp)
  have k17 : Keep [] M M7 := k16.trans k7
  have ea : (fk kSame ps).map fD ++ (fk kUnl ps).map fD ++ (fk kCell ps).map fD ++ (fk kChn ps).map fD = (norm ps).map fD := by simp [norm]
  simp! [f7, e7, List.length_map]
  rw [ea]
  have k18 : Keep [] M (mupd M7 l1 (.lst ((norm ps).map fD))) := k17.putN hl1
  have f8 : (mupd M7 l1 (.lst ((norm ps).map fD))) l1 = _ := mupd_same
  generalize mupd M7 l1 _ = M8 at k18 f8 ⊢
  refine ⟨by rw [← sz]; simp only [List.length_append, List.length_map]; omega, ?_⟩
  by_cases hn : norm ps = []
  · rw [hn]
    simp! [List.isEmpty_nil]
    have := h M8 k18
    rw [pictT_none hn, S_cps] at this
    exact this
  · have he : ((norm ps).map fD).isEmpty = false := by
      cases e : norm ps with
      | nil => exact absurd e hn
      | cons p r => rfl
    have hsum := sum_le ((norm ps).map atomT) 102 fun l hl => by
      obtain ⟨p, hp, rfl⟩ := List.mem_map.mp hl
      obtain ⟨q1, q2⟩ := norm_ok hok p hp
      exact atom_len q1 q2
    have hnl := norm_len ps
    rw [List.length_map] at hsum
    have f9 : M8 l1 = some (.lst ((((norm ps).map atomT).map S).map D.str)) := by rw [f8, List.map_map, List.map_map]; rfl
    have eX : Str.ofString " * " = S [32, 42, 32] := by decide +kernel
    have el2 : ((((norm ps).map atomT).map S).map (·.length)).sum = (((norm ps).map atomT).map (·.length)).sum := congrArg List.sum (List.map_map.trans (List.map_congr_left fun l _ => len_S l))
    rw [he]
    simp! [mJoin, seqS, lstAt, f9, strsOf_map, Option.bind_some]
    rw [eX, SX.join_S, el2]
    refine ⟨by simp only [len_S, List.length_map, List.length_cons, List.length_nil]; omega, ?_⟩
    have := h M8 k18
    rw [pictT_join hok hn] at this
    exact this
/-! tests, statements without blocks -/
def sp_ttext : DSp := fun ds M Q E => ∃ (s : Bool) (a b : Str), ds = [testD s a b] ∧ PlaceOk a ∧ PlaceOk b ∧ Q (.str (S (spc [a, opT s, b]))) M
theorem mono_ttext : MonoSp sp_ttext := by
  rintro ds M Q Q' E E' hQ hE ⟨s, a, b, h1, h2, h3, h⟩
  exact ⟨s, a, b, h1, h2, h3, hQ _ _ h⟩
theorem fn_ttext (S0 : Src K mg "test_text" s_test_text ["test"]) (G : GF K mg C_Cursor C_Block C_ProcReader C_Reader v_proc_name) : Fn P w K mg base 1 "test_text" sp_ttext [] := by
  refine S0.fn mono_ttext fun g fd F => fn_ok F sc_test_text (fun ds M Q E h => by obtain ⟨s, a, b, rfl, _⟩ := h; rfl) ⟨_, fun cdv A outer s H E hr => have hu := hr.u200
    (xss_cons (xs_set 1 sc_test_text.nd (xe_if (xt_cmp (x_eq hu) (xe_ix hu (xe_var 0) xe_int) xe_str (nomark _) bl_eq) xe_str xe_str))
 (xss_one (xs_ret (xe_bin x_add (xe_bin x_add (xe_ix hu (xe_var 0) xe_int) (xe_var 1)) (xe_ix hu (xe_var 0) xe_int))))), fun ds M Q E h => ?_⟩
  obtain ⟨s, a, b, rfl, ha, hb, h⟩ := h
  have sz : (16777216 : Nat) = sizeLine := sizeLine_eq.symm
  have la := ha.tok.2.2
  have lb := hb.tok.2.2
  cases s with
  | true =>
    rw [spc3 ha.tok.np.1 (show NP (opT true) from np_ops.1) hb.tok.np, show cpsL (opT true) = [61, 61] from c_tEq] at h
    simp! [testD, kindS, atI_zero, cat_x, cpsL_S, len_x, c_eq]
    refine ⟨by rw [← sz]; omega, by rw [← sz]; simp only [List.length_append, List.length_cons, List.length_nil]; omega, ?_⟩
    rw [show cpsL a ++ [32, 61, 61, 32] ++ cpsL b = cpsL a ++ ([32] ++ ([61, 61] ++ ([32] ++ cpsL b))) by simp]
    exact h
  | false =>
    rw [spc3 ha.tok.np.1 (show NP (opT false) from np_ops.2.1) hb.tok.np, show cpsL (opT false) = [33, 61] from c_tNe] at h
    simp! [testD, kindS, atI_zero, cat_x, cpsL_S, len_x, c_ne]
    refine ⟨by rw [← sz]; omega, by rw [← sz]; simp only [List.length_append, List.length_cons, List.length_nil]; omega, ?_⟩
    rw [show cpsL a ++ [32, 33, 61, 32] ++ cpsL b = cpsL a ++ ([32] ++ ([33, 61] ++ ([32] ++ cpsL b))) by simp]
    exact h
theorem c_set : cpsL (Str.ofString "set ") = cpsL (Str.ofString "set") ++ [32] := by decide +kernel
theorem c_setn : cpsL (Str.ofString "set next ") = cpsL (Str.ofString "set") ++ ([32] ++ (cpsL (Str.ofString "next") ++ [32])) := by decide +kernel
theorem c_asg : cpsL (Str.ofString " = ") = [32] ++ (cpsL tA ++ [32]) := by decide +kernel
theorem c_asgn : cpsL (Str.ofString " = next ") = [32] ++ (cpsL tA ++ ([32] ++ (cpsL (Str.ofString "next") ++ [32]))) := by decide +kernel
theorem c_call : cpsL (Str.ofString "call ") = cpsL (Str.ofString "call") ++ [32] := by decide +kernel
theorem kwl : (cpsL (Str.ofString "set")).length = 3 ∧ (cpsL (Str.ofString "next")).length = 4 ∧ (cpsL (Str.ofString "call")).length = 4 ∧ (cpsL tA).length = 1 ∧ (cpsL tL).length = 1 ∧ (cpsL tR).length = 1 := by decide +kernel
/-- names with commas between -/
def lstT (ns : List Str) : List Nat := joinL [44, 32] (ns.map cpsL)
theorem spc_listed : ∀ (r : List Str) (a x : Str), (∀ y ∈ r, NP y) → spcR a ((x :: r).flatMap fun y => [y]) = spcR a (x :: r) := fun r a x _ => by
  congr 1
  simp
theorem listed_tail (x : Str) : ∀ (r : List Str) , (∀ y ∈ x :: r, NP y) → cpsL x ++ spcR x (r.flatMap fun y => [tC, y]) = lstT (x :: r)
  | [], _ => by simp [spcR, lstT, joinL]
  | y :: r, h => by
    have ih := listed_tail y r fun z hz => h z (List.mem_cons_of_mem _ hz)
    have hy := h y (List.mem_cons_of_mem _ List.mem_cons_self)
    show cpsL x ++ (glue x tC ++ (cpsL tC ++ (glue tC y ++ (cpsL y ++ spcR y (r.flatMap fun y => [tC, y]))))) = cpsL x ++ ([44, 32] ++ joinL [44, 32] ((y :: r).map cpsL))
    rw [ih, glue_tC, glue_np tC_tL hy, c_tC]
    rfl
theorem spc_listed2 (ns : List Str) (h : ∀ y ∈ ns, NP y) : spc (listed ns) = lstT ns := by
  cases ns with
  | nil => rfl
  | cons x r => exact listed_tail x r h
/-- k name(names) -/
theorem spc_sig {k f : Str} {ns : List Str} (hk : k ≠ tL) (hf : NP f) (h : ∀ y ∈ ns, NP y) : spc (k :: f :: tL :: (listed ns ++ [tR])) = cpsL k ++ ([32] ++ (cpsL f ++ (cpsL tL ++ (lstT ns ++ cpsL tR)))) := by
  have e1 : spc (k :: f :: tL :: (listed ns ++ [tR])) = cpsL k ++ (glue k f ++ (cpsL f ++ (glue f tL ++ (cpsL tL ++ spcR tL (listed ns ++ [tR]))))) := rfl
  rw [e1, glue_np hk hf, glue_tL]
  cases ns with
  | nil => simp [listed, spcR, lstT, joinL, glue_tR]
  | cons x r =>
    have hl := spc_listed2 (x :: r) h
    obtain ⟨l, z, e2⟩ : ∃ l z, listed (x :: r) = l ++ [z] := ⟨_, _, (List.dropLast_concat_getLast (by simp [listed])).symm⟩
    obtain ⟨q, e3⟩ : ∃ q, listed (x :: r) = x :: q := ⟨_, rfl⟩
    have e4 : spcR tL (listed (x :: r) ++ [tR]) = spc (listed (x :: r) ++ [tR]) := by
      rw [e3]
      show glue tL x ++ _ = _
      rw [glue_op]
      rfl
    rw [e4, e2, spc_app l z tR [], ← e2, hl, glue_tR]
    simp [spc, spcR]
theorem join_names (ns : List Str) : Txt.join (Str.ofString ", ") ns = S (lstT ns) := by
  have e1 : Str.ofString ", " = S [44, 32] := by decide +kernel
  have e2 : ns = (ns.map cpsL).map S := by rw [List.map_map, show (S ∘ cpsL) = id from funext S_cps, List.map_id]
  rw [e1]
  conv => lhs; rw [e2]
  exact SX.join_S _ _
def sp_stext : DSp := fun ds M Q E => ∃ (s : Sim), ds = [s.enc] ∧ s.Ok ∧ Q (.str (S (spc (s.word :: s.tail)))) M
theorem mono_stext : MonoSp sp_stext := by
  rintro ds M Q Q' E E' hQ hE ⟨s, h1, h2, h⟩
  exact ⟨s, h1, h2, hQ _ _ h⟩
theorem lstT_len (ns : List Str) (h : ∀ y ∈ ns, (cpsL y).length ≤ 16) : (lstT ns).length ≤ 18 * ns.length := by
  have h1 := joinL_len [44, 32] (ns.map cpsL)
  have h2 := sum_le (ns.map cpsL) 16 fun l hl => by
    obtain ⟨y, hy, rfl⟩ := List.mem_map.mp hl
    exact h y hy
  unfold lstT
  simp only [List.length_map, List.length_cons, List.length_nil] at h1 h2 ⊢
  omega
theorem fn_stext (S0 : Src K mg "simple_text" s_simple_text ["statement"]) (G : GF K mg C_Cursor C_Block C_ProcReader C_Reader v_proc_name) : Fn P w K mg base 1 "simple_text" sp_stext [] := by
  refine S0.fn mono_stext fun g fd F => fn_ok F sc_simple_text (fun ds M Q E h => by obtain ⟨s, rfl, _⟩ := h; rfl) ⟨_, fun cdv A outer s H E hr => have hu := hr.u200
    (xss_cons (xs_set 1 sc_simple_text.nd (xe_ix hu (xe_var 0) xe_int))
 (xss_cons (xs_if (xt_cmp (x_eq hu) (xe_var 1) xe_str (nomark _) bl_eq)
 (xss_one (xs_ret (xe_bin x_add (xe_bin x_add (xe_bin x_add xe_str (xe_ix hu (xe_var 0) xe_int)) xe_str) (xe_ix hu (xe_var 0) xe_int))))
 xss_nil)
 (xss_cons (xs_if (xt_cmp (x_eq hu) (xe_var 1) xe_str (nomark _) bl_eq)
 (xss_one (xs_ret (xe_bin x_add (xe_bin x_add (xe_bin x_add xe_str (xe_ix hu (xe_var 0) xe_int)) xe_str) (xe_ix hu (xe_var 0) xe_int))))
 xss_nil)
 (xss_cons (xs_if (xt_cmp (x_eq hu) (xe_var 1) xe_str (nomark _) bl_eq)
 (xss_one (xs_ret (xe_bin x_add (xe_bin x_add (xe_bin x_add xe_str (xe_ix hu (xe_var 0) xe_int)) xe_str) (xe_ix hu (xe_var 0) xe_int))))
 xss_nil)
 (xss_cons (xs_if (xt_cmp (x_eq hu) (xe_var 1) xe_str (nomark _) bl_eq)
 (xss_one (xs_ret (xe_bin x_add (xe_bin x_add (xe_bin x_add (xe_bin x_add xe_str (xe_ix hu (xe_var 0) xe_int)) xe_str) (xe_bm PySem.F.plainAttrs_str PySem.F.slot_str_join PySem.F.type_str_join m_join xe_str (xa_cons (xe_ix hu (xe_var 0) xe_int) xa_nil))) xe_str)))
 xss_nil)
 (xss_one (xs_ret (xe_bin x_add (xe_bin x_add (xe_var 1) xe_str) (xe_ix hu (xe_var 0) xe_int))))))))), fun ds M Q E h => ?_⟩
  obtain ⟨s, rfl, hok, h⟩ := h
  have sz : (16777216 : Nat) = sizeLine := sizeLine_eq.symm
  obtain ⟨w1, w2, w3, w4, w5⟩ := wset
  obtain ⟨v1, v2, v3, v4, v5, v6⟩ := kwl
  have e32 : cpsL (Str.ofString " ") = [32] := by decide +kernel
  have v7 : (cpsL (Str.ofString "new")).length = 3 := by decide +kernel
  have v8 : (cpsL (Str.ofString "free")).length = 4 := by decide +kernel
  have hA := np_ops.2.2.2
  cases s with
  | copy x y =>
    have n1 := hok.1.tok
    have n2 := hok.2.tok
    have m1 := n1.2.2
    have m2 := n2.2.2
    simp! [Sim.enc, atI_zero, cat_x, cpsL_S, len_x, c_set, c_asg]
    refine ⟨by rw [← sz]; (try simp only [List.length_append, List.length_cons, List.length_nil, v1, v2, v3, v4, v5, v6, v7, v8]); omega, by rw [← sz]; (try simp only [List.length_append, List.length_cons, List.length_nil, v1, v2, v3, v4, v5, v6, v7, v8]); omega, by rw [← sz]; (try simp only [List.length_append, List.length_cons, List.length_nil, v1, v2, v3, v4, v5, v6, v7, v8]); omega, ?_⟩
    simp only [Sim.word, Sim.tail, spc, spcR, glue_np w1.np.1 n1.np, glue_np n1.np.1 hA, glue_np hA.1 n2.np] at h
    simpa using h
  | read x y =>
    have n1 := hok.1.tok
    have n2 := hok.2.tok
    have m1 := n1.2.2
    have m2 := n2.2.2
    simp! [Sim.enc, atI_zero, cat_x, cpsL_S, len_x, c_set, c_asgn]
    refine ⟨by rw [← sz]; (try simp only [List.length_append, List.length_cons, List.length_nil, v1, v2, v3, v4, v5, v6, v7, v8]); omega, by rw [← sz]; (try simp only [List.length_append, List.length_cons, List.length_nil, v1, v2, v3, v4, v5, v6, v7, v8]); omega, by rw [← sz]; (try simp only [List.length_append, List.length_cons, List.length_nil, v1, v2, v3, v4, v5, v6, v7, v8]); omega, ?_⟩
    simp only [Sim.word, Sim.tail, spc, spcR, glue_np w1.np.1 n1.np, glue_np n1.np.1 hA, glue_np hA.1 w2.np, glue_np w2.np.1 n2.np] at h
    simpa using h
  | link x y =>
    have n1 := hok.1.tok
    have n2 := hok.2.tok
    have m1 := n1.2.2
    have m2 := n2.2.2
    simp! [Sim.enc, atI_zero, cat_x, cpsL_S, len_x, c_setn, c_asg]
    refine ⟨by rw [← sz]; (try simp only [List.length_append, List.length_cons, List.length_nil, v1, v2, v3, v4, v5, v6, v7, v8]); omega, by rw [← sz]; (try simp only [List.length_append, List.length_cons, List.length_nil, v1, v2, v3, v4, v5, v6, v7, v8]); omega, by rw [← sz]; (try simp only [List.length_append, List.length_cons, List.length_nil, v1, v2, v3, v4, v5, v6, v7, v8]); omega, ?_⟩
    simp only [Sim.word, Sim.tail, spc, spcR, glue_np w1.np.1 w2.np, glue_np w2.np.1 n1.np, glue_np n1.np.1 hA, glue_np hA.1 n2.np] at h
    simpa using h
  | new x =>
    have n1 := (show NameOk x from hok).tok
    have m1 := n1.2.2
    simp! [Sim.enc, atI_zero, cat_x, cpsL_S, len_x, e32]
    refine ⟨by rw [← sz]; (try simp only [List.length_append, List.length_cons, List.length_nil, v1, v2, v3, v4, v5, v6, v7, v8]); omega, by rw [← sz]; (try simp only [List.length_append, List.length_cons, List.length_nil, v1, v2, v3, v4, v5, v6, v7, v8]); omega, ?_⟩
    simp only [Sim.word, Sim.tail, spc, spcR, glue_np w3.np.1 n1.np] at h
    simpa using h
  | free x =>
    have n1 := (show NameOk x from hok).tok
    have m1 := n1.2.2
    simp! [Sim.enc, atI_zero, cat_x, cpsL_S, len_x, e32]
    refine ⟨by rw [← sz]; (try simp only [List.length_append, List.length_cons, List.length_nil, v1, v2, v3, v4, v5, v6, v7, v8]); omega, by rw [← sz]; (try simp only [List.length_append, List.length_cons, List.length_nil, v1, v2, v3, v4, v5, v6, v7, v8]); omega, ?_⟩
    simp only [Sim.word, Sim.tail, spc, spcR, glue_np w4.np.1 n1.np] at h
    simpa using h
  | call f as =>
    have n1 := hok.1.tok
    have m1 := n1.2.2
    have nas : ∀ y ∈ as, NP y := fun y hy => (hok.2.1 y hy).tok.np
    have hll := lstT_len as fun y hy => (hok.2.1 y hy).tok.2.2
    have hal := hok.2.2
    have hsum : (as.map fun x => (cpsL x).length).sum ≤ as.length * 16 := by
      have := sum_le (as.map cpsL) 16 fun l hl => by
        obtain ⟨y, hy, rfl⟩ := List.mem_map.mp hl
        exact (hok.2.1 y hy).tok.2.2
      rw [List.length_map, List.map_map] at this
      exact this
    simp! [Sim.enc, atI_zero, cat_x, cpsL_S, len_x, c_call, mJoin, seqS, strsOf_map, join_names]
    have v9 : (cpsL (Str.ofString ", ")).length = 2 := by decide +kernel
    refine ⟨by rw [← sz]; (try simp only [List.length_append, List.length_cons, List.length_nil, v1, v2, v3, v4, v5, v6, v7, v8]); omega, by rw [← sz]; (try simp only [List.length_append, List.length_cons, List.length_nil, v1, v2, v3, v4, v5, v6, v7, v8]); omega, by rw [v9]; omega, by rw [← sz]; (try simp only [List.length_append, List.length_cons, List.length_nil, v1, v2, v3, v4, v5, v6, v7, v8]); omega, by rw [← sz]; (try simp only [List.length_append, List.length_cons, List.length_nil, v1, v2, v3, v4, v5, v6, v7, v8]); omega, ?_⟩
    rw [show (Sim.call f as).word :: (Sim.call f as).tail = Str.ofString "call" :: f :: tL :: (listed as ++ [tR]) from rfl, spc_sig w5.np.1 n1.np nas] at h
    simpa using h
end K02

set_option maxHeartbeats 4000000
namespace K02
open PySem PySem.Spec PyProof.Rows L2 PL SX
variable {P : Program} {w : World} {K : PySem.W.Frag} {mg : Str → Option Value} {base : Heap} {C_Cursor C_Block C_ProcReader C_Reader v_proc_name : Addr}
local macro_rules | `(tactic| simp! [$ls,*]) => `(tactic| simp only [s_fld, s_fldK, s_insAt, s_optD, s_obAt, s_fput, s_fputK1, s_fputK2, s_faug, s_faugK1, s_faugK2, s_faugK3, s_meth, s_methK1, s_methK2, s_make, s_makeK, s_makeK2, s_dead, s_tryN, noX_nx, noX_rt, noX_bk, noX_ct, mSplit, opMulS, s_enum, s_enumK, s_sortBy, s_sortByK, look_nil, look_cons, putFD_nil, putFD_cons, List.append_nil, to_nx, to_rt, to_bk, to_ct, to_ex, lp_nx, lp_rt, lp_bk, lp_ct, lp_ex, ret_nx, ret_rt, ret_ex, s_exK, s_bif1, s_bif0, s_optB, s_optE, s_nxD, s_ifK, s_asgN, s_asgT, s_asgL, b_nil, b_nm, b_tp, s_next, s_seq, s_drop, s_ret, s_retN, s_ifS, s_asg, s_brk, s_cont, s_put, s_put1, s_put2, s_put3, s_aug, s_augV, s_augK, s_augK2, s_bin, s_bin1, s_bin2, s_var, s_varK, s_C, s_cb, s_cbK, s_call, s_callK, s_m, s_m1, s_m2, s_nil, s_cons, s_cons1, s_cons2, s_tup, s_tupK, s_lst, s_lstK, s_truth, s_trK, s_tK, s_eK, s_cK, s_and, s_andK, s_or, s_orK, s_not, s_notK, s_ife, s_ifeK, s_andV, s_orV, s_andvK, s_orvK, s_andvK2, s_orvK2, s_notV, s_notvK, s_blK, s_neg, s_negK, s_sl, s_sl1, s_sl2, s_sl3, s_noPart, s_part, s_partK, s_rev, s_revK, s_for, s_forK, s_lc, s_lcK, s_yes, s_walk, s_walkT, s_walkS, s_walkA, s_walkL, s_walkR, s_rng1, s_rng2, s_rng1K, s_rng2K, s_callL, s_callLK, s_callLO, s_clK, s_raise, r_val, r_new, r_put, s_whK, s_lcY, s_lcT, s_lcE, s_cg, s_cgK, s_rng3, s_rng3K, s_lcB, s_lcS, wipeD, Pat.bind, seqOf, rg, s_dict0, s_sortSet, s_sortSetK, q_is_tuple, q_is_str, q_is_int, q_is_bool, q_is_list, q_isR, ofS_inj, String.reduceEq, q_eqI, q_neI, q_eqS, q_neS, decide_true, decide_false, Int.reduceEq, reduceCtorEq, i_NoneType_tuple, i_NoneType_str, i_NoneType_int, i_NoneType_bool, i_NoneType_list, i_bool_tuple, i_bool_str, i_bool_int, i_bool_bool, i_bool_list, i_int_tuple, i_int_str, i_int_int, i_int_bool, i_int_list, i_str_tuple, i_str_str, i_str_int, i_str_bool, i_str_list, i_tuple_tuple, i_tuple_str, i_tuple_int, i_tuple_bool, i_tuple_list, i_list_tuple, i_list_str, i_list_int, i_list_bool, i_list_list, i_dict_tuple, i_dict_str, i_dict_int, i_dict_bool, i_dict_list, tyN, startD, mupd_same, mupd_ne, ne_eq, not_false_eq_true, List.map_cons, List.map_nil, List.length_cons, List.length_nil, List.replicate_succ, List.replicate_zero, Nat.zero_add, Nat.reduceAdd, Nat.reduceSub, Int.cast_ofNat_Int, List.cons_append, List.nil_append, List.getElem?_cons_zero, List.getElem?_cons_succ, List.set_cons_zero, List.set_cons_succ, opIx, atI_cons, ixN, opPut, opAdd, opSub, opMul, opFdiv, opMod, opPow, opLt, opLe, opGt, opGe, opIs, opIsNot, D.isNon, truth, bLen, bAbs, bInt, bTuple, bList, isTy, mAppend, mExtend, mPop, Int.reduceLE, Int.reduceLT, Int.reduceToNat, Int.reduceNeg, Int.reduceNe, Option.bind_some, if_true, if_false, ite_true, ite_false, true_and, and_true, Bool.not_true, Bool.not_false, opIadd, Nat.reduceLT, Nat.reduceLeDiff, Int.ofNat_lt, s_dpNil, s_dpCons, s_dpK1, s_dpK2, s_dpK3, s_disp, s_dispK, s_optKV, kvOf, s_dc, s_dcK, s_keys, s_lockK, s_sortIt, mGet, mDPop, dgetR, bDictC, bTupC, opEqD, opNeD, eqDR, D.key, merge_one, optKV, id, opEqL, opNeL, eqLR, $ls,*])
open TL (joinL)
abbrev txD (l : List Nat) : D := .str (S l)
mutual
def stT : Stm → List (List Nat)
  | .sim s => [spc (s.word :: s.tail)]
  | .whl s a b body => spc [wWhile, a, opT s, b] :: (bdT body ++ [cpsL wEnd])
  | .ite s a b f g => spc [wIf, a, opT s, b] :: (bdT f ++ ((if g.isEmpty = true then [] else cpsL wElse :: bdT g) ++ [cpsL wEnd]))
def bdT : List Stm → List (List Nat)
  | [] => []
  | x :: r => (stT x).map ([32, 32] ++ ·) ++ bdT r
end
mutual
theorem stT_len : ∀ x : Stm, (stT x).length = (linesS x).length
  | .sim s => by rw [stT, linesS]; rfl
  | .whl s a b body => by rw [stT, linesS]; simp [bdT_len body]
  | .ite s a b f g => by
    rw [stT, linesS]
    cases g with
    | nil => simp [bdT_len f]
    | cons y r => simp [bdT_len f, bdT_len (y :: r)]
theorem bdT_len : ∀ b : List Stm, (bdT b).length = (linesB b).length
  | [] => by rw [bdT, linesB]; rfl
  | x :: r => by rw [bdT, linesB]; simp [stT_len x, bdT_len r]
end
theorem line_len {l : List Str} (h : LineTok l) : (spc l).length ≤ 1020 := by
  obtain ⟨_, h2, h3, _⟩ := h
  have := spc_len l fun t ht => tok_len (h3 _ (List.mem_map_of_mem ht))
  rw [List.length_map] at h2
  omega
theorem spc_end : spc [wEnd] = cpsL wEnd ∧ spc [wElse] = cpsL wElse := ⟨by simp [spc, spcR], by simp [spc, spcR]⟩
mutual
theorem stT_max : ∀ (d : Nat) (x : Stm), OkS d x → ∀ l ∈ stT x, l.length ≤ 1020 + 2 * d
  | d, .sim s, h => by
    unfold OkS at h
    unfold stT
    intro l hl
    rw [List.mem_singleton.mp hl]
    have := line_len (sim_line h)
    omega
  | d, .whl s a b body, h => by
    unfold OkS at h
    obtain ⟨ha, hb, h0, hbo, hl⟩ := h
    have hB := bdT_max (d - 1) body hbo
    unfold stT
    intro l hl
    simp only [List.mem_cons, List.mem_append, List.not_mem_nil, or_false] at hl
    rcases hl with rfl | hl | rfl
    · have := line_len (kwOpen (k := wWhile) s (by simp) ha hb)
      omega
    · have := hB l hl
      omega
    · have := line_len kwEnd
      rw [spc_end.1] at this
      omega
  | d, .ite s a b f g, h => by
    unfold OkS at h
    obtain ⟨ha, hb, h0, hf, hfl, hg, hgl⟩ := h
    have h1 := bdT_max (d - 1) f hf
    have h2 := bdT_max (d - 1) g hg
    unfold stT
    intro l hl
    simp only [List.mem_cons, List.mem_append, List.not_mem_nil, or_false] at hl
    rcases hl with rfl | hl | hl | rfl
    · have := line_len (kwOpen (k := wIf) s (by simp) ha hb)
      omega
    · have := h1 l hl
      omega
    · split at hl
      · cases hl
      · rcases List.mem_cons.mp hl with rfl | hl
        · have := line_len kwElse
          rw [spc_end.2] at this
          omega
        · have := h2 l hl
          omega
    · have := line_len kwEnd
      rw [spc_end.1] at this
      omega
theorem bdT_max : ∀ (d : Nat) (b : List Stm), OkB d b → ∀ l ∈ bdT b, l.length ≤ 1022 + 2 * d
  | d, [], _ => by unfold bdT; intro l hl; cases hl
  | d, x :: r, h => by
    unfold OkB at h
    have h1 := stT_max d x h.1
    have h2 := bdT_max d r h.2
    unfold bdT
    intro l hl
    rcases List.mem_append.mp hl with hl | hl
    · obtain ⟨z, hz, rfl⟩ := List.mem_map.mp hl
      have := h1 z hz
      simp only [List.length_append, List.length_cons, List.length_nil]
      omega
    · exact h2 l hl
end
theorem bdT_app : ∀ (a b : List Stm), bdT (a ++ b) = bdT a ++ bdT b
  | [], b => by simp [bdT]
  | x :: r, b => by
    show bdT (x :: (r ++ b)) = _
    rw [bdT, bdT_app r b, bdT, List.append_assoc]
theorem bdT_few {n : Nat} {b : List Stm} (h : OkB n b) (hl : b.length ≤ 3) (hn : n ≤ 4) : (bdT b).length ≤ 200000 := by
  have hll := linesB_len n b h
  have h9 : 9 ^ (n + 1) ≤ 59049 := Nat.le_trans (Nat.pow_le_pow_right (by decide) (show n + 1 ≤ 5 by omega)) (by decide)
  rw [bdT_len]
  exact Nat.le_trans hll (Nat.le_trans (Nat.mul_le_mul hl h9) (by decide))
def sp_bdN (n : Nat) : DSp := fun ds M Q E => ∃ (b : List Stm), ds = [.tup (encB b)] ∧ OkB n b ∧ b.length ≤ 3 ∧ n ≤ 4 ∧ ∀ f M', M f = none → M' f = some (.lst ((bdT b).map txD)) → Keep [] M M' → Q (.ob f) M'
def sp_bd : Nat → DSp
  | 0 => fun _ _ _ _ => False
  | n + 1 => sp_bdN n
theorem mono_bd : ∀ n, MonoSp (sp_bd n)
  | 0 => by
    rintro ds M Q Q' E E' hQ hE h
    exact h
  | n + 1 => by
    rintro ds M Q Q' E E' hQ hE ⟨b, h1, h2, h3, h4, h⟩
    exact ⟨b, h1, h2, h3, h4, fun f M' z1 z2 z3 => hQ _ _ (h f M' z1 z2 z3)⟩
def sp_sl (n : Nat) : DSp := fun ds M Q E => ∃ (x : Stm), ds = [x.enc] ∧ OkS n x ∧ n ≤ 4 ∧ ∀ f M', M f = none → M' f = some (.lst ((stT x).map txD)) → Keep [] M M' → Q (.ob f) M'
theorem mono_sl {n : Nat} : MonoSp (sp_sl n) := by
  rintro ds M Q Q' E E' hQ hE ⟨x, h1, h2, h3, h⟩
  exact ⟨x, h1, h2, h3, fun f M' z1 z2 z3 => hQ _ _ (h f M' z1 z2 z3)⟩
theorem c_while : cpsL (Str.ofString "while ") = cpsL wWhile ++ [32] := by decide +kernel
theorem c_if : cpsL (Str.ofString "if ") = cpsL wIf ++ [32] := by decide +kernel
theorem open_text {k a b : Str} {s : Bool} (hk : WordT (cpsL k)) (ha : PlaceOk a) : spc [k, a, opT s, b] = cpsL k ++ ([32] ++ spc [a, opT s, b]) := by
  show cpsL k ++ (glue k a ++ (cpsL a ++ spcR a [opT s, b])) = _
  rw [glue_np hk.np.1 ha.tok.np]
  rfl
theorem fn_bd_step (S0 : Src K mg "body_lines" s_body_lines ["body"]) (G : GF K mg C_Cursor C_Block C_ProcReader C_Reader v_proc_name) (n : Nat) (F_statement_lines : Fn P w K mg base (2 + 2 * n + 1) "statement_lines" (sp_sl n) []) : Fn P w K mg base (2 + 2 * n + 2) "body_lines" (sp_bd (n + 1)) [] := by
  refine S0.fn (mono_bd (n + 1)) fun g fd F => fn_ok F sc_body_lines (fun ds M Q E h => by obtain ⟨b, rfl, _⟩ := h; rfl) ⟨_, fun cdv A outer s H E hr => have hu := hr.u200
    (xss_cons (xs_set 1 sc_body_lines.nd (xe_lst (n := 0) xa_nil))
 (xss_cons (xs_for (p := .nm 2) bx_passes rfl (xi_walk (xe_var 0)) (xg_name 2 sc_body_lines.nd)
 (xss_one (xs_expr (xe_bm PySem.F.plainAttrs_list PySem.F.slot_list_extend PySem.F.type_list_extend m_extend (xe_var 1) (xa_cons (xe_lc (own := [("line", 3)]) (p := .nm 3) rfl sc_body_lines.nd (xi_walk (xe_call F_statement_lines (hr.mono (by first | decide | omega)) bx_takes (by rfl) (xa_cons (xe_var 2) xa_nil))) (blkOk_by (by first | (show blkC ["body", "found", "statement", "line"] (defScope s_body_lines) _ _ = true; decide +kernel) | kernel_rfl | rfl)) (fun _ _ _ _ _ => (xg_name 3 sc_body_lines.nd)) (fun _ _ _ _ _ => xts_nil) (fun _ _ _ _ _ => (xe_bin x_add xe_str (xe_var 3)))) xa_nil)))))
 (xss_one (xs_ret (xe_var 1))))), fun ds M Q E h => ?_⟩
  obtain ⟨b, rfl, hok, hbl, hn4, h⟩ := h
  have sz : (16777216 : Nat) = sizeLine := sizeLine_eq.symm
  have hfew := bdT_few hok hbl hn4
  have e2 : cpsL (Str.ofString "  ") = [32, 32] := by decide +kernel
  simp! []
  intro f hf
  rw [encB_map]
  refine loop_inv Stm.enc (fun rest e M' => ∃ (done : List Stm) (d2 : Option D), done ++ rest = b ∧ e = [some (.tup (b.map Stm.enc)), some (.ob f), d2, none] ∧ M' f = some (.lst ((bdT done).map txD)) ∧ Keep [] M M') (fun _ _ _ _ => trivial) ?_ ?_ b _ _ ⟨[], none, rfl, by simp, by simp [mupd_same, bdT], Keep.new hf⟩
  · rintro x rest e M1 N ⟨done, d2, hd, rfl, hff, k1⟩ hN
    have hx : OkS n x := hok.mem (by rw [← hd]; simp)
    have hsum : (bdT done).length + (stT x).length ≤ 200000 := by
      rw [← hd, bdT_app, bdT, List.length_append, List.length_append, List.length_map] at hfew
      omega
    have hmax := stT_max n x hx
    simp! [hff]
    refine ⟨x, rfl, hx, hn4, fun l M2 hl hl2 k2 => ?_⟩
    have f2 := k2 _ _ hff (by simp)
    simp! [hl2]
    intro l3 hl3
    refine lc_pure txD (fun l => txD ([32, 32] ++ l)) (fun _ => true) (stT x) hl3 (fun M' k => .inl (k _ _ hl2 (by simp))) (by rw [← sz]; omega) (fun t ht M3 N3 sk k3 hy _ => ?_) fun M3 k3 e3 => ?_
    · have := hmax t ht
      simp! [cat_x, cpsL_S, len_x, e2]
      refine ⟨by rw [← sz]; omega, ?_⟩
      exact hy rfl _ Keep.refl
    rw [show (stT x).filter (fun _ => true) = stT x from List.filter_eq_self.mpr (by simp)] at e3
    have f3 := k3 _ _ f2 (by simp)
    simp! [f3, e3, List.length_map]
    refine ⟨by rw [← sz]; omega, ?_⟩
    refine hN _ _ ⟨done ++ [x], _, by rw [← hd]; simp, rfl, ?_, ((k1.trans k2).trans k3).putN hf⟩
    rw [mupd_same, bdT_app]
    simp [bdT, List.map_append, List.map_map, Function.comp_def]
  · rintro e M1 ⟨done, d2, hd, rfl, hff, k1⟩
    rw [List.append_nil] at hd
    subst hd
    try simp! []
    exact h f _ hf hff k1
theorem fn_sl (S0 : Src K mg "statement_lines" s_statement_lines ["statement"]) (G : GF K mg C_Cursor C_Block C_ProcReader C_Reader v_proc_name) (F_test_text : Fn P w K mg base 1 "test_text" sp_ttext []) (F_simple_text : Fn P w K mg base 1 "simple_text" sp_stext []) (n : Nat) (F_body_lines : Fn P w K mg base (2 + 2 * n) "body_lines" (sp_bd n) []) : Fn P w K mg base (2 + 2 * n + 1) "statement_lines" (sp_sl n) [] := by
  refine S0.fn mono_sl fun g fd F => fn_ok F sc_statement_lines (fun ds M Q E h => by obtain ⟨x, rfl, _⟩ := h; rfl) ⟨_, fun cdv A outer s H E hr => have hu := hr.u200
    (xss_cons (xs_if (xt_cmp (x_eq hu) (xe_ix hu (xe_var 0) xe_int) xe_str (nomark _) bl_eq)
 (xss_one (xs_ret (xe_bin x_add (xe_bin x_add (xe_lst (n := 1) (xa_cons (xe_bin x_add xe_str (xe_call F_test_text (hr.mono (by first | decide | omega)) bx_takes (by rfl) (xa_cons (xe_ix hu (xe_var 0) xe_int) xa_nil))) xa_nil)) (xe_call F_body_lines (hr.mono (by first | decide | omega)) bx_takes (by rfl) (xa_cons (xe_ix hu (xe_var 0) xe_int) xa_nil))) (xe_lst (n := 1) (xa_cons xe_str xa_nil)))))
 xss_nil)
 (xss_cons (xs_if (xt_cmp (x_eq hu) (xe_ix hu (xe_var 0) xe_int) xe_str (nomark _) bl_eq)
 (xss_cons (xs_set 1 sc_statement_lines.nd (xe_bin x_add (xe_lst (n := 1) (xa_cons (xe_bin x_add xe_str (xe_call F_test_text (hr.mono (by first | decide | omega)) bx_takes (by rfl) (xa_cons (xe_ix hu (xe_var 0) xe_int) xa_nil))) xa_nil)) (xe_call F_body_lines (hr.mono (by first | decide | omega)) bx_takes (by rfl) (xa_cons (xe_ix hu (xe_var 0) xe_int) xa_nil))))
 (xss_cons (xs_if (xt_cmp (x_ne hu) (xe_ix hu (xe_var 0) xe_int) (xe_tup (n := 0) xa_nil) (nomark _) bl_ne)
 (xss_one (xs_set 1 sc_statement_lines.nd (xe_bin x_add (xe_bin x_add (xe_var 1) (xe_lst (n := 1) (xa_cons xe_str xa_nil))) (xe_call F_body_lines (hr.mono (by first | decide | omega)) bx_takes (by rfl) (xa_cons (xe_ix hu (xe_var 0) xe_int) xa_nil)))))
 xss_nil)
 (xss_one (xs_ret (xe_bin x_add (xe_var 1) (xe_lst (n := 1) (xa_cons xe_str xa_nil)))))))
 xss_nil)
 (xss_one (xs_ret (xe_lst (n := 1) (xa_cons (xe_call F_simple_text (hr.mono (by first | decide | omega)) bx_takes (by rfl) (xa_cons (xe_var 0) xa_nil)) xa_nil)))))), fun ds M Q E h => ?_⟩
  obtain ⟨x, rfl, hx, hn4, h⟩ := h
  have sz : (16777216 : Nat) = sizeLine := sizeLine_eq.symm
  have v1 : (cpsL wWhile).length = 5 := by decide +kernel
  have v2 : (cpsL wIf).length = 2 := by decide +kernel
  cases x with
  | sim s =>
    have hs : s.Ok := by unfold OkS at hx; exact hx
    have e0 : (Stm.sim s).enc = s.enc := by rw [Stm.enc]
    have el : stT (.sim s) = [spc (s.word :: s.tail)] := by rw [stT]
    rw [el] at h
    have hk : ∃ k r, s.enc = .tup (.str k :: r) ∧ k ≠ wWhile ∧ k ≠ wIf := by
      cases s with
      | copy x y => exact ⟨_, _, rfl, by decide +kernel, by decide +kernel⟩
      | read x y => exact ⟨_, _, rfl, by decide +kernel, by decide +kernel⟩
      | link x y => exact ⟨_, _, rfl, by decide +kernel, by decide +kernel⟩
      | new x => exact ⟨_, _, rfl, by decide +kernel, by decide +kernel⟩
      | free x => exact ⟨_, _, rfl, by decide +kernel, by decide +kernel⟩
      | call f as => exact ⟨_, _, rfl, by decide +kernel, by decide +kernel⟩
    obtain ⟨k, r, ek, k1, k2⟩ := hk
    have k1' : ¬ k = wWhile := k1
    have k2' : ¬ k = wIf := k2
    rw [e0]
    have i0 : ((0 : Int) < ((r.length + 1 : Nat) : Int)) = True := by simp
    simp! [ek, i0, k1', k2']
    refine ⟨s, by rw [ek], hs, ?_⟩
    simp! []
    intro l hl
    exact h l _ hl (by rw [mupd_same]; rfl) (Keep.new hl)
  | whl s a b bd =>
    unfold OkS at hx
    obtain ⟨ha, hb, h0, hbo, hbdl⟩ := hx
    obtain ⟨n, rfl⟩ : ∃ m, n = m + 1 := ⟨n - 1, by omega⟩
    simp only [Nat.add_sub_cancel] at hbo
    have e0 : (Stm.whl s a b bd).enc = .tup [.str wWhile, testD s a b, .tup (encB bd)] := by rw [Stm.enc]
    have el : stT (.whl s a b bd) = spc [wWhile, a, opT s, b] :: (bdT bd ++ [cpsL wEnd]) := by rw [stT]
    have ww : WordT (cpsL wWhile) := kw_tkn _ (by simp)
    rw [el, open_text ww ha] at h
    rw [e0]
    have hfew := bdT_few hbo hbdl (by omega)
    have hsl : (spc [a, opT s, b]).length ≤ 51 := spc_len [a, opT s, b] fun t ht => by
      simp only [List.mem_cons, List.not_mem_nil, or_false] at ht
      rcases ht with rfl | rfl | rfl
      · exact ha.tok.2.2
      · exact tok_len (opT_tkn s).1
      · exact hb.tok.2.2
    simp! []
    refine ⟨s, a, b, rfl, ha, hb, ?_⟩
    simp! [cat_x, cpsL_S, len_x, c_while]
    refine ⟨by rw [← sz]; simp only [List.length_append, List.length_cons, List.length_nil]; omega, fun l1 h1 => ?_⟩
    have k1 : Keep [] M (mupd M l1 (.lst [txD (cpsL wWhile ++ [32] ++ spc [a, opT s, b])])) := Keep.new h1
    have a1 : (mupd M l1 (.lst [txD (cpsL wWhile ++ [32] ++ spc [a, opT s, b])])) l1 = _ := mupd_same
    generalize mupd M l1 _ = M1 at k1 a1 ⊢
    refine ⟨bd, rfl, hbo, hbdl, by omega, fun f M2 hf hf2 k2 => ?_⟩
    have a2 := k2 _ _ a1 (by simp)
    have k12 := k1.trans k2
    simp! [a2, hf2, List.length_map]
    refine ⟨by rw [← sz]; omega, fun l3 h3 => ?_⟩
    have a3 : (mupd M2 l3 (.lst (txD (cpsL wWhile ++ [32] ++ spc [a, opT s, b]) :: (bdT bd).map txD))) l3 = _ := mupd_same
    have k3 := k12.trans (Keep.new (o := .lst (txD (cpsL wWhile ++ [32] ++ spc [a, opT s, b]) :: (bdT bd).map txD)) h3)
    generalize mupd M2 l3 _ = M3 at a3 k3 ⊢
    try simp! []
    intro l4 h4
    have a4 : (mupd M3 l4 (.lst [.str wEnd])) l4 = _ := mupd_same
    have b4 := put_at (o' := .lst [.str wEnd]) a3 h4
    have k4 := k3.trans (Keep.new (o := .lst [.str wEnd]) h4)
    generalize mupd M3 l4 _ = M4 at a4 b4 k4 ⊢
    simp! [a4, b4, List.length_map]
    refine ⟨by rw [← sz]; (try simp only [List.length_cons, List.length_append, List.length_map]); omega, fun l5 h5 => ?_⟩
    refine h l5 _ (Keep.back k4 h5 (by simp)) ?_ (k4.trans (Keep.new h5))
    rw [mupd_same]
    simp [txD, S_cps]
  | ite s a b gf gg =>
    unfold OkS at hx
    obtain ⟨ha, hb, h0, hbo, hbdl, hgo, hgl⟩ := hx
    obtain ⟨n, rfl⟩ : ∃ m, n = m + 1 := ⟨n - 1, by omega⟩
    simp only [Nat.add_sub_cancel] at hbo hgo
    have e0 : (Stm.ite s a b gf gg).enc = .tup [.str wIf, testD s a b, .tup (encB gf), .tup (encB gg)] := by rw [Stm.enc]
    have el : stT (.ite s a b gf gg) = spc [wIf, a, opT s, b] :: (bdT gf ++ ((if gg.isEmpty = true then [] else cpsL wElse :: bdT gg) ++ [cpsL wEnd])) := by rw [stT]
    have ww : WordT (cpsL wIf) := kw_tkn _ (by simp)
    rw [el, open_text ww ha] at h
    rw [e0]
    have hfew := bdT_few hbo hbdl (by omega)
    have hfew2 := bdT_few hgo hgl (by omega)
    have hge : (encB gg).isEmpty = gg.isEmpty := by rw [encB_map]; cases gg <;> rfl
    have hnn : ∀ (M : Mem) (Q : DK), (opNe (.tup (encB gg)) (.tup []) M).run M Q = Q (.bl (!gg.isEmpty)) M := fun M Q => by rw [ne_nil (stmB_dat _ gg hgo).1, hge]
    have hsl : (spc [a, opT s, b]).length ≤ 51 := spc_len [a, opT s, b] fun t ht => by
      simp only [List.mem_cons, List.not_mem_nil, or_false] at ht
      rcases ht with rfl | rfl | rfl
      · exact ha.tok.2.2
      · exact tok_len (opT_tkn s).1
      · exact hb.tok.2.2
    have kif : ¬ wIf = wWhile := by decide +kernel
    simp! [kif]
    refine ⟨s, a, b, rfl, ha, hb, ?_⟩
    simp! [cat_x, cpsL_S, len_x, c_if]
    refine ⟨by rw [← sz]; simp only [List.length_append, List.length_cons, List.length_nil]; omega, fun l1 h1 => ?_⟩
    have k1 : Keep [] M (mupd M l1 (.lst [txD (cpsL wIf ++ [32] ++ spc [a, opT s, b])])) := Keep.new h1
    have a1 : (mupd M l1 (.lst [txD (cpsL wIf ++ [32] ++ spc [a, opT s, b])])) l1 = _ := mupd_same
    generalize mupd M l1 _ = M1 at k1 a1 ⊢
    refine ⟨gf, rfl, hbo, hbdl, by omega, fun f M2 hf hf2 k2 => ?_⟩
    have a2 := k2 _ _ a1 (by simp)
    have k12 := k1.trans k2
    simp! [a2, hf2, List.length_map]
    refine ⟨by rw [← sz]; omega, fun l3 h3 => ?_⟩
    have a3 : (mupd M2 l3 (.lst (txD (cpsL wIf ++ [32] ++ spc [a, opT s, b]) :: (bdT gf).map txD))) l3 = _ := mupd_same
    have k3 := k12.trans (Keep.new (o := .lst (txD (cpsL wIf ++ [32] ++ spc [a, opT s, b]) :: (bdT gf).map txD)) h3)
    generalize mupd M2 l3 _ = M3 at a3 k3 ⊢
    cases hgg : gg.isEmpty with
    | true =>
      rw [hgg] at h
      simp only [if_true, List.nil_append] at h
      simp! [hnn, hgg]
      intro l4 h4
      have a4 : (mupd M3 l4 (.lst [.str wEnd])) l4 = _ := mupd_same
      have b4 := put_at (o' := .lst [.str wEnd]) a3 h4
      have k4 := k3.trans (Keep.new (o := .lst [.str wEnd]) h4)
      generalize mupd M3 l4 _ = M4 at a4 b4 k4 ⊢
      simp! [a4, b4, List.length_map]
      refine ⟨by rw [← sz]; (try simp only [List.length_cons, List.length_append, List.length_map]); omega, fun l5 h5 => ?_⟩
      refine h l5 _ (Keep.back k4 h5 (by simp)) ?_ (k4.trans (Keep.new h5))
      rw [mupd_same]
      simp [txD, S_cps]
    | false =>
      rw [hgg] at h
      simp only [Bool.false_eq_true, if_false] at h
      simp! [hnn, hgg]
      intro m1 g1
      have b1 := put_at (o' := .lst [.str wElse]) a3 g1
      have c1 : (mupd M3 m1 (.lst [.str wElse])) m1 = _ := mupd_same
      have j1 := k3.trans (Keep.new (o := .lst [.str wElse]) g1)
      generalize mupd M3 m1 _ = N1 at b1 c1 j1 ⊢
      simp! [b1, c1, List.length_map]
      refine ⟨by rw [← sz]; omega, fun m2 g2 => ?_⟩
      have c2 : (mupd N1 m2 (.lst (txD (cpsL wIf ++ [32] ++ spc [a, opT s, b]) :: ((bdT gf).map txD ++ [.str wElse])))) m2 = _ := mupd_same
      have j2 := j1.trans (Keep.new (o := .lst (txD (cpsL wIf ++ [32] ++ spc [a, opT s, b]) :: ((bdT gf).map txD ++ [.str wElse]))) g2)
      generalize mupd N1 m2 _ = N2 at c2 j2 ⊢
      refine ⟨gg, rfl, hgo, hgl, by omega, fun f' N3 hf' hf3 k3' => ?_⟩
      have c3 := k3' _ _ c2 (by simp)
      have j3 := j2.trans k3'
      simp! [c3, hf3, List.length_map]
      refine ⟨by rw [← sz]; (try simp only [List.length_cons, List.length_append, List.length_map, List.length_nil]); omega, fun m4 g4 => ?_⟩
      have c4 : (mupd N3 m4 (.lst (txD (cpsL wIf ++ [32] ++ spc [a, opT s, b]) :: ((bdT gf).map txD ++ [.str wElse] ++ (bdT gg).map txD)))) m4 = _ := mupd_same
      have j4 := j3.trans (Keep.new (o := .lst (txD (cpsL wIf ++ [32] ++ spc [a, opT s, b]) :: ((bdT gf).map txD ++ [.str wElse] ++ (bdT gg).map txD))) g4)
      generalize mupd N3 m4 _ = N4 at c4 j4 ⊢
      try simp! []
      intro l4 h4
      have a4 : (mupd N4 l4 (.lst [.str wEnd])) l4 = _ := mupd_same
      have b4 := put_at (o' := .lst [.str wEnd]) c4 h4
      have k4 := j4.trans (Keep.new (o := .lst [.str wEnd]) h4)
      generalize mupd N4 l4 _ = M4 at a4 b4 k4 ⊢
      simp! [a4, b4, List.length_map]
      refine ⟨by rw [← sz]; (try simp only [List.length_cons, List.length_append, List.length_map, List.length_nil]); omega, fun l5 h5 => ?_⟩
      refine h l5 _ (Keep.back k4 h5 (by simp)) ?_ (k4.trans (Keep.new h5))
      rw [mupd_same]
      simp [txD, S_cps]
theorem fn_bd (S0 : Src K mg "body_lines" s_body_lines ["body"]) (S1 : Src K mg "statement_lines" s_statement_lines ["statement"]) (G : GF K mg C_Cursor C_Block C_ProcReader C_Reader v_proc_name) (F_test_text : Fn P w K mg base 1 "test_text" sp_ttext []) (F_simple_text : Fn P w K mg base 1 "simple_text" sp_stext []) : ∀ n, Fn P w K mg base (2 + 2 * n) "body_lines" (sp_bd n) []
  | 0 => S0.fn (mono_bd 0) fun f fd F => fn_none fun ds M Q E h => h
  | n + 1 => fn_bd_step S0 G n (fn_sl S1 G F_test_text F_simple_text n (fn_bd S0 S1 G F_test_text F_simple_text n))
end K02

set_option maxHeartbeats 4000000
namespace K02
open PySem PySem.Spec PyProof.Rows L2 PL SX
variable {P : Program} {w : World} {K : PySem.W.Frag} {mg : Str → Option Value} {base : Heap} {C_Cursor C_Block C_ProcReader C_Reader v_proc_name : Addr}
local macro_rules | `(tactic| simp! [$ls,*]) => `(tactic| simp only [s_fld, s_fldK, s_insAt, s_optD, s_obAt, s_fput, s_fputK1, s_fputK2, s_faug, s_faugK1, s_faugK2, s_faugK3, s_meth, s_methK1, s_methK2, s_make, s_makeK, s_makeK2, s_dead, s_tryN, noX_nx, noX_rt, noX_bk, noX_ct, mSplit, opMulS, s_enum, s_enumK, s_sortBy, s_sortByK, look_nil, look_cons, putFD_nil, putFD_cons, List.append_nil, to_nx, to_rt, to_bk, to_ct, to_ex, lp_nx, lp_rt, lp_bk, lp_ct, lp_ex, ret_nx, ret_rt, ret_ex, s_exK, s_bif1, s_bif0, s_optB, s_optE, s_nxD, s_ifK, s_asgN, s_asgT, s_asgL, b_nil, b_nm, b_tp, s_next, s_seq, s_drop, s_ret, s_retN, s_ifS, s_asg, s_brk, s_cont, s_put, s_put1, s_put2, s_put3, s_aug, s_augV, s_augK, s_augK2, s_bin, s_bin1, s_bin2, s_var, s_varK, s_C, s_cb, s_cbK, s_call, s_callK, s_m, s_m1, s_m2, s_nil, s_cons, s_cons1, s_cons2, s_tup, s_tupK, s_lst, s_lstK, s_truth, s_trK, s_tK, s_eK, s_cK, s_and, s_andK, s_or, s_orK, s_not, s_notK, s_ife, s_ifeK, s_andV, s_orV, s_andvK, s_orvK, s_andvK2, s_orvK2, s_notV, s_notvK, s_blK, s_neg, s_negK, s_sl, s_sl1, s_sl2, s_sl3, s_noPart, s_part, s_partK, s_rev, s_revK, s_for, s_forK, s_lc, s_lcK, s_yes, s_walk, s_walkT, s_walkS, s_walkA, s_walkL, s_walkR, s_rng1, s_rng2, s_rng1K, s_rng2K, s_callL, s_callLK, s_callLO, s_clK, s_raise, r_val, r_new, r_put, s_whK, s_lcY, s_lcT, s_lcE, s_cg, s_cgK, s_rng3, s_rng3K, s_lcB, s_lcS, wipeD, Pat.bind, seqOf, rg, s_dict0, s_sortSet, s_sortSetK, q_is_tuple, q_is_str, q_is_int, q_is_bool, q_is_list, q_isR, ofS_inj, String.reduceEq, q_eqI, q_neI, q_eqS, q_neS, decide_true, decide_false, Int.reduceEq, reduceCtorEq, i_NoneType_tuple, i_NoneType_str, i_NoneType_int, i_NoneType_bool, i_NoneType_list, i_bool_tuple, i_bool_str, i_bool_int, i_bool_bool, i_bool_list, i_int_tuple, i_int_str, i_int_int, i_int_bool, i_int_list, i_str_tuple, i_str_str, i_str_int, i_str_bool, i_str_list, i_tuple_tuple, i_tuple_str, i_tuple_int, i_tuple_bool, i_tuple_list, i_list_tuple, i_list_str, i_list_int, i_list_bool, i_list_list, i_dict_tuple, i_dict_str, i_dict_int, i_dict_bool, i_dict_list, tyN, startD, mupd_same, mupd_ne, ne_eq, not_false_eq_true, List.map_cons, List.map_nil, List.length_cons, List.length_nil, List.replicate_succ, List.replicate_zero, Nat.zero_add, Nat.reduceAdd, Nat.reduceSub, Int.cast_ofNat_Int, List.cons_append, List.nil_append, List.getElem?_cons_zero, List.getElem?_cons_succ, List.set_cons_zero, List.set_cons_succ, opIx, atI_cons, ixN, opPut, opAdd, opSub, opMul, opFdiv, opMod, opPow, opLt, opLe, opGt, opGe, opIs, opIsNot, D.isNon, truth, bLen, bAbs, bInt, bTuple, bList, isTy, mAppend, mExtend, mPop, Int.reduceLE, Int.reduceLT, Int.reduceToNat, Int.reduceNeg, Int.reduceNe, Option.bind_some, if_true, if_false, ite_true, ite_false, true_and, and_true, Bool.not_true, Bool.not_false, opIadd, Nat.reduceLT, Nat.reduceLeDiff, Int.ofNat_lt, s_dpNil, s_dpCons, s_dpK1, s_dpK2, s_dpK3, s_disp, s_dispK, s_optKV, kvOf, s_dc, s_dcK, s_keys, s_lockK, s_sortIt, mGet, mDPop, dgetR, bDictC, bTupC, opEqD, opNeD, eqDR, D.key, merge_one, optKV, id, opEqL, opNeL, eqLR, $ls,*])
open TL (joinL)
theorem picD_dat {ps : List Part} (hl : ps.length ≤ 1000) : (picD ps).dat = true ∧ (picD ps).dp ≤ 3 := by
  have hk : ∀ k : Str, (D.tup (kindL k ps)).dat = true ∧ (D.tup (kindL k ps)).dp ≤ 2 := fun k => by
    have h : ∀ d ∈ kindL k ps, d.dat = true ∧ d.dp ≤ 1 := fun d hd => by
      obtain ⟨p, _, rfl⟩ := List.mem_map.mp hd
      exact strs_dat (ss := [p.2.1, p.2.2]) (by simp)
    refine ⟨dat_tup ?_ fun d hd => (h d hd).1, dp_tup fun d hd => (h d hd).2⟩
    have := List.length_filter_le (fun p : Part => decide (p.1 = k)) ps
    unfold kindL
    rw [List.length_map]
    omega
  have h : ∀ d ∈ [D.tup (kindL kSame ps), .tup (kindL kUnl ps), .tup (kindL kCell ps), .tup (kindL kChn ps)], d.dat = true ∧ d.dp ≤ 2 := fun d hd => by
    simp only [List.mem_cons, List.not_mem_nil, or_false] at hd
    rcases hd with rfl | rfl | rfl | rfl <;> exact hk _
  exact ⟨dat_tup (by simp) fun d hd => (h d hd).1, dp_tup fun d hd => (h d hd).2⟩
/-! is the picture empty -/
theorem pic_empty (ps : List Part) : picD ps = emptyD ↔ norm ps = [] := by
  constructor
  · intro e
    rw [picD_tup] at e
    unfold emptyD at e
    simp only [List.map_cons, List.map_nil, D.tup.injEq, List.cons.injEq, List.map_eq_nil_iff, and_true] at e
    obtain ⟨e1, e2, e3, e4⟩ := e
    simp only [norm, List.flatMap_cons, List.flatMap_nil, e1, e2, e3, e4, List.append_nil]
  · intro e
    rw [← picD_norm, e]
    rfl
theorem ne_dat {d e : D} {M : Mem} {Q : DK} (hd : d.dat = true) (he : e.dat = true) (hdep : e.py.depth ≤ 150) : (opNe d e M).run M Q = Q (.bl (!D.eqv d e)) M := by
  simp only [opNe, pyM_pure (dat_pure hd), pyM_pure (dat_pure he), Res.run, mostDeep, D.eqv]
  exact propext ⟨fun h => h.2, fun h => ⟨Nat.le_trans (Nat.min_le_right _ _) hdep, h⟩⟩
theorem ne_empty {ps : List Part} (hl : ps.length ≤ 1000) (M : Mem) (Q : DK) : (opNe (picD ps) (.tup [.tup [], .tup [], .tup [], .tup []]) M).run M Q = Q (.bl (!(norm ps).isEmpty)) M := by
  have he : emptyD.dat = true := by decide
  rw [show D.tup [.tup [], .tup [], .tup [], .tup []] = emptyD from rfl, ne_dat (picD_dat hl).1 he (by decide)]
  congr 3
  cases e : norm ps with
  | nil => exact (eqv_dat (picD_dat hl).1 he).mpr ((pic_empty ps).mpr e)
  | cons p r =>
    cases z : D.eqv (picD ps) emptyD with
    | false => rfl
    | true =>
      have := (pic_empty ps).mp ((eqv_dat (picD_dat hl).1 he).mp z)
      rw [this] at e
      cases e
/-! the lines of a procedure -/
def prT (p : Proc) : List (List Nat) := spc (wProc :: p.name :: tL :: (listed p.params ++ [tR])) :: ((if p.places.isEmpty = true then [] else [[32, 32] ++ spc (wLoc :: listed p.places)]) ++ ((if (norm p.need).isEmpty = true then [] else [[32, 32] ++ spc (wNeed :: partsToks (norm p.need))]) ++ ((p.ens.map fun q => [32, 32] ++ spc (wEns :: partsToks (shown q))) ++ (bdT p.body ++ [cpsL wEnd]))))
/-- what the law draws -/
structure Raw (p : Proc) : Prop where
  name : NameOk p.name
  params : ∀ x ∈ p.params, NameOk x
  plen : p.params.length ≤ 10
  places : ∀ x ∈ p.places, NameOk x
  llen : p.places.length ≤ 10
  need : ∀ q ∈ p.need, PartOk q
  nlen : p.need.length ≤ 4
  ens : ∀ q ∈ p.ens, (∀ z ∈ q, PartOk z) ∧ q.length ≤ 4
  elen : p.ens.length ≤ 4
  body : OkB 3 p.body
  blen : p.body.length ≤ 3
def sp_prl : DSp := fun ds M Q E => ∃ (p : Proc), ds = [p.enc] ∧ Raw p ∧ ∀ f M', M f = none → M' f = some (.lst ((prT p).map txD)) → Keep [] M M' → Q (.ob f) M'
theorem mono_prl : MonoSp sp_prl := by
  rintro ds M Q Q' E E' hQ hE ⟨p, h1, h2, h⟩
  exact ⟨p, h1, h2, fun f M' z1 z2 z3 => hQ _ _ (h f M' z1 z2 z3)⟩
theorem names_sum {ns : List Str} (h : ∀ x ∈ ns, NameOk x) : (ns.map fun x => (cpsL x).length).sum ≤ ns.length * 16 := by
  have := sum_le (ns.map cpsL) 16 fun l hl => by
    obtain ⟨y, hy, rfl⟩ := List.mem_map.mp hl
    exact (h y hy).tok.2.2
  rw [List.length_map, List.map_map] at this
  exact this
theorem c_proc : cpsL (Str.ofString "proc ") = cpsL wProc ++ [32] := by decide +kernel
theorem c_local : cpsL (Str.ofString "  local ") = [32, 32] ++ (cpsL wLoc ++ [32]) := by decide +kernel
theorem c_need : cpsL (Str.ofString "  need ") = [32, 32] ++ (cpsL wNeed ++ [32]) := by decide +kernel
theorem c_ens : cpsL (Str.ofString "  ensure ") = [32, 32] ++ (cpsL wEns ++ [32]) := by decide +kernel
/-- a word ahead of tokens -/
theorem spc_word {k a : Str} {r : List Str} (hk : WordT (cpsL k)) (ha : NP a) : spc (k :: a :: r) = cpsL k ++ ([32] ++ spc (a :: r)) := by
  show cpsL k ++ (glue k a ++ (cpsL a ++ spcR a r)) = _
  rw [glue_np hk.np.1 ha]
  rfl
theorem parts_head {ps : List Part} (h : ∀ q ∈ ps, PartOk q) (hn : ps ≠ []) : ∃ a r, partsToks ps = a :: r ∧ NP a := by
  cases ps with
  | nil => exact absurd rfl hn
  | cons p r =>
    by_cases hk : p.1 = kNone
    · have : partToks p = [kNone] := by unfold partToks; rw [if_pos hk]
      exact ⟨kNone, partsTail r, by show partToks p ++ partsTail r = _; rw [this]; rfl, by unfold NP; decide +kernel⟩
    · obtain ⟨⟨a, q, e, ha⟩, _⟩ := part_ends (h p List.mem_cons_self) hk
      exact ⟨a, q ++ partsTail r, by show partToks p ++ partsTail r = _; rw [e]; rfl, ha⟩
theorem shown_ok {ps : List Part} (h : ∀ q ∈ ps, PartOk q) : (∀ q ∈ shown ps, PartOk q) ∧ shown ps ≠ [] ∧ (shown ps).length ≤ 1 + ps.length := by
  unfold shown
  by_cases e : (norm ps).isEmpty = true
  · rw [if_pos e]
    refine ⟨fun q hq => ?_, by simp, by simp⟩
    rw [List.mem_singleton.mp hq]
    exact ⟨by simp, .inl rfl, .inl rfl⟩
  · rw [if_neg e]
    exact ⟨fun q hq => (norm_ok h q hq).1, by simpa using e, Nat.le_trans (norm_len ps) (by omega)⟩
theorem pictT_len {ps : List Part} (h : ∀ q ∈ ps, PartOk q) (hl : ps.length ≤ 4) : (pictT ps).length ≤ 600 := by
  obtain ⟨h1, _, h3⟩ := shown_ok h
  have := spc_len (partsToks (shown ps)) fun t ht => tok_len (partsToks_tkn h1 t ht).1
  have := partsToks_len (shown ps)
  unfold pictT
  omega
theorem fn_prl (S0 : Src K mg "proc_lines" s_proc_lines ["proc"]) (G : GF K mg C_Cursor C_Block C_ProcReader C_Reader v_proc_name) (F_picture_text : Fn P w K mg base 1 "picture_text" sp_ptext []) (F_body_lines : Fn P w K mg base 10 "body_lines" (sp_bd 4) []) : Fn P w K mg base 11 "proc_lines" sp_prl [] := by
  refine S0.fn mono_prl fun g fd F => fn_ok F sc_proc_lines (fun ds M Q E h => by obtain ⟨p, rfl, _⟩ := h; rfl) ⟨_, fun cdv A outer s H E hr => have hu := hr.u200
    (xss_cons (xs_asg (p := .tp [.nm 1, .nm 2, .nm 3, .nm 4, .nm 5, .nm 6]) (xe_var 0) (xg_tup rfl (xgs_cons (xg_name 1 sc_proc_lines.nd) (xgs_cons (xg_name 2 sc_proc_lines.nd) (xgs_cons (xg_name 3 sc_proc_lines.nd) (xgs_cons (xg_name 4 sc_proc_lines.nd) (xgs_cons (xg_name 5 sc_proc_lines.nd) (xgs_cons (xg_name 6 sc_proc_lines.nd) xgs_nil))))))))
 (xss_cons (xs_set 7 sc_proc_lines.nd (xe_lst (n := 1) (xa_cons (xe_bin x_add (xe_bin x_add (xe_bin x_add (xe_bin x_add xe_str (xe_var 1)) xe_str) (xe_bm PySem.F.plainAttrs_str PySem.F.slot_str_join PySem.F.type_str_join m_join xe_str (xa_cons (xe_var 2) xa_nil))) xe_str) xa_nil)))
 (xss_cons (xs_if (xt_cmp (x_ne hu) (xe_var 3) (xe_tup (n := 0) xa_nil) (nomark _) bl_ne)
 (xss_one (xs_expr (xe_bm PySem.F.plainAttrs_list PySem.F.slot_list_append PySem.F.type_list_append m_append (xe_var 7) (xa_cons (xe_bin x_add xe_str (xe_bm PySem.F.plainAttrs_str PySem.F.slot_str_join PySem.F.type_str_join m_join xe_str (xa_cons (xe_var 3) xa_nil))) xa_nil))))
 xss_nil)
 (xss_cons (xs_if (xt_cmp (x_ne hu) (xe_var 4) (xe_tup (n := 4) (xa_cons (xe_tup (n := 0) xa_nil) (xa_cons (xe_tup (n := 0) xa_nil) (xa_cons (xe_tup (n := 0) xa_nil) (xa_cons (xe_tup (n := 0) xa_nil) xa_nil))))) (nomark _) bl_ne)
 (xss_one (xs_expr (xe_bm PySem.F.plainAttrs_list PySem.F.slot_list_append PySem.F.type_list_append m_append (xe_var 7) (xa_cons (xe_bin x_add xe_str (xe_call F_picture_text (hr.mono (by first | decide | omega)) bx_takes (by rfl) (xa_cons (xe_var 4) xa_nil))) xa_nil))))
 xss_nil)
 (xss_cons (xs_expr (xe_bm PySem.F.plainAttrs_list PySem.F.slot_list_extend PySem.F.type_list_extend m_extend (xe_var 7) (xa_cons (xe_lc (own := [("picture", 8)]) (p := .nm 8) rfl sc_proc_lines.nd (xi_walk (xe_var 5)) (blkOk_by (by first | (show blkC ["proc", "name", "parameters", "places", "need", "ensures", "body", "lines", "picture"] (defScope s_proc_lines) _ _ = true; decide +kernel) | kernel_rfl | rfl)) (fun _ _ _ _ _ => (xg_name 8 sc_proc_lines.nd)) (fun _ _ _ _ _ => xts_nil) (fun _ _ _ _ _ => (xe_bin x_add xe_str (xe_call F_picture_text (hr.mono (by first | decide | omega)) takes0 (by rfl) (xa_cons (xe_var 8) xa_nil))))) xa_nil)))
 (xss_one (xs_ret (xe_bin x_add (xe_bin x_add (xe_var 7) (xe_call F_body_lines (hr.mono (by first | decide | omega)) bx_takes (by rfl) (xa_cons (xe_var 6) xa_nil))) (xe_lst (n := 1) (xa_cons xe_str xa_nil)))))))))), fun ds M Q E h => ?_⟩
  obtain ⟨p, rfl, hr, h⟩ := h
  have sz : (16777216 : Nat) = sizeLine := sizeLine_eq.symm
  have npl := lstT_len p.params fun y hy => (hr.params y hy).tok.2.2
  have nll := lstT_len p.places fun y hy => (hr.places y hy).tok.2.2
  have spl := names_sum hr.params
  have sll := names_sum hr.places
  have v1 : (cpsL wProc).length = 4 := by decide +kernel
  have v2 : (cpsL wLoc).length = 5 := by decide +kernel
  have v3 : (cpsL wNeed).length = 4 := by decide +kernel
  have v4 : (cpsL wEns).length = 6 := by decide +kernel
  have v5 : (cpsL tL).length = 1 := by decide +kernel
  have v6 : (cpsL tR).length = 1 := by decide +kernel
  have v9 : (cpsL (Str.ofString ", ")).length = 2 := by decide +kernel
  have m1 := hr.name.tok.2.2
  have q1 := hr.plen
  have q2 := hr.llen
  have q3 := hr.nlen
  have q4 := hr.elen
  have hfew := bdT_few hr.body hr.blen (by decide)
  simp! [Proc.enc, cat_x, cpsL_S, len_x, c_proc, mJoin, seqS, strsOf_map, join_names]
  refine ⟨by rw [← sz]; (try simp only [List.length_append, List.length_cons, List.length_nil, v1, v2, v3, v4, v5, v6]); omega, by rw [← sz]; (try simp only [List.length_append, List.length_cons, List.length_nil, v1, v2, v3, v4, v5, v6]); omega, by rw [v9]; omega, by rw [← sz]; (try simp only [List.length_append, List.length_cons, List.length_nil, v1, v2, v3, v4, v5, v6]); omega, by rw [← sz]; (try simp only [List.length_append, List.length_cons, List.length_nil, v1, v2, v3, v4, v5, v6]); omega, fun l1 h1 => ?_⟩
  have eT : cpsL wProc ++ [32] ++ cpsL p.name ++ cpsL tL ++ lstT p.params ++ cpsL tR = spc (wProc :: p.name :: tL :: (listed p.params ++ [tR])) := by
    rw [spc_sig (by decide +kernel) hr.name.tok.np fun y hy => (hr.params y hy).tok.np]
    simp
  rw [eT]
  obtain ⟨T0, hT0⟩ : ∃ T0, T0 = spc (wProc :: p.name :: tL :: (listed p.params ++ [tR])) := ⟨_, rfl⟩
  rw [← hT0]
  have k1 : Keep [] M (mupd M l1 (.lst [txD T0])) := Keep.new h1
  have a1 : (mupd M l1 (.lst [txD T0])) l1 = _ := mupd_same
  generalize mupd M l1 _ = M1 at k1 a1 ⊢
  rw [ne_nil fun d hd => by obtain ⟨x, _, rfl⟩ := List.mem_map.mp hd; rfl]
  have epl : (p.places.map D.str).isEmpty = p.places.isEmpty := by cases p.places <;> rfl
  rw [epl]
  simp! []
  obtain ⟨A, hA⟩ : ∃ A : List (List Nat), A = if p.places.isEmpty = true then [] else [[32, 32] ++ spc (wLoc :: listed p.places)] := ⟨_, rfl⟩
  have hAl : A.length ≤ 1 := by rw [hA]; split <;> simp
  refine bif_mid (fun e M' => e = [some p.enc, some (.str p.name), some (.tup (p.params.map D.str)), some (.tup (p.places.map D.str)), some (picD p.need), some (.tup (p.ens.map picD)), some (.tup (encB p.body)), some (.ob l1), none] ∧ M' l1 = some (.lst ((T0 :: A).map txD)) ∧ Keep [] M M') (fun z N hN => ?_) (fun z N hN => ?_) ?_
  · have z' : p.places.isEmpty = false := by simpa using z
    obtain ⟨x, r, ex⟩ : ∃ x r, p.places = x :: r := by
      cases e : p.places with
      | nil => rw [e] at z'; cases z'
      | cons x r => exact ⟨x, r, rfl⟩
    have eL : [32, 32] ++ (cpsL wLoc ++ [32]) ++ lstT p.places = [32, 32] ++ spc (wLoc :: listed p.places) := by
      have hx : NP x := (hr.places x (by rw [ex]; simp)).tok.np
      have e2 := spc_listed2 p.places fun y hy => (hr.places y hy).tok.np
      obtain ⟨q, e3⟩ : ∃ q, listed p.places = x :: q := by rw [ex]; exact ⟨_, rfl⟩
      rw [e3] at e2
      rw [e3, spc_word (kw_tkn _ (by simp)) hx, e2]
      simp
    simp! [a1, cat_x, cpsL_S, len_x, c_local, mJoin, seqS, strsOf_map, join_names]
    refine ⟨by rw [v9]; omega, by rw [← sz]; (try simp only [List.length_append, List.length_cons, List.length_nil, v1, v2, v3, v4, v5, v6]); omega, by rw [← sz]; decide, ?_⟩
    refine hN _ _ ⟨rfl, ?_, k1.putN h1⟩
    rw [mupd_same, hA, z', if_neg (by decide), ← eL]
    rfl
  · have z' : p.places.isEmpty = true := by simpa using z
    simp! []
    refine hN _ _ ⟨rfl, ?_, k1⟩
    rw [a1, hA, if_pos z']
    rfl
  rintro e M2 ⟨rfl, a2, k2⟩
  simp! []
  rw [ne_empty (by omega)]
  simp! []
  obtain ⟨B, hB⟩ : ∃ B : List (List Nat), B = if (norm p.need).isEmpty = true then [] else [[32, 32] ++ spc (wNeed :: partsToks (norm p.need))] := ⟨_, rfl⟩
  have hBl : B.length ≤ 1 := by rw [hB]; split <;> simp
  refine bif_mid (fun e M' => e = [some p.enc, some (.str p.name), some (.tup (p.params.map D.str)), some (.tup (p.places.map D.str)), some (picD p.need), some (.tup (p.ens.map picD)), some (.tup (encB p.body)), some (.ob l1), none] ∧ M' l1 = some (.lst ((T0 :: (A ++ B)).map txD)) ∧ Keep [] M M') (fun z N hN => ?_) (fun z N hN => ?_) ?_
  · have z' : (norm p.need).isEmpty = false := by simpa using z
    have zn : norm p.need ≠ [] := by intro e; rw [e] at z'; cases z'
    have hpt := pictT_len hr.need q3
    have eL : [32, 32] ++ (cpsL wNeed ++ [32]) ++ pictT p.need = [32, 32] ++ spc (wNeed :: partsToks (norm p.need)) := by
      obtain ⟨a, q, e3, ha⟩ := parts_head (fun q hq => (norm_ok hr.need q hq).1) zn
      have e4 : pictT p.need = spc (partsToks (norm p.need)) := by unfold pictT shown; rw [z', if_neg (by decide)]
      rw [e4, e3, spc_word (kw_tkn _ (by simp)) ha]
      simp
    simp! [a2, List.length_map]
    refine ⟨p.need, rfl, hr.need, by omega, fun M3 k3 => ?_⟩
    have a3 := k3 _ _ a2 (by simp)
    simp! [a3, cat_x, cpsL_S, len_x, c_need, List.length_map]
    refine ⟨by rw [← sz]; (try simp only [List.length_append, List.length_cons, List.length_nil, v1, v2, v3, v4, v5, v6]); omega, by rw [← sz]; (try simp only [List.length_cons, List.length_map]); omega, ?_⟩
    refine hN _ _ ⟨rfl, ?_, (k2.trans k3).putN h1⟩
    rw [mupd_same, hB, z', if_neg (by decide), ← eL]
    simp
  · have z' : (norm p.need).isEmpty = true := by simpa using z
    simp! []
    refine hN _ _ ⟨rfl, ?_, k2⟩
    rw [a2, hB, if_pos z', List.append_nil]
  rintro e M3 ⟨rfl, a3, k3⟩
  simp! [a3]
  intro l4 h4
  refine lc_pure picD (fun q => txD ([32, 32] ++ spc (wEns :: partsToks (shown q)))) (fun _ => true) p.ens h4 (fun _ _ => trivial) (by rw [← sz]; omega) (fun q hq M4 N sk k4 hy _ => ?_) fun M4 k4 e4 => ?_
  · obtain ⟨o1, o2⟩ := hr.ens q hq
    have hpt := pictT_len o1 o2
    have eL : 32 :: 32 :: (cpsL wEns ++ [32] ++ pictT q) = 32 :: 32 :: spc (wEns :: partsToks (shown q)) := by
      obtain ⟨t1, t2, _⟩ := shown_ok o1
      obtain ⟨a, r, e3, ha⟩ := parts_head t1 t2
      unfold pictT
      rw [e3, spc_word (kw_tkn _ (by simp)) ha]
      simp
    simp! []
    refine ⟨q, rfl, o1, by omega, fun M5 k5 => ?_⟩
    simp! [cat_x, cpsL_S, len_x, c_ens]
    refine ⟨by rw [← sz]; (try simp only [List.length_append, List.length_cons, List.length_nil, v1, v2, v3, v4, v5, v6]); omega, ?_⟩
    rw [eL]
    exact hy rfl _ k5
  rw [show p.ens.filter (fun _ => true) = p.ens from List.filter_eq_self.mpr (by simp)] at e4
  have a4 := k4 _ _ a3 (by simp)
  have k34 := k3.trans k4
  simp! [a4, e4, List.length_map]
  refine ⟨by rw [← sz]; (try simp only [List.length_cons, List.length_append, List.length_map]); omega, ?_⟩
  obtain ⟨C, hC⟩ : ∃ C : List (List Nat), C = p.ens.map fun q => [32, 32] ++ spc (wEns :: partsToks (shown q)) := ⟨_, rfl⟩
  have hCl : C.length ≤ 4 := by rw [hC, List.length_map]; exact q4
  have eC : (p.ens.map fun q => txD (32 :: 32 :: spc (wEns :: partsToks (shown q)))) = C.map txD := by rw [hC, List.map_map]; rfl
  rw [eC]
  have k5 : Keep [] M (mupd M4 l1 (.lst (txD T0 :: ((A ++ B).map txD ++ C.map txD)))) := k34.putN h1
  have a5 : (mupd M4 l1 (.lst (txD T0 :: ((A ++ B).map txD ++ C.map txD)))) l1 = _ := mupd_same
  generalize mupd M4 l1 _ = M5 at k5 a5 ⊢
  rw [show sp_bd 4 = sp_bdN 3 from rfl]
  refine ⟨p.body, rfl, hr.body, hr.blen, by decide, fun f M6 hf hf6 k6 => ?_⟩
  have a6 := k6 _ _ a5 (by simp)
  have k56 := k5.trans k6
  simp! [a6, hf6, List.length_map]
  refine ⟨by rw [← sz]; (try simp only [List.length_cons, List.length_append, List.length_map]); omega, fun l7 h7 => ?_⟩
  have a7 : (mupd M6 l7 (.lst (txD T0 :: ((A ++ B).map txD ++ C.map txD ++ (bdT p.body).map txD)))) l7 = _ := mupd_same
  have k7 := k56.trans (Keep.new (o := .lst (txD T0 :: ((A ++ B).map txD ++ C.map txD ++ (bdT p.body).map txD))) h7)
  generalize mupd M6 l7 _ = M7 at a7 k7 ⊢
  try simp! []
  intro l8 h8
  have a8 : (mupd M7 l8 (.lst [.str wEnd])) l8 = _ := mupd_same
  have b8 := put_at (o' := .lst [.str wEnd]) a7 h8
  have k8 := k7.trans (Keep.new (o := .lst [.str wEnd]) h8)
  generalize mupd M7 l8 _ = M8 at a8 b8 k8 ⊢
  simp! [a8, b8, List.length_map]
  refine ⟨by rw [← sz]; (try simp only [List.length_cons, List.length_append, List.length_map]); omega, fun l9 h9 => ?_⟩
  refine h l9 _ (Keep.back k8 h9 (by simp)) ?_ (k8.trans (Keep.new h9))
  rw [mupd_same]
  unfold prT
  rw [← hT0, ← hA, ← hB, ← hC]
  simp [txD, S_cps]
end K02

set_option maxHeartbeats 4000000
namespace K02
open PySem PySem.Spec PyProof.Rows L2 PL SX
variable {P : Program} {w : World} {K : PySem.W.Frag} {mg : Str → Option Value} {base : Heap} {C_Cursor C_Block C_ProcReader C_Reader v_proc_name : Addr}
local macro_rules | `(tactic| simp! [$ls,*]) => `(tactic| simp only [s_fld, s_fldK, s_insAt, s_optD, s_obAt, s_fput, s_fputK1, s_fputK2, s_faug, s_faugK1, s_faugK2, s_faugK3, s_meth, s_methK1, s_methK2, s_make, s_makeK, s_makeK2, s_dead, s_tryN, noX_nx, noX_rt, noX_bk, noX_ct, mSplit, opMulS, s_enum, s_enumK, s_sortBy, s_sortByK, look_nil, look_cons, putFD_nil, putFD_cons, List.append_nil, to_nx, to_rt, to_bk, to_ct, to_ex, lp_nx, lp_rt, lp_bk, lp_ct, lp_ex, ret_nx, ret_rt, ret_ex, s_exK, s_bif1, s_bif0, s_optB, s_optE, s_nxD, s_ifK, s_asgN, s_asgT, s_asgL, b_nil, b_nm, b_tp, s_next, s_seq, s_drop, s_ret, s_retN, s_ifS, s_asg, s_brk, s_cont, s_put, s_put1, s_put2, s_put3, s_aug, s_augV, s_augK, s_augK2, s_bin, s_bin1, s_bin2, s_var, s_varK, s_C, s_cb, s_cbK, s_call, s_callK, s_m, s_m1, s_m2, s_nil, s_cons, s_cons1, s_cons2, s_tup, s_tupK, s_lst, s_lstK, s_truth, s_trK, s_tK, s_eK, s_cK, s_and, s_andK, s_or, s_orK, s_not, s_notK, s_ife, s_ifeK, s_andV, s_orV, s_andvK, s_orvK, s_andvK2, s_orvK2, s_notV, s_notvK, s_blK, s_neg, s_negK, s_sl, s_sl1, s_sl2, s_sl3, s_noPart, s_part, s_partK, s_rev, s_revK, s_for, s_forK, s_lc, s_lcK, s_yes, s_walk, s_walkT, s_walkS, s_walkA, s_walkL, s_walkR, s_rng1, s_rng2, s_rng1K, s_rng2K, s_callL, s_callLK, s_callLO, s_clK, s_raise, r_val, r_new, r_put, s_whK, s_lcY, s_lcT, s_lcE, s_cg, s_cgK, s_rng3, s_rng3K, s_lcB, s_lcS, wipeD, Pat.bind, seqOf, rg, s_dict0, s_sortSet, s_sortSetK, q_is_tuple, q_is_str, q_is_int, q_is_bool, q_is_list, q_isR, ofS_inj, String.reduceEq, q_eqI, q_neI, q_eqS, q_neS, decide_true, decide_false, Int.reduceEq, reduceCtorEq, i_NoneType_tuple, i_NoneType_str, i_NoneType_int, i_NoneType_bool, i_NoneType_list, i_bool_tuple, i_bool_str, i_bool_int, i_bool_bool, i_bool_list, i_int_tuple, i_int_str, i_int_int, i_int_bool, i_int_list, i_str_tuple, i_str_str, i_str_int, i_str_bool, i_str_list, i_tuple_tuple, i_tuple_str, i_tuple_int, i_tuple_bool, i_tuple_list, i_list_tuple, i_list_str, i_list_int, i_list_bool, i_list_list, i_dict_tuple, i_dict_str, i_dict_int, i_dict_bool, i_dict_list, tyN, startD, mupd_same, mupd_ne, ne_eq, not_false_eq_true, List.map_cons, List.map_nil, List.length_cons, List.length_nil, List.replicate_succ, List.replicate_zero, Nat.zero_add, Nat.reduceAdd, Nat.reduceSub, Int.cast_ofNat_Int, List.cons_append, List.nil_append, List.getElem?_cons_zero, List.getElem?_cons_succ, List.set_cons_zero, List.set_cons_succ, opIx, atI_cons, ixN, opPut, opAdd, opSub, opMul, opFdiv, opMod, opPow, opLt, opLe, opGt, opGe, opIs, opIsNot, D.isNon, truth, bLen, bAbs, bInt, bTuple, bList, isTy, mAppend, mExtend, mPop, Int.reduceLE, Int.reduceLT, Int.reduceToNat, Int.reduceNeg, Int.reduceNe, Option.bind_some, if_true, if_false, ite_true, ite_false, true_and, and_true, Bool.not_true, Bool.not_false, opIadd, Nat.reduceLT, Nat.reduceLeDiff, Int.ofNat_lt, s_dpNil, s_dpCons, s_dpK1, s_dpK2, s_dpK3, s_disp, s_dispK, s_optKV, kvOf, s_dc, s_dcK, s_keys, s_lockK, s_sortIt, mGet, mDPop, dgetR, bDictC, bTupC, opEqD, opNeD, eqDR, D.key, merge_one, optKV, id, opEqL, opNeL, eqLR, $ls,*])
open TL (joinL)
mutual
theorem OkS.up : ∀ (d e : Nat) (x : Stm), d ≤ e → OkS d x → OkS e x
  | d, e, .sim s, _, h => by
    unfold OkS at h ⊢
    exact h
  | d, e, .whl s a b body, hde, h => by
    unfold OkS at h ⊢
    obtain ⟨h1, h2, h3, h4, h5⟩ := h
    exact ⟨h1, h2, by omega, OkB.up (d - 1) (e - 1) body (by omega) h4, h5⟩
  | d, e, .ite s a b f g, hde, h => by
    unfold OkS at h ⊢
    obtain ⟨h1, h2, h3, h4, h5, h6, h7⟩ := h
    exact ⟨h1, h2, by omega, OkB.up (d - 1) (e - 1) f (by omega) h4, h5, OkB.up (d - 1) (e - 1) g (by omega) h6, h7⟩
theorem OkB.up : ∀ (d e : Nat) (b : List Stm), d ≤ e → OkB d b → OkB e b
  | d, e, [], _, _ => by unfold OkB; trivial
  | d, e, x :: r, hde, h => by
    unfold OkB at h ⊢
    exact ⟨OkS.up d e x hde h.1, OkB.up d e r hde h.2⟩
end
/-! a line: its depth and its tokens, as a text -/
def lineT (z : Int × List Str) : List Nat := List.replicate (2 * z.1.toNat) 32 ++ spc z.2
theorem rep_two (d : Nat) (l : List Nat) : List.replicate (2 * (d + 1)) 32 ++ l = List.replicate (2 * d) 32 ++ ([32, 32] ++ l) := by
  rw [show 2 * (d + 1) = 2 * d + 2 by omega, ← List.replicate_append_replicate, List.append_assoc]
  rfl
theorem toN (d : Nat) : ((d : Int)).toNat = d := rfl
mutual
theorem dlS_text : ∀ (d : Nat) (x : Stm), (dlS (d : Int) x).map lineT = (stT x).map (List.replicate (2 * d) 32 ++ ·)
  | d, .sim s => by rw [dlS, stT]; rfl
  | d, .whl s a b body => by
    have := dlB_text d body
    rw [dlS, stT, List.map_cons, List.map_append, this]
    simp only [List.map_cons, List.map_nil, List.map_append, lineT, toN, spc_end.1]
  | d, .ite s a b f g => by
    have h1 := dlB_text d f
    have h2 := dlB_text d g
    rw [dlS, stT, List.map_cons, List.map_append, h1, List.map_append]
    cases g with
    | nil => simp only [List.isEmpty_nil, if_true, List.map_cons, List.map_nil, List.map_append, lineT, toN, spc_end.1]
    | cons y r => simp only [List.isEmpty_cons, Bool.false_eq_true, if_false, List.map_cons, List.map_nil, List.map_append, lineT, toN, spc_end.1, spc_end.2] at h2 ⊢; rw [h2]
theorem dlB_text : ∀ (d : Nat) (b : List Stm), (dlB ((d : Int) + 1) b).map lineT = (bdT b).map (List.replicate (2 * d) 32 ++ ·)
  | d, [] => by rw [dlB, bdT]; rfl
  | d, x :: r => by
    have h1 := dlS_text (d + 1) x
    have h2 := dlB_text d r
    rw [dlB, bdT, List.map_append, h2, List.map_append, List.map_map]
    rw [show ((d : Int) + 1) = ((d + 1 : Nat) : Int) by omega, h1]
    congr 1
    exact List.map_congr_left fun l _ => rep_two d l
end
theorem dl_text (p : Proc) (g : List Part → List Part) (hg : ∀ q ∈ p.ens, partsToks (g q) = partsToks (shown q)) : (dprocL { p with need := norm p.need, ens := p.ens.map g }).map lineT = prT p := by
  have hb := dlB_text 0 p.body
  have e0 : (bdT p.body).map (List.replicate (2 * 0) 32 ++ ·) = bdT p.body := by
    conv => rhs; rw [← List.map_id (bdT p.body)]
    exact List.map_congr_left fun l _ => rfl
  rw [e0, show ((0 : Nat) : Int) + 1 = 1 from rfl] at hb
  have hens : ((p.ens.map g).map fun q => ((1 : Int), wEns :: partsToks q)).map lineT = p.ens.map fun q => [32, 32] ++ spc (wEns :: partsToks (shown q)) := by
    rw [List.map_map, List.map_map]
    exact List.map_congr_left fun q hq => by
      show List.replicate 2 32 ++ spc (wEns :: partsToks (g q)) = _
      rw [hg q hq]
      rfl
  have h1 : (if p.places.isEmpty = true then [] else [((1 : Int), wLoc :: listed p.places)]).map lineT = if p.places.isEmpty = true then [] else [[32, 32] ++ spc (wLoc :: listed p.places)] := by split <;> rfl
  have h2 : (if (norm p.need).isEmpty = true then [] else [((1 : Int), wNeed :: partsToks (norm p.need))]).map lineT = if (norm p.need).isEmpty = true then [] else [[32, 32] ++ spc (wNeed :: partsToks (norm p.need))] := by split <;> rfl
  unfold dprocL dheadL prT
  simp only [List.map_cons, List.map_append, List.map_nil]
  rw [hens, h1, h2, hb]
  have e1 : lineT ((0 : Int), [wEnd]) = cpsL wEnd := by
    show List.replicate 0 32 ++ spc [wEnd] = _
    rw [spc_end.1]; rfl
  have e2 : lineT ((0 : Int), wProc :: p.name :: tL :: (listed p.params ++ [tR])) = spc (wProc :: p.name :: tL :: (listed p.params ++ [tR])) := rfl
  rw [e1, e2]
  simp only [List.append_assoc]
/-! the source that is read back -/
def canon (p : Proc) : Proc := { p with need := norm p.need, ens := p.ens.map shown }
theorem picD_shown (ps : List Part) : picD (shown ps) = picD ps := by
  unfold shown
  by_cases e : (norm ps).isEmpty = true
  · rw [if_pos e]
    have : norm ps = [] := by simpa using e
    rw [(pic_empty ps).mpr this]
    have h : norm [(kNone, nilS, nilS)] = [] := by decide +kernel
    exact (pic_empty _).mpr h
  · rw [if_neg e, picD_norm]
theorem canon_enc (p : Proc) : (canon p).enc = p.enc := by
  unfold Proc.enc canon
  simp only [picD_norm, List.map_map]
  rw [show p.ens.map (picD ∘ shown) = p.ens.map picD from List.map_congr_left fun q _ => picD_shown q]
theorem canon_few {p : Proc} (h : Raw p) : (canon p).Few := by
  have hs : ∀ q ∈ p.ens.map shown, (∀ z ∈ q, PartOk z) ∧ q ≠ [] ∧ q.length ≤ 5 := fun q hq => by
    obtain ⟨r, hr, rfl⟩ := List.mem_map.mp hq
    obtain ⟨h1, h2⟩ := h.ens r hr
    obtain ⟨h3, h4, h5⟩ := shown_ok h1
    exact ⟨h3, h4, by omega⟩
  have hn := norm_len p.need
  have q1 := h.plen
  have q2 := h.llen
  have q3 := h.nlen
  have q4 := h.elen
  exact ⟨⟨h.name, h.params, by show p.params.length ≤ 100; omega, h.places, by show p.places.length ≤ 100; omega, fun q hq => (norm_ok h.need q hq).1, by show (norm p.need).length ≤ 100; omega, fun q hq => ⟨(hs q hq).2.1, (hs q hq).1, by have := (hs q hq).2.2; omega⟩, by show (p.ens.map shown).length ≤ 100; rw [List.length_map]; omega, OkB.up 3 20 _ (by decide) h.body, h.blen⟩, q1, q2, by show (norm p.need).length ≤ 8; omega, by show (p.ens.map shown).length ≤ 4; rw [List.length_map]; omega, fun q hq => by have := (hs q hq).2.2; omega, h.body⟩
mutual
theorem dlS_dep : ∀ (n : Nat) (d : Int) (x : Stm), OkS n x → ∀ z ∈ dlS d x, d ≤ z.1 ∧ z.1 ≤ d + n
  | n, d, .sim s, _ => by
    rw [dlS]
    intro z hz
    rw [List.mem_singleton.mp hz]
    exact ⟨Int.le_refl _, by show d ≤ d + n; omega⟩
  | n, d, .whl s a b body, h => by
    unfold OkS at h
    obtain ⟨_, _, h0, hb, _⟩ := h
    have hB := dlB_dep (n - 1) (d + 1) body hb
    rw [dlS]
    intro z hz
    simp only [List.mem_cons, List.mem_append, List.not_mem_nil, or_false] at hz
    rcases hz with rfl | hz | rfl
    · exact ⟨Int.le_refl _, by show d ≤ d + n; omega⟩
    · have := hB z hz
      omega
    · exact ⟨Int.le_refl _, by show d ≤ d + n; omega⟩
  | n, d, .ite s a b f g, h => by
    unfold OkS at h
    obtain ⟨_, _, h0, hf, _, hg, _⟩ := h
    have h1 := dlB_dep (n - 1) (d + 1) f hf
    have h2 := dlB_dep (n - 1) (d + 1) g hg
    rw [dlS]
    intro z hz
    simp only [List.mem_cons, List.mem_append, List.not_mem_nil, or_false] at hz
    rcases hz with rfl | hz | hz | rfl
    · exact ⟨Int.le_refl _, by show d ≤ d + n; omega⟩
    · have := h1 z hz
      omega
    · split at hz
      · cases hz
      · rcases List.mem_cons.mp hz with rfl | hz
        · exact ⟨Int.le_refl _, by show d ≤ d + n; omega⟩
        · have := h2 z hz
          omega
    · exact ⟨Int.le_refl _, by show d ≤ d + n; omega⟩
theorem dlB_dep : ∀ (n : Nat) (d : Int) (b : List Stm), OkB n b → ∀ z ∈ dlB d b, d ≤ z.1 ∧ z.1 ≤ d + n
  | n, d, [], _ => by rw [dlB]; intro z hz; cases hz
  | n, d, x :: r, h => by
    unfold OkB at h
    have h1 := dlS_dep n d x h.1
    have h2 := dlB_dep n d r h.2
    rw [dlB]
    intro z hz
    rcases List.mem_append.mp hz with hz | hz
    · exact h1 z hz
    · exact h2 z hz
end
theorem dep_le {p : Proc} (hb : OkB 3 p.body) : ∀ z ∈ dprocL p, 0 ≤ z.1 ∧ z.1 ≤ 10 := by
  unfold dprocL dheadL
  intro z hz
  simp only [List.mem_cons, List.mem_append, List.not_mem_nil, or_false] at hz
  rcases hz with rfl | (hz | hz | hz) | hz | rfl
  · exact ⟨(by decide : (0 : Int) ≤ 0), (by decide : (0 : Int) ≤ 10)⟩
  · split at hz
    · cases hz
    · rw [List.mem_singleton.mp hz]; exact ⟨(by decide : (0 : Int) ≤ 1), (by decide : (1 : Int) ≤ 10)⟩
  · split at hz
    · cases hz
    · rw [List.mem_singleton.mp hz]; exact ⟨(by decide : (0 : Int) ≤ 1), (by decide : (1 : Int) ≤ 10)⟩
  · obtain ⟨q, _, rfl⟩ := List.mem_map.mp hz
    exact ⟨(by decide : (0 : Int) ≤ 1), (by decide : (1 : Int) ≤ 10)⟩
  · have := dlB_dep 3 1 p.body hb z hz
    omega
  · exact ⟨(by decide : (0 : Int) ≤ 0), (by decide : (0 : Int) ≤ 10)⟩
theorem texts_dl : ∀ (dl : List (Int × List Str)), (∀ z ∈ dl, LineTok z.2 ∧ z.1 ≤ 10) → Texts (dl.map (·.2)) (dl.map lineT)
  | [], _ => .nil
  | z :: r, h => by
    obtain ⟨h1, h2⟩ := h z List.mem_cons_self
    have hl := line_len h1
    refine .line ((lay_spc z.2 fun t ht => h1.2.2.1 _ (List.mem_map_of_mem ht)).sps _) ?_ (texts_dl r fun y hy => h y (List.mem_cons_of_mem _ hy))
    show (List.replicate (2 * z.1.toNat) 32 ++ spc z.2).length ≤ 1200
    rw [List.length_append, List.length_replicate]
    omega
theorem texts_pr {p : Proc} (h : Raw p) : Texts (procL (canon p)) (prT p) := by
  have e := dl_text p shown fun _ _ => rfl
  rw [← e, ← dprocL_snd (canon p)]
  have hf := canon_few h
  refine texts_dl _ fun z hz => ⟨procL_tok hf z.2 ?_, (dep_le hf.body z hz).2⟩
  rw [← dprocL_snd]
  exact List.mem_map_of_mem hz
end K02

set_option maxHeartbeats 4000000
namespace K02
open PySem PySem.Spec PyProof.Rows L2 PL SX
variable {P : Program} {w : World} {K : PySem.W.Frag} {mg : Str → Option Value} {base : Heap} {C_Cursor C_Block C_ProcReader C_Reader v_proc_name : Addr}
local macro_rules | `(tactic| simp! [$ls,*]) => `(tactic| simp only [s_fld, s_fldK, s_insAt, s_optD, s_obAt, s_fput, s_fputK1, s_fputK2, s_faug, s_faugK1, s_faugK2, s_faugK3, s_meth, s_methK1, s_methK2, s_make, s_makeK, s_makeK2, s_dead, s_tryN, noX_nx, noX_rt, noX_bk, noX_ct, mSplit, opMulS, s_enum, s_enumK, s_sortBy, s_sortByK, look_nil, look_cons, putFD_nil, putFD_cons, List.append_nil, to_nx, to_rt, to_bk, to_ct, to_ex, lp_nx, lp_rt, lp_bk, lp_ct, lp_ex, ret_nx, ret_rt, ret_ex, s_exK, s_bif1, s_bif0, s_optB, s_optE, s_nxD, s_ifK, s_asgN, s_asgT, s_asgL, b_nil, b_nm, b_tp, s_next, s_seq, s_drop, s_ret, s_retN, s_ifS, s_asg, s_brk, s_cont, s_put, s_put1, s_put2, s_put3, s_aug, s_augV, s_augK, s_augK2, s_bin, s_bin1, s_bin2, s_var, s_varK, s_C, s_cb, s_cbK, s_call, s_callK, s_m, s_m1, s_m2, s_nil, s_cons, s_cons1, s_cons2, s_tup, s_tupK, s_lst, s_lstK, s_truth, s_trK, s_tK, s_eK, s_cK, s_and, s_andK, s_or, s_orK, s_not, s_notK, s_ife, s_ifeK, s_andV, s_orV, s_andvK, s_orvK, s_andvK2, s_orvK2, s_notV, s_notvK, s_blK, s_neg, s_negK, s_sl, s_sl1, s_sl2, s_sl3, s_noPart, s_part, s_partK, s_rev, s_revK, s_for, s_forK, s_lc, s_lcK, s_yes, s_walk, s_walkT, s_walkS, s_walkA, s_walkL, s_walkR, s_rng1, s_rng2, s_rng1K, s_rng2K, s_callL, s_callLK, s_callLO, s_clK, s_raise, r_val, r_new, r_put, s_whK, s_lcY, s_lcT, s_lcE, s_cg, s_cgK, s_rng3, s_rng3K, s_lcB, s_lcS, wipeD, Pat.bind, seqOf, rg, s_dict0, s_sortSet, s_sortSetK, q_is_tuple, q_is_str, q_is_int, q_is_bool, q_is_list, q_isR, ofS_inj, String.reduceEq, q_eqI, q_neI, q_eqS, q_neS, decide_true, decide_false, Int.reduceEq, reduceCtorEq, i_NoneType_tuple, i_NoneType_str, i_NoneType_int, i_NoneType_bool, i_NoneType_list, i_bool_tuple, i_bool_str, i_bool_int, i_bool_bool, i_bool_list, i_int_tuple, i_int_str, i_int_int, i_int_bool, i_int_list, i_str_tuple, i_str_str, i_str_int, i_str_bool, i_str_list, i_tuple_tuple, i_tuple_str, i_tuple_int, i_tuple_bool, i_tuple_list, i_list_tuple, i_list_str, i_list_int, i_list_bool, i_list_list, i_dict_tuple, i_dict_str, i_dict_int, i_dict_bool, i_dict_list, tyN, startD, mupd_same, mupd_ne, ne_eq, not_false_eq_true, List.map_cons, List.map_nil, List.length_cons, List.length_nil, List.replicate_succ, List.replicate_zero, Nat.zero_add, Nat.reduceAdd, Nat.reduceSub, Int.cast_ofNat_Int, List.cons_append, List.nil_append, List.getElem?_cons_zero, List.getElem?_cons_succ, List.set_cons_zero, List.set_cons_succ, opIx, atI_cons, ixN, opPut, opAdd, opSub, opMul, opFdiv, opMod, opPow, opLt, opLe, opGt, opGe, opIs, opIsNot, D.isNon, truth, bLen, bAbs, bInt, bTuple, bList, isTy, mAppend, mExtend, mPop, Int.reduceLE, Int.reduceLT, Int.reduceToNat, Int.reduceNeg, Int.reduceNe, Option.bind_some, if_true, if_false, ite_true, ite_false, true_and, and_true, Bool.not_true, Bool.not_false, opIadd, Nat.reduceLT, Nat.reduceLeDiff, Int.ofNat_lt, s_dpNil, s_dpCons, s_dpK1, s_dpK2, s_dpK3, s_disp, s_dispK, s_optKV, kvOf, s_dc, s_dcK, s_keys, s_lockK, s_sortIt, mGet, mDPop, dgetR, bDictC, bTupC, opEqD, opNeD, eqDR, D.key, merge_one, optKV, id, opEqL, opNeL, eqLR, $ls,*])
open TL (joinL)
theorem join_nil : ∀ cs : List (List Nat), joinL [] cs = cs.flatten
  | [] => rfl
  | [c] => by simp [joinL]
  | c :: d :: r => by
    show c ++ ([] ++ joinL [] (d :: r)) = _
    rw [join_nil (d :: r)]
    rfl
/-- lines, each with its end -/
def endsT (ls : List (List Nat)) : List Nat := (ls.map (· ++ [10])).flatten
theorem endsT_app (a b : List (List Nat)) : endsT (a ++ b) = endsT a ++ endsT b := by simp [endsT]
theorem endsT_len : ∀ (ls : List (List Nat)) (n : Nat), (∀ l ∈ ls, l.length ≤ n) → (endsT ls).length ≤ ls.length * (n + 1)
  | [], n, _ => by simp [endsT]
  | l :: r, n, h => by
    have h1 := endsT_len r n fun x hx => h x (List.mem_cons_of_mem _ hx)
    have h2 := h l List.mem_cons_self
    show ((l ++ [10]) ++ endsT r).length ≤ _
    simp only [List.length_append, List.length_cons, List.length_nil]
    rw [Nat.add_mul, Nat.one_mul]
    omega
theorem endsT_join : ∀ ls : List (List Nat), endsT ls = joinL [10] (ls ++ [[]])
  | [] => rfl
  | [l] => by simp [endsT, joinL]
  | l :: l2 :: r => by
    have := endsT_join (l2 :: r)
    show (l ++ [10]) ++ endsT (l2 :: r) = l ++ ([10] ++ joinL [10] (l2 :: r ++ [[]]))
    rw [this, List.append_assoc]
theorem prT_max {p : Proc} (h : Raw p) : ∀ l ∈ prT p, l.length ≤ 1200 := fun l hl => ((texts_pr h).each l hl).1
theorem prT_few {p : Proc} (h : Raw p) : (prT p).length ≤ 1100 := by
  have e := dl_text p shown fun _ _ => rfl
  have h1 := procL_few (canon_few h)
  rw [← dprocL_snd, List.length_map] at h1
  rw [← e, List.length_map]
  exact h1
def srcT (ps : List Proc) : List (List Nat) := ps.flatMap prT
def sp_ws : DSp := fun ds M Q E => ∃ (ps : List Proc), ds = [.tup (ps.map Proc.enc)] ∧ (∀ p ∈ ps, Raw p) ∧ ps.length ≤ 4 ∧ ∀ M', Keep [] M M' → Q (.str (S (endsT (srcT ps)))) M'
theorem mono_ws : MonoSp sp_ws := by
  rintro ds M Q Q' E E' hQ hE ⟨ps, h1, h2, h3, h⟩
  exact ⟨ps, h1, h2, h3, fun M' z => hQ _ _ (h M' z)⟩
theorem srcT_few : ∀ ps : List Proc, (∀ p ∈ ps, Raw p) → (srcT ps).length ≤ 1100 * ps.length
  | [], _ => by simp [srcT]
  | p :: r, h => by
    have h1 := srcT_few r fun q hq => h q (List.mem_cons_of_mem _ hq)
    have h2 := prT_few (h p List.mem_cons_self)
    show (prT p ++ srcT r).length ≤ _
    rw [List.length_append, List.length_cons]
    omega
theorem srcT_max {ps : List Proc} (h : ∀ p ∈ ps, Raw p) : ∀ l ∈ srcT ps, l.length ≤ 1200 := fun l hl => by
  obtain ⟨p, hp, hl⟩ := List.mem_flatMap.mp hl
  exact prT_max (h p hp) l hl
theorem join_lines (ls : List (List Nat)) : Txt.join (Str.ofString "") (ls.map fun l => S (l ++ [10])) = S (endsT ls) := by
  have e1 : Str.ofString "" = S [] := by decide +kernel
  rw [e1, show (ls.map fun l => S (l ++ [10])) = (ls.map (· ++ [10])).map S by rw [List.map_map]; rfl, SX.join_S, join_nil]
  rfl
theorem sum_lines (ls : List (List Nat)) (n : Nat) (h : ∀ l ∈ ls, l.length ≤ n) : ((ls.map fun l => S (l ++ [10])).map (·.length)).sum ≤ ls.length * (n + 1) := by
  have := sum_le (ls.map (· ++ [10])) (n + 1) fun l hl => by
    obtain ⟨x, hx, rfl⟩ := List.mem_map.mp hl
    have := h x hx
    simp only [List.length_append, List.length_cons, List.length_nil]
    omega
  rw [List.length_map, List.map_map] at this
  rw [List.map_map]
  exact Nat.le_trans (Nat.le_of_eq (congrArg List.sum (List.map_congr_left fun l _ => len_S _))) this
theorem fn_ws (S0 : Src K mg "write_source" s_write_source ["source"]) (G : GF K mg C_Cursor C_Block C_ProcReader C_Reader v_proc_name) (F_proc_lines : Fn P w K mg base 11 "proc_lines" sp_prl []) : Fn P w K mg base 12 "write_source" sp_ws [] := by
  refine S0.fn mono_ws fun g fd F => fn_ok F sc_write_source (fun ds M Q E h => by obtain ⟨ps, rfl, _⟩ := h; rfl) ⟨_, fun cdv A outer s H E hr => have hu := hr.u200
    (xss_cons (xs_set 1 sc_write_source.nd (xe_lst (n := 0) xa_nil))
 (xss_cons (xs_for (p := .nm 2) bx_passes rfl (xi_walk (xe_var 0)) (xg_name 2 sc_write_source.nd)
 (xss_one (xs_expr (xe_bm PySem.F.plainAttrs_list PySem.F.slot_list_extend PySem.F.type_list_extend m_extend (xe_var 1) (xa_cons (xe_call F_proc_lines (hr.mono (by first | decide | omega)) bx_takes (by rfl) (xa_cons (xe_var 2) xa_nil)) xa_nil)))))
 (xss_one (xs_ret (xe_bm PySem.F.plainAttrs_str PySem.F.slot_str_join PySem.F.type_str_join m_join xe_str (xa_cons (xe_lc (own := [("line", 3)]) (p := .nm 3) rfl sc_write_source.nd (xi_walk (xe_var 1)) (blkOk_by (by first | (show blkC ["source", "lines", "proc", "line"] (defScope s_write_source) _ _ = true; decide +kernel) | kernel_rfl | rfl)) (fun _ _ _ _ _ => (xg_name 3 sc_write_source.nd)) (fun _ _ _ _ _ => xts_nil) (fun _ _ _ _ _ => (xe_bin x_add (xe_var 3) xe_str))) xa_nil)))))), fun ds M Q E h => ?_⟩
  obtain ⟨ps, rfl, hr, hl, h⟩ := h
  have sz : (16777216 : Nat) = sizeLine := sizeLine_eq.symm
  have c10 : cpsL (Str.ofString "\n") = [10] := by decide +kernel
  have e0 : (Str.ofString "").length = 0 := by decide +kernel
  simp! []
  intro f hf
  refine loop_inv Proc.enc (fun rest e M' => ∃ (done : List Proc) (d2 : Option D), done ++ rest = ps ∧ e = [some (.tup (ps.map Proc.enc)), some (.ob f), d2, none] ∧ M' f = some (.lst ((srcT done).map txD)) ∧ Keep [] M M') (fun _ _ _ _ => trivial) ?_ ?_ ps _ _ ⟨[], none, rfl, rfl, by simp [mupd_same, srcT], Keep.new hf⟩
  · rintro p rest e M1 N ⟨done, d2, hd, rfl, hff, k1⟩ hN
    have hp : Raw p := hr p (by rw [← hd]; simp)
    have hfew := srcT_few done fun q hq => hr q (by rw [← hd]; simp [hq])
    have hpf := prT_few hp
    have hdl : done.length ≤ 4 := by
      have := congrArg List.length hd
      rw [List.length_append] at this
      omega
    simp! [hff]
    refine ⟨p, rfl, hp, fun l M2 hl hl2 k2 => ?_⟩
    have f2 := k2 _ _ hff (by simp)
    simp! [f2, hl2, List.length_map]
    refine ⟨by rw [← sz]; omega, ?_⟩
    refine hN _ _ ⟨done ++ [p], _, by rw [← hd]; simp, rfl, ?_, (k1.trans k2).putN hf⟩
    rw [mupd_same]
    simp [srcT]
  · rintro e M1 ⟨done, d2, hd, rfl, hff, k1⟩
    rw [List.append_nil] at hd
    subst hd
    have hfew := srcT_few done hr
    have hmax := srcT_max hr
    simp! [hff]
    intro l2 hl2
    refine lc_pure txD (fun l => .str (S (l ++ [10]))) (fun _ => true) (srcT done) hl2 (fun M' k => .inl (k _ _ hff (by simp))) (by rw [← sz]; omega) (fun l hl M3 N3 sk k3 hy _ => ?_) fun M3 k3 e3 => ?_
    · have := hmax l hl
      simp! [cat_x, cpsL_S, len_x, c10]
      refine ⟨by rw [← sz]; omega, hy rfl _ Keep.refl⟩
    rw [show (srcT done).filter (fun _ => true) = srcT done from List.filter_eq_self.mpr (by simp)] at e3
    have e4 : M3 l2 = some (.lst (((srcT done).map fun l => S (l ++ [10])).map D.str)) := by rw [e3, List.map_map]; rfl
    have hs := sum_lines _ _ hmax
    simp! [mJoin, seqS, lstAt, e4, strsOf_map, Option.bind_some, join_lines]
    refine ⟨by rw [e0, List.length_map]; omega, ?_⟩
    exact h M3 (k1.trans k3)
end K02

set_option maxHeartbeats 4000000
namespace K02
open PySem PySem.Spec PyProof.Rows L2 PL SX
variable {P : Program} {w : World} {K : PySem.W.Frag} {mg : Str → Option Value} {base : Heap} {C_Cursor C_Block C_ProcReader C_Reader v_proc_name : Addr}
local macro_rules | `(tactic| simp! [$ls,*]) => `(tactic| simp only [s_fld, s_fldK, s_insAt, s_optD, s_obAt, s_fput, s_fputK1, s_fputK2, s_faug, s_faugK1, s_faugK2, s_faugK3, s_meth, s_methK1, s_methK2, s_make, s_makeK, s_makeK2, s_dead, s_tryN, noX_nx, noX_rt, noX_bk, noX_ct, mSplit, opMulS, s_enum, s_enumK, s_sortBy, s_sortByK, look_nil, look_cons, putFD_nil, putFD_cons, List.append_nil, to_nx, to_rt, to_bk, to_ct, to_ex, lp_nx, lp_rt, lp_bk, lp_ct, lp_ex, ret_nx, ret_rt, ret_ex, s_exK, s_bif1, s_bif0, s_optB, s_optE, s_nxD, s_ifK, s_asgN, s_asgT, s_asgL, b_nil, b_nm, b_tp, s_next, s_seq, s_drop, s_ret, s_retN, s_ifS, s_asg, s_brk, s_cont, s_put, s_put1, s_put2, s_put3, s_aug, s_augV, s_augK, s_augK2, s_bin, s_bin1, s_bin2, s_var, s_varK, s_C, s_cb, s_cbK, s_call, s_callK, s_m, s_m1, s_m2, s_nil, s_cons, s_cons1, s_cons2, s_tup, s_tupK, s_lst, s_lstK, s_truth, s_trK, s_tK, s_eK, s_cK, s_and, s_andK, s_or, s_orK, s_not, s_notK, s_ife, s_ifeK, s_andV, s_orV, s_andvK, s_orvK, s_andvK2, s_orvK2, s_notV, s_notvK, s_blK, s_neg, s_negK, s_sl, s_sl1, s_sl2, s_sl3, s_noPart, s_part, s_partK, s_rev, s_revK, s_for, s_forK, s_lc, s_lcK, s_yes, s_walk, s_walkT, s_walkS, s_walkA, s_walkL, s_walkR, s_rng1, s_rng2, s_rng1K, s_rng2K, s_callL, s_callLK, s_callLO, s_clK, s_raise, r_val, r_new, r_put, s_whK, s_lcY, s_lcT, s_lcE, s_cg, s_cgK, s_rng3, s_rng3K, s_lcB, s_lcS, wipeD, Pat.bind, seqOf, rg, s_dict0, s_sortSet, s_sortSetK, q_is_tuple, q_is_str, q_is_int, q_is_bool, q_is_list, q_isR, ofS_inj, String.reduceEq, q_eqI, q_neI, q_eqS, q_neS, decide_true, decide_false, Int.reduceEq, reduceCtorEq, i_NoneType_tuple, i_NoneType_str, i_NoneType_int, i_NoneType_bool, i_NoneType_list, i_bool_tuple, i_bool_str, i_bool_int, i_bool_bool, i_bool_list, i_int_tuple, i_int_str, i_int_int, i_int_bool, i_int_list, i_str_tuple, i_str_str, i_str_int, i_str_bool, i_str_list, i_tuple_tuple, i_tuple_str, i_tuple_int, i_tuple_bool, i_tuple_list, i_list_tuple, i_list_str, i_list_int, i_list_bool, i_list_list, i_dict_tuple, i_dict_str, i_dict_int, i_dict_bool, i_dict_list, tyN, startD, mupd_same, mupd_ne, ne_eq, not_false_eq_true, List.map_cons, List.map_nil, List.length_cons, List.length_nil, List.replicate_succ, List.replicate_zero, Nat.zero_add, Nat.reduceAdd, Nat.reduceSub, Int.cast_ofNat_Int, List.cons_append, List.nil_append, List.getElem?_cons_zero, List.getElem?_cons_succ, List.set_cons_zero, List.set_cons_succ, opIx, atI_cons, ixN, opPut, opAdd, opSub, opMul, opFdiv, opMod, opPow, opLt, opLe, opGt, opGe, opIs, opIsNot, D.isNon, truth, bLen, bAbs, bInt, bTuple, bList, isTy, mAppend, mExtend, mPop, Int.reduceLE, Int.reduceLT, Int.reduceToNat, Int.reduceNeg, Int.reduceNe, Option.bind_some, if_true, if_false, ite_true, ite_false, true_and, and_true, Bool.not_true, Bool.not_false, opIadd, Nat.reduceLT, Nat.reduceLeDiff, Int.ofNat_lt, s_dpNil, s_dpCons, s_dpK1, s_dpK2, s_dpK3, s_disp, s_dispK, s_optKV, kvOf, s_dc, s_dcK, s_keys, s_lockK, s_sortIt, mGet, mDPop, dgetR, bDictC, bTupC, opEqD, opNeD, eqDR, D.key, merge_one, optKV, id, opEqL, opNeL, eqLR, $ls,*])
open TL (joinL)
def shownL (ps : List Part) : List Part := if (norm ps).isEmpty = true then [(kNone, e0, e0)] else norm ps
theorem shownL_toks (ps : List Part) : partsToks (shownL ps) = partsToks (shown ps) := by
  unfold shownL shown
  split
  · decide +kernel
  · rfl
def lawP (p : Proc) : Proc := { p with need := norm p.need, ens := p.ens.map shownL }
theorem lawP_lines (p : Proc) : procL (lawP p) = procL (canon p) := by
  have e : (p.ens.map shownL).map (fun q => wEns :: partsToks q) = (p.ens.map shown).map fun q => wEns :: partsToks q := by
    rw [List.map_map, List.map_map]
    exact List.map_congr_left fun q _ => by show wEns :: partsToks (shownL q) = wEns :: partsToks (shown q); rw [shownL_toks]
  unfold procL headL lawP canon
  simp only [e]
theorem rep_sp2 (n : Nat) : (⟨(List.replicate n (Str.ofString "  ").cps.toList).flatten.toArray⟩ : Str) = S (List.replicate (2 * n) 32) := by
  have e : (Str.ofString "  ").cps.toList = [32, 32] := by decide +kernel
  rw [e]
  have : (List.replicate n [32, 32]).flatten = List.replicate (2 * n) 32 := by
    induction n with
    | zero => rfl
    | succ n ih => rw [List.replicate_succ, List.flatten_cons, ih, show 2 * (n + 1) = 2 * n + 1 + 1 by omega, List.replicate_succ, List.replicate_succ]; rfl
  rw [this]
theorem shownL_ok {ps : List Part} (h : ∀ q ∈ ps, PartOk q) (hl : ps.length ≤ 4) : (shownL ps).length ≤ 100 ∧ ∀ q ∈ shownL ps, KindOk q := by
  have hn := norm_len ps
  unfold shownL
  split
  · refine ⟨by simp, fun q hq => ?_⟩
    rw [List.mem_singleton.mp hq]
    exact .inr (.inr (.inr (.inr rfl)))
  · exact ⟨by omega, fun q hq => (norm_ok h q hq).1.1⟩
def sp_written : DSp := fun ds M Q E => ∃ (p : Proc), ds = [p.enc] ∧ Raw p ∧ ∀ M', Keep [] M M' → Q (.str (S (endsT (prT p)))) M'
theorem mono_written : MonoSp sp_written := by
  rintro ds M Q Q' E E' hQ hE ⟨p, h1, h2, h⟩
  exact ⟨p, h1, h2, fun M' z => hQ _ _ (h M' z)⟩
theorem fn_written (S0 : Src K mg "_law_written" s__law_written ["proc"]) (G : GF K mg C_Cursor C_Block C_ProcReader C_Reader v_proc_name) (F__law_parts_of : Fn P w K mg base 1 "_law_parts_of" sp_partsof []) (F__law_proc_lines : Fn P w K mg base 9 "_law_proc_lines" sp_pl []) (F__law_spaced : Fn P w K mg base 1 "_law_spaced" sp_spaced []) : Fn P w K mg base 10 "_law_written" sp_written [] := by
  refine S0.fn mono_written fun g fd F => fn_ok F sc__law_written (fun ds M Q E h => by obtain ⟨p, rfl, _⟩ := h; rfl) ⟨_, fun cdv A outer s H E hr => have hu := hr.u200
    (xss_cons (xs_asg (p := .tp [.nm 1, .nm 2, .nm 3, .nm 4, .nm 5, .nm 6]) (xe_var 0) (xg_tup rfl (xgs_cons (xg_name 1 sc__law_written.nd) (xgs_cons (xg_name 2 sc__law_written.nd) (xgs_cons (xg_name 3 sc__law_written.nd) (xgs_cons (xg_name 4 sc__law_written.nd) (xgs_cons (xg_name 5 sc__law_written.nd) (xgs_cons (xg_name 6 sc__law_written.nd) xgs_nil))))))))
 (xss_cons (xs_set 7 sc__law_written.nd (xe_lst (n := 0) xa_nil))
 (xss_cons (xs_for (p := .nm 8) bx_passes rfl (xi_walk (xe_var 5)) (xg_name 8 sc__law_written.nd)
 (xss_one (xs_expr (xe_bm PySem.F.plainAttrs_list PySem.F.slot_list_append PySem.F.type_list_append m_append (xe_var 7) (xa_cons (xe_bin x_add (xe_call F__law_parts_of (hr.mono (by first | decide | omega)) bx_takes (by rfl) (xa_cons (xe_var 8) xa_nil)) (xe_sl (xe_lst (n := 1) (xa_cons (xe_tup (n := 3) (xa_cons xe_str (xa_cons xe_str (xa_cons xe_str xa_nil)))) xa_nil)) xo_none (xo_some (xe_callTy c_int (by rfl) G.int (by decide +kernel) (xa_cons (xe_cmp (x_eqL hu) (xe_call F__law_parts_of (hr.mono (by first | decide | omega)) bx_takes (by rfl) (xa_cons (xe_var 8) xa_nil)) (xe_lst (n := 0) xa_nil) (nomark _)) xa_nil))))) xa_nil)))))
 (xss_cons (xs_set 9 sc__law_written.nd (xe_call F__law_proc_lines (hr.mono (by first | decide | omega)) bx_takes (by rfl) (xa_cons (xe_var 1) (xa_cons (xe_var 2) (xa_cons (xe_var 3) (xa_cons (xe_call F__law_parts_of (hr.mono (by first | decide | omega)) bx_takes (by rfl) (xa_cons (xe_var 4) xa_nil)) (xa_cons (xe_var 7) (xa_cons (xe_var 6) xa_nil))))))))
 (xss_one (xs_ret (xe_bm PySem.F.plainAttrs_str PySem.F.slot_str_join PySem.F.type_str_join m_join xe_str (xa_cons (xe_lc (own := [("deep", 10), ("tokens", 11)]) (p := .tp [.nm 10, .nm 11]) rfl sc__law_written.nd (xi_walk (xe_var 9)) (blkOk_by (by first | (show blkC ["proc", "name", "parameters", "places", "need", "ensures", "body", "shown", "picture", "lines", "deep", "tokens"] (defScope s__law_written) _ _ = true; decide +kernel) | kernel_rfl | rfl)) (fun _ _ _ _ _ => (xg_tup rfl (xgs_cons (xg_name 10 sc__law_written.nd) (xgs_cons (xg_name 11 sc__law_written.nd) xgs_nil)))) (fun _ _ _ _ _ => xts_nil) (fun _ _ _ _ _ => (xe_bin x_add (xe_bin x_add (xe_bin x_mulS xe_str (xe_var 10)) (xe_call F__law_spaced (hr.mono (by first | decide | omega)) takes0 (by rfl) (xa_cons (xe_var 11) xa_nil))) xe_str))) xa_nil)))))))), fun ds M Q E h => ?_⟩
  obtain ⟨p, rfl, hr, h⟩ := h
  have sz : (16777216 : Nat) = sizeLine := sizeLine_eq.symm
  have c10 : cpsL (Str.ofString "\n") = [10] := by decide +kernel
  have e0l : (Str.ofString "").length = 0 := by decide +kernel
  simp! [Proc.enc]
  intro sh hsh
  refine loop_inv picD (fun rest e M' => ∃ (done : List (List Part)) (es : List (Addr × List Part)) (d7 : Option D), done ++ rest = p.ens ∧ e = [some p.enc, some (.str p.name), some (.tup (p.params.map D.str)), some (.tup (p.places.map D.str)), some (picD p.need), some (.tup (p.ens.map picD)), some (.tup (encB p.body)), some (.ob sh), d7, none, none, none] ∧ M' sh = some (.lst (es.map fun e => .ob e.1)) ∧ es.map (·.2) = done.map shownL ∧ (∀ e ∈ es, M' e.1 = some (.lst (e.2.map partD)) ∧ e.1 ≠ sh) ∧ Keep [] M M') (fun _ _ _ _ => trivial) ?_ ?_ p.ens _ _ ⟨[], [], none, rfl, rfl, by simp [mupd_same], rfl, (fun e he => by cases he), Keep.new hsh⟩
  · rintro q rest e M1 N ⟨done, es, d7, hd, rfl, hs1, hes, hea, k1⟩ hN
    have hq : q ∈ p.ens := by rw [← hd]; simp
    obtain ⟨hq1, hq2⟩ := hr.ens q hq
    simp! [hs1]
    refine ⟨q, rfl, by omega, fun l2 M2 h2 a2 k2 => ?_⟩
    have s2 := k2 _ _ hs1 (by simp)
    simp! []
    intro l3 h3
    have k12 := k1.trans k2
    have a3 := put_at (o' := .lst [partD (kNone, e0, e0)]) a2 h3
    have s3 := put_at (o' := .lst [partD (kNone, e0, e0)]) s2 h3
    have b3 : (mupd M2 l3 (.lst [partD (kNone, e0, e0)])) l3 = some (.lst [partD (kNone, e0, e0)]) := mupd_same
    have k3 : Keep [] M (mupd M2 l3 (.lst [partD (kNone, e0, e0)])) := k12.trans (Keep.new h3)
    have k23 : Keep [] M1 (mupd M2 l3 (.lst [partD (kNone, e0, e0)])) := k2.trans (Keep.new h3)
    change sp_partsof [picD q] (mupd M2 l3 (.lst [partD (kNone, e0, e0)])) _ _
    generalize mupd M2 l3 _ = M3 at a3 s3 b3 k3 k23 ⊢
    refine ⟨q, rfl, by omega, fun l4 M4 h4 a4 k4 => ?_⟩
    have b4 := k4 _ _ b3 (by simp)
    have s4 := k4 _ _ s3 (by simp)
    have c4 := k4 _ _ a3 (by simp)
    have k34 := k3.trans k4
    have k24 := k23.trans k4
    have hnl := norm_len q
    have hel : es.length ≤ 4 := by
      have e1 := congrArg List.length hes
      rw [List.length_map, List.length_map] at e1
      have e2 := congrArg List.length hd
      rw [List.length_append] at e2
      have := hr.elen
      omega
    have ec1 : PL.cutD [partD (kNone, e0, e0)] none (some 1) = [partD (kNone, e0, e0)] := rfl
    have ec0 : PL.cutD [partD (kNone, e0, e0)] none (some 0) = [] := rfl
    have fin : ∀ l7 M7, M4 l7 = none → M7 l7 = some (.lst ((shownL q).map partD)) → Keep [] M4 M7 → M7 sh = some (.lst (es.map fun e => .ob e.1)) → N [some p.enc, some (.str p.name), some (.tup (p.params.map D.str)), some (.tup (p.places.map D.str)), some (picD p.need), some (.tup (p.ens.map picD)), some (.tup (encB p.body)), some (.ob sh), some (picD q), none, none, none] (mupd M7 sh (.lst ((es.map fun e => .ob e.1) ++ [.ob l7]))) := by
      intro l7 M7 h7 a7 k7 s7
      have n7 : l7 ≠ sh := (ne_new s4 h7).symm
      refine hN _ _ ⟨done ++ [q], es ++ [(l7, shownL q)], _, by rw [← hd]; simp, rfl, by rw [mupd_same]; simp, by simp [hes], fun e he => ?_, (k34.trans k7).putN hsh⟩
      rcases List.mem_append.mp he with he | he
      · obtain ⟨z1, z2⟩ := hea e he
        exact ⟨by rw [mupd_ne z2]; exact (k24.trans k7) _ _ z1 (by simp), z2⟩
      · rw [List.mem_singleton.mp he]
        exact ⟨by rw [mupd_ne n7]; exact a7, n7⟩
    simp! []
    intro l5 h5
    have a5 := put_at (o' := .lst []) a4 h5
    have b5 := put_at (o' := .lst []) b4 h5
    have c5 := put_at (o' := .lst []) c4 h5
    have s5 := put_at (o' := .lst []) s4 h5
    have d5 : (mupd M4 l5 (.lst [])) l5 = some (.lst []) := mupd_same
    have k45 : Keep [] M4 (mupd M4 l5 (.lst [])) := Keep.new h5
    generalize mupd M4 l5 _ = M5 at a5 b5 c5 d5 s5 k45 ⊢
    cases en : norm q with
    | nil =>
      have esh : shownL q = [(kNone, e0, e0)] := by unfold shownL; rw [en]; rfl
      rw [en] at a5 c5
      rw [esh] at fin
      simp only [List.map_nil] at a5 c5
      simp! [a5, d5]
      refine ⟨.inl trivial, ?_⟩
      simp! [opSl, b5, ec1]
      intro l6 h6
      have c6 := put_at (o' := .lst [partD (kNone, e0, e0)]) c5 h6
      have s6 := put_at (o' := .lst [partD (kNone, e0, e0)]) s5 h6
      have d6 : (mupd M5 l6 (.lst [partD (kNone, e0, e0)])) l6 = some (.lst [partD (kNone, e0, e0)]) := mupd_same
      have k46 : Keep [] M4 (mupd M5 l6 (.lst [partD (kNone, e0, e0)])) := k45.trans (Keep.new h6)
      generalize mupd M5 l6 _ = M6 at c6 s6 d6 k46 ⊢
      simp! [c6, d6, List.length_map]
      refine ⟨by rw [← sz]; (try simp only [List.length_cons, List.length_nil]); omega, fun l7 h7 => ?_⟩
      have s7 := put_at (o' := .lst [partD (kNone, e0, e0)]) s6 h7
      have d7 : (mupd M6 l7 (.lst [partD (kNone, e0, e0)])) l7 = some (.lst [partD (kNone, e0, e0)]) := mupd_same
      have k47 : Keep [] M4 (mupd M6 l7 (.lst [partD (kNone, e0, e0)])) := k46.trans (Keep.new h7)
      have n7 : M4 l7 = none := k46.fresh h7
      generalize mupd M6 l7 _ = M7 at s7 d7 k47 ⊢
      simp! [s7, List.length_map]
      refine ⟨by rw [← sz]; omega, ?_⟩
      exact fin l7 M7 n7 d7 k47 s7
    | cons z r =>
      have esh : shownL q = z :: r := by unfold shownL; rw [en]; rfl
      rw [en] at a5 c5 hnl
      rw [esh] at fin
      simp only [List.length_cons] at hnl
      simp! [a5, d5]
      refine ⟨.inr trivial, ?_⟩
      simp! [opSl, b5, ec0]
      intro l6 h6
      have c6 := put_at (o' := .lst []) c5 h6
      have s6 := put_at (o' := .lst []) s5 h6
      have d6 : (mupd M5 l6 (.lst [])) l6 = some (.lst []) := mupd_same
      have k46 : Keep [] M4 (mupd M5 l6 (.lst [])) := k45.trans (Keep.new h6)
      generalize mupd M5 l6 _ = M6 at c6 s6 d6 k46 ⊢
      simp! [c6, d6, List.length_map]
      refine ⟨by rw [← sz]; (try simp only [List.length_cons, List.length_nil]); omega, fun l7 h7 => ?_⟩
      have s7 := put_at (o' := .lst (partD z :: r.map partD)) s6 h7
      have d7 : (mupd M6 l7 (.lst (partD z :: r.map partD))) l7 = some (.lst (partD z :: r.map partD)) := mupd_same
      have k47 : Keep [] M4 (mupd M6 l7 (.lst (partD z :: r.map partD))) := k46.trans (Keep.new h7)
      have n7 : M4 l7 = none := k46.fresh h7
      generalize mupd M6 l7 _ = M7 at s7 d7 k47 ⊢
      simp! [s7, List.length_map]
      refine ⟨by rw [← sz]; omega, ?_⟩
      exact fin l7 M7 n7 d7 k47 s7
  · rintro e M1 ⟨done, es, d7, hd, rfl, hs1, hes, hea, k1⟩
    rw [List.append_nil] at hd
    subst hd
    simp! []
    have hpens : (lawP p).ens = es.map (·.2) := hes.symm
    have hnl := norm_len p.need
    have q3 := hr.nlen
    have q4 := hr.elen
    have hel : es.length ≤ 4 := by
      have e1 := congrArg List.length hes
      rw [List.length_map, List.length_map] at e1
      omega
    refine ⟨p.need, rfl, by omega, fun nd M2 hnd hnd2 k2 => ?_⟩
    have s2 := k2 _ _ hs1 (by simp)
    have k12 := k1.trans k2
    simp! []
    refine ⟨lawP p, nd, sh, es, rfl, hnd2, s2, fun e he => k2 _ _ (hea e he).1 (by simp), hpens, by have := hr.plen; show p.params.length ≤ 100; omega, by have := hr.llen; show p.places.length ≤ 100; omega, by show (norm p.need).length ≤ 100; omega, fun q hq => (norm_ok hr.need q hq).1.1, by omega, fun e he => ?_, OkB.up 3 4 _ (by decide) hr.body, hr.blen, fun fz zs M3 hfd => ?_⟩
    · have : e.2 ∈ (lawP p).ens := by rw [hpens]; exact List.mem_map_of_mem he
      obtain ⟨q, hq, eq⟩ := List.mem_map.mp (show e.2 ∈ p.ens.map shownL from this)
      obtain ⟨o1, o2⟩ := hr.ens q hq
      rw [← eq]
      exact shownL_ok o1 o2
    have etx : (dprocL (lawP p)).map lineT = prT p := dl_text p shownL fun q _ => shownL_toks q
    have hlt : ∀ z ∈ zs, LineTok z.2.2 := fun z hz => by
      refine procL_tok (canon_few hr) z.2.2 ?_
      rw [← lawP_lines, ← dprocL_snd, ← hfd.eq, List.map_map]
      exact List.mem_map_of_mem (f := (·.2.2)) hz
    have hdz : ∀ z ∈ zs, 0 ≤ z.1 ∧ z.1 ≤ 10 := fun z hz => dep_le (p := lawP p) hr.body (z.1, z.2.2) (by rw [← hfd.eq]; exact List.mem_map_of_mem (f := fun z : Ln => (z.1, z.2.2)) hz)
    have hzl : zs.length ≤ 1100 := by
      have e1 := hfd.len
      have e2 := prT_few hr
      rw [← etx, List.length_map] at e2
      omega
    have hff := hfd.ff
    simp! [hff]
    intro l4 h4
    refine lc_pure lnD (fun z => .str (S (lineT (z.1, z.2.2) ++ [10]))) (fun _ => true) zs h4 (fun M' k => .inl (k _ _ hff (by simp))) (by rw [← sz]; omega) (fun z hz M5 N sk k5 hy _ => ?_) fun M5 k5 e5 => ?_
    · obtain ⟨d0, d1⟩ := hdz z hz
      have ht := hlt z hz
      have hsl := line_len ht
      have za := k5 _ _ (hfd.ln z hz).1 (by simp)
      have u2 : 1 ≤ (Str.ofString "  ").length ∧ (Str.ofString "  ").length ≤ 1000 := by decide +kernel
      simp! [lnD, rep_sp2]
      refine ⟨⟨u2.1, d0, by omega, u2.2⟩, z.2.1, z.2.2, rfl, za, (hfd.ln z hz).2, by have := ht.2.1; rw [List.length_map] at this; omega, fun t hm => tok_len (ht.2.2.1 _ (List.mem_map_of_mem hm)), fun M6 k6 => ?_⟩
      simp! [cat_x, cpsL_S, len_x, c10]
      refine ⟨by rw [← sz]; (try simp only [List.length_replicate]); omega, by rw [← sz]; (try simp only [List.length_append, List.length_replicate]); omega, ?_⟩
      exact hy rfl _ k6
    rw [show zs.filter (fun _ => true) = zs from List.filter_eq_self.mpr (by simp)] at e5
    have ezs : zs.map (fun z => lineT (z.1, z.2.2)) = prT p := by
      rw [← etx, ← hfd.eq, List.map_map]
      rfl
    have e6 : M5 l4 = some (.lst (((prT p).map fun l => S (l ++ [10])).map D.str)) := by rw [e5, ← ezs, List.map_map, List.map_map]; rfl
    have hs := sum_lines _ _ (prT_max hr)
    have hpf := prT_few hr
    simp! [mJoin, seqS, lstAt, e6, strsOf_map, Option.bind_some, join_lines]
    refine ⟨by rw [e0l, List.length_map]; omega, ?_⟩
    exact h M5 ((k12.trans hfd.k).trans k5)
end K02

set_option maxHeartbeats 4000000
namespace K02
open PySem PySem.Spec PyProof.Rows L2 PL SX
variable {P : Program} {w : World} {K : PySem.W.Frag} {mg : Str → Option Value} {base : Heap} {C_Cursor C_Block C_ProcReader C_Reader v_proc_name : Addr}
local macro_rules | `(tactic| simp! [$ls,*]) => `(tactic| simp only [s_fld, s_fldK, s_insAt, s_optD, s_obAt, s_fput, s_fputK1, s_fputK2, s_faug, s_faugK1, s_faugK2, s_faugK3, s_meth, s_methK1, s_methK2, s_make, s_makeK, s_makeK2, s_dead, s_tryN, noX_nx, noX_rt, noX_bk, noX_ct, mSplit, opMulS, s_enum, s_enumK, s_sortBy, s_sortByK, look_nil, look_cons, putFD_nil, putFD_cons, List.append_nil, to_nx, to_rt, to_bk, to_ct, to_ex, lp_nx, lp_rt, lp_bk, lp_ct, lp_ex, ret_nx, ret_rt, ret_ex, s_exK, s_bif1, s_bif0, s_optB, s_optE, s_nxD, s_ifK, s_asgN, s_asgT, s_asgL, b_nil, b_nm, b_tp, s_next, s_seq, s_drop, s_ret, s_retN, s_ifS, s_asg, s_brk, s_cont, s_put, s_put1, s_put2, s_put3, s_aug, s_augV, s_augK, s_augK2, s_bin, s_bin1, s_bin2, s_var, s_varK, s_C, s_cb, s_cbK, s_call, s_callK, s_m, s_m1, s_m2, s_nil, s_cons, s_cons1, s_cons2, s_tup, s_tupK, s_lst, s_lstK, s_truth, s_trK, s_tK, s_eK, s_cK, s_and, s_andK, s_or, s_orK, s_not, s_notK, s_ife, s_ifeK, s_andV, s_orV, s_andvK, s_orvK, s_andvK2, s_orvK2, s_notV, s_notvK, s_blK, s_neg, s_negK, s_sl, s_sl1, s_sl2, s_sl3, s_noPart, s_part, s_partK, s_rev, s_revK, s_for, s_forK, s_lc, s_lcK, s_yes, s_walk, s_walkT, s_walkS, s_walkA, s_walkL, s_walkR, s_rng1, s_rng2, s_rng1K, s_rng2K, s_callL, s_callLK, s_callLO, s_clK, s_raise, r_val, r_new, r_put, s_whK, s_lcY, s_lcT, s_lcE, s_cg, s_cgK, s_rng3, s_rng3K, s_lcB, s_lcS, wipeD, Pat.bind, seqOf, rg, s_dict0, s_sortSet, s_sortSetK, q_is_tuple, q_is_str, q_is_int, q_is_bool, q_is_list, q_isR, ofS_inj, String.reduceEq, q_eqI, q_neI, q_eqS, q_neS, decide_true, decide_false, Int.reduceEq, reduceCtorEq, i_NoneType_tuple, i_NoneType_str, i_NoneType_int, i_NoneType_bool, i_NoneType_list, i_bool_tuple, i_bool_str, i_bool_int, i_bool_bool, i_bool_list, i_int_tuple, i_int_str, i_int_int, i_int_bool, i_int_list, i_str_tuple, i_str_str, i_str_int, i_str_bool, i_str_list, i_tuple_tuple, i_tuple_str, i_tuple_int, i_tuple_bool, i_tuple_list, i_list_tuple, i_list_str, i_list_int, i_list_bool, i_list_list, i_dict_tuple, i_dict_str, i_dict_int, i_dict_bool, i_dict_list, tyN, startD, mupd_same, mupd_ne, ne_eq, not_false_eq_true, List.map_cons, List.map_nil, List.length_cons, List.length_nil, List.replicate_succ, List.replicate_zero, Nat.zero_add, Nat.reduceAdd, Nat.reduceSub, Int.cast_ofNat_Int, List.cons_append, List.nil_append, List.getElem?_cons_zero, List.getElem?_cons_succ, List.set_cons_zero, List.set_cons_succ, opIx, atI_cons, ixN, opPut, opAdd, opSub, opMul, opFdiv, opMod, opPow, opLt, opLe, opGt, opGe, opIs, opIsNot, D.isNon, truth, bLen, bAbs, bInt, bTuple, bList, isTy, mAppend, mExtend, mPop, Int.reduceLE, Int.reduceLT, Int.reduceToNat, Int.reduceNeg, Int.reduceNe, Option.bind_some, if_true, if_false, ite_true, ite_false, true_and, and_true, Bool.not_true, Bool.not_false, opIadd, Nat.reduceLT, Nat.reduceLeDiff, Int.ofNat_lt, s_dpNil, s_dpCons, s_dpK1, s_dpK2, s_dpK3, s_disp, s_dispK, s_optKV, kvOf, s_dc, s_dcK, s_keys, s_lockK, s_sortIt, mGet, mDPop, dgetR, bDictC, bTupC, opEqD, opNeD, eqDR, D.key, merge_one, optKV, id, opEqL, opNeL, eqLR, $ls,*])
open TL (joinL)
theorem fn_same (S : Src K mg "_law_same" s__law_same ["x", "y"]) (G : GF K mg C_Cursor C_Block C_ProcReader C_Reader v_proc_name) (F__law_is_int : Fn P w K mg base 1 "_law_is_int" sp_is_int []) : ∀ n, Fn P w K mg base (n + 2) "_law_same" (sp_same n) [] := by
  intro n
  induction n with
  | zero => exact S.fn mono_same fun f fd F => fn_none fun ds M Q E ⟨d, _, _, h, _⟩ => by omega
  | succ n F__law_same =>
  refine S.fn mono_same fun f fd F => fn_ok F sc__law_same (fun ds M Q E h => by obtain ⟨d, rfl, _⟩ := h; rfl) ⟨_, fun cdv A outer s H E hr => have hu := hr.u200
    (xss_cons (xs_if (xt_val (xe_callB c_isi (by rfl) G.isinstance (by decide +kernel) (xa_cons (xe_var 1) (xa_cons (xe_bltn (v := .ty "tuple") (by rfl) G.tuple (by decide +kernel) rfl) xa_nil))))
 (xss_cons (xs_if (xt_wh (xw_or (xt_not (xt_val (xe_callB c_isi (by rfl) G.isinstance (by decide +kernel) (xa_cons (xe_var 0) (xa_cons (xe_bltn (v := .ty "tuple") (by rfl) G.tuple (by decide +kernel) rfl) xa_nil))))) (xw_or1 (xt_cmp (x_ne hu) (xe_callB c_len (by rfl) G.len (by decide +kernel) (xa_cons (xe_var 0) xa_nil)) (xe_callB c_len (by rfl) G.len (by decide +kernel) (xa_cons (xe_var 1) xa_nil)) (nomark _) bl_ne))))
 (xss_one (xs_ret xe_bl))
 xss_nil)
 (xss_one (xs_ret (xe_callB (c_all rfl) (by rfl) G.all (by decide +kernel) (xa_cons (xe_lc (own := [("k", 2)]) (p := .nm 2) rfl sc__law_same.nd (xi_range1 (by rfl) G.range (xa_cons (xe_callB c_len (by rfl) G.len (by decide +kernel) (xa_cons (xe_var 1) xa_nil)) xa_nil)) (blkOk_by (by first | (show blkC ["x", "y", "k"] (defScope s__law_same) _ _ = true; decide +kernel) | kernel_rfl | rfl)) (fun _ _ _ _ _ => (xg_name 2 sc__law_same.nd)) (fun _ _ _ _ _ => xts_nil) (fun _ _ _ _ _ => (xe_call F__law_same (hr.mono (by first | decide | omega)) takes0 (by rfl) (xa_cons (xe_ix hu (xe_var 0) (xe_var 2)) (xa_cons (xe_ix hu (xe_var 1) (xe_var 2)) xa_nil))))) xa_nil)))))
 xss_nil)
 (xss_cons (xs_if (xt_val (xe_callB c_isi (by rfl) G.isinstance (by decide +kernel) (xa_cons (xe_var 1) (xa_cons (xe_bltn (v := .ty "str") (by rfl) G.str (by decide +kernel) rfl) xa_nil))))
 (xss_one (xs_ret (xe_and (xe_callB c_isi (by rfl) G.isinstance (by decide +kernel) (xa_cons (xe_var 0) (xa_cons (xe_bltn (v := .ty "str") (by rfl) G.str (by decide +kernel) rfl) xa_nil))) (xe_one (xe_cmp (x_eq hu) (xe_var 0) (xe_var 1) (nomark _))))))
 xss_nil)
 (xss_one (xs_ret (xe_and (xe_call F__law_is_int (hr.mono (by first | decide | omega)) bx_takes (by rfl) (xa_cons (xe_var 0) xa_nil)) (xe_one (xe_cmp (x_eq hu) (xe_var 0) (xe_var 1) (nomark _)))))))), fun ds M Q E h => ?_⟩
  obtain ⟨d, rfl, hd, hn, h⟩ := h
  match d, hd with
  | .v (.int i), hd =>
    simp! []
    refine ⟨i, rfl, ?_⟩
    simp! []
    exact h _ Keep.refl
  | .v (.str x), hd =>
    simp! []
    exact h _ Keep.refl
  | .tup es, hd =>
    simp only [D.dat, Bool.and_eq_true, decide_eq_true_eq] at hd
    simp only [D.dp] at hn
    simp! []
    refine ⟨by omega, fun a ha => ?_⟩
    refine lc_pure (fun i : Nat => D.int (0 + (i : Int))) (fun _ => D.bl true) (fun _ => true) (List.range _) ha (fun _ _ => trivial) (by rw [List.length_range, sizeLine_eq]; omega) (fun i hi M' N sk k hy _ => ?_) fun M' k e => ?_
    · have hi := List.mem_range.mp hi
      have hi2 : i < es.length := by omega
      simp! [atI_nat' hi2]
      refine ⟨es[i], rfl, datL_mem hd.2 _ (List.getElem_mem hi2), dpL_mem (n := n - 1) (by omega) _ (List.getElem_mem hi2) |> fun z => by omega, fun M'' k2 => hy rfl M'' k2⟩
    · simp! []
      exact run_all (g := fun _ => true) e (by rw [show (List.all _ fun _ => true) = true by simp]; exact h M' k)
theorem proc_dat {p : Proc} (h : p.Few) : p.enc.dat = true ∧ p.enc.dp ≤ 10 := by
  have n1 := h.a
  have n2 := h.b
  have n3 := h.c
  have n4 := h.d
  have n5 := h.ok.blen
  have h1 := strs_dat (ss := p.params) (by omega)
  have h2 := strs_dat (ss := p.places) (by omega)
  have h3 := picD_dat (ps := p.need) (by omega)
  have h4 : ∀ d ∈ p.ens.map picD, d.dat = true ∧ d.dp ≤ 3 := fun d hd => by
    obtain ⟨q, hq, rfl⟩ := List.mem_map.mp hd
    exact picD_dat (by have := h.e q hq; omega)
  have h5 := dat_tup (ds := p.ens.map picD) (by rw [List.length_map]; omega) fun d hd => (h4 d hd).1
  have h6 := dp_tup (n := 3) fun d hd => (h4 d hd).2
  have h7 := stmB_dat 3 p.body h.body
  have h8 := dat_tup (ds := encB p.body) (by rw [encB_len]; omega) h7.1
  have h9 := dp_tup h7.2
  have e : ∀ d ∈ [D.str p.name, .tup (p.params.map D.str), .tup (p.places.map D.str), picD p.need, .tup (p.ens.map picD), .tup (encB p.body)], d.dat = true ∧ d.dp ≤ 9 := fun d hd => by
    simp only [List.mem_cons, List.not_mem_nil, or_false] at hd
    rcases hd with rfl | rfl | rfl | rfl | rfl | rfl
    · exact ⟨rfl, Nat.zero_le _⟩
    · exact ⟨h1.1, by omega⟩
    · exact ⟨h2.1, by omega⟩
    · exact ⟨h3.1, by omega⟩
    · exact ⟨h5, by omega⟩
    · exact ⟨h8, h9⟩
  exact ⟨dat_tup (by simp) fun d hd => (e d hd).1, dp_tup fun d hd => (e d hd).2⟩
theorem Texts.ne {a : List (List Str)} {x : List (List Nat)} (h : Texts a x) (ha : a ≠ []) : x ≠ [] := by
  cases h with
  | nil => exact absurd rfl ha
  | blank => simp
  | line => simp
theorem text_split {ls : List (List Nat)} (h0 : ls ≠ []) (h : ∀ l ∈ ls, 10 ∉ l) : Txt.split (S (joinL [10] ls)) (Str.ofString "\n") = ls.map S := by
  have e : Str.ofString "\n" = S [10] := by decide +kernel
  rw [e, SX.split_S (by simp) (by decide), SX.spl_join h0 h]
theorem raw_dat {p : Proc} (h : Raw p) : p.enc.dat = true ∧ p.enc.dp ≤ 10 := by
  have := proc_dat (canon_few h)
  rw [canon_enc] at this
  exact this
end K02

set_option maxHeartbeats 4000000
namespace K02
open PySem PySem.Spec PyProof.Rows L2 PL SX
variable {P : Program} {w : World} {K : PySem.W.Frag} {mg : Str → Option Value} {base : Heap} {C_Cursor C_Block C_ProcReader C_Reader v_proc_name : Addr}
local macro_rules | `(tactic| simp! [$ls,*]) => `(tactic| simp only [s_fld, s_fldK, s_insAt, s_optD, s_obAt, s_fput, s_fputK1, s_fputK2, s_faug, s_faugK1, s_faugK2, s_faugK3, s_meth, s_methK1, s_methK2, s_make, s_makeK, s_makeK2, s_dead, s_tryN, noX_nx, noX_rt, noX_bk, noX_ct, mSplit, opMulS, s_enum, s_enumK, s_sortBy, s_sortByK, look_nil, look_cons, putFD_nil, putFD_cons, List.append_nil, to_nx, to_rt, to_bk, to_ct, to_ex, lp_nx, lp_rt, lp_bk, lp_ct, lp_ex, ret_nx, ret_rt, ret_ex, s_exK, s_bif1, s_bif0, s_optB, s_optE, s_nxD, s_ifK, s_asgN, s_asgT, s_asgL, b_nil, b_nm, b_tp, s_next, s_seq, s_drop, s_ret, s_retN, s_ifS, s_asg, s_brk, s_cont, s_put, s_put1, s_put2, s_put3, s_aug, s_augV, s_augK, s_augK2, s_bin, s_bin1, s_bin2, s_var, s_varK, s_C, s_cb, s_cbK, s_call, s_callK, s_m, s_m1, s_m2, s_nil, s_cons, s_cons1, s_cons2, s_tup, s_tupK, s_lst, s_lstK, s_truth, s_trK, s_tK, s_eK, s_cK, s_and, s_andK, s_or, s_orK, s_not, s_notK, s_ife, s_ifeK, s_andV, s_orV, s_andvK, s_orvK, s_andvK2, s_orvK2, s_notV, s_notvK, s_blK, s_neg, s_negK, s_sl, s_sl1, s_sl2, s_sl3, s_noPart, s_part, s_partK, s_rev, s_revK, s_for, s_forK, s_lc, s_lcK, s_yes, s_walk, s_walkT, s_walkS, s_walkA, s_walkL, s_walkR, s_rng1, s_rng2, s_rng1K, s_rng2K, s_callL, s_callLK, s_callLO, s_clK, s_raise, r_val, r_new, r_put, s_whK, s_lcY, s_lcT, s_lcE, s_cg, s_cgK, s_rng3, s_rng3K, s_lcB, s_lcS, wipeD, Pat.bind, seqOf, rg, s_dict0, s_sortSet, s_sortSetK, q_is_tuple, q_is_str, q_is_int, q_is_bool, q_is_list, q_isR, ofS_inj, String.reduceEq, q_eqI, q_neI, q_eqS, q_neS, decide_true, decide_false, Int.reduceEq, reduceCtorEq, i_NoneType_tuple, i_NoneType_str, i_NoneType_int, i_NoneType_bool, i_NoneType_list, i_bool_tuple, i_bool_str, i_bool_int, i_bool_bool, i_bool_list, i_int_tuple, i_int_str, i_int_int, i_int_bool, i_int_list, i_str_tuple, i_str_str, i_str_int, i_str_bool, i_str_list, i_tuple_tuple, i_tuple_str, i_tuple_int, i_tuple_bool, i_tuple_list, i_list_tuple, i_list_str, i_list_int, i_list_bool, i_list_list, i_dict_tuple, i_dict_str, i_dict_int, i_dict_bool, i_dict_list, tyN, startD, mupd_same, mupd_ne, ne_eq, not_false_eq_true, List.map_cons, List.map_nil, List.length_cons, List.length_nil, List.replicate_succ, List.replicate_zero, Nat.zero_add, Nat.reduceAdd, Nat.reduceSub, Int.cast_ofNat_Int, List.cons_append, List.nil_append, List.getElem?_cons_zero, List.getElem?_cons_succ, List.set_cons_zero, List.set_cons_succ, opIx, atI_cons, ixN, opPut, opAdd, opSub, opMul, opFdiv, opMod, opPow, opLt, opLe, opGt, opGe, opIs, opIsNot, D.isNon, truth, bLen, bAbs, bInt, bTuple, bList, isTy, mAppend, mExtend, mPop, Int.reduceLE, Int.reduceLT, Int.reduceToNat, Int.reduceNeg, Int.reduceNe, Option.bind_some, if_true, if_false, ite_true, ite_false, true_and, and_true, Bool.not_true, Bool.not_false, opIadd, Nat.reduceLT, Nat.reduceLeDiff, Int.ofNat_lt, s_dpNil, s_dpCons, s_dpK1, s_dpK2, s_dpK3, s_disp, s_dispK, s_optKV, kvOf, s_dc, s_dcK, s_keys, s_lockK, s_sortIt, mGet, mDPop, dgetR, bDictC, bTupC, opEqD, opNeD, eqDR, D.key, merge_one, optKV, id, opEqL, opNeL, eqLR, $ls,*])
open TL (joinL)
def sp_law (K : PySem.W.Frag) : DSp := fun ds M Q E => ∃ (a : Addr) (ns : List Int), ds = [.ob a] ∧ Scr K M a ns ∧ ∀ M', Q (.bl true) M'
theorem mono_law : MonoSp (sp_law K) := by
  rintro ds M Q Q' E E' hQ hE ⟨a, ns, h1, h2, h⟩
  exact ⟨a, ns, h1, h2, fun M' => hQ _ _ (h M')⟩
theorem rising_pw : ∀ (x : Str) (r : List Str), risingS x r = true → (x :: r).Pairwise (fun a b : Str => a.cps.toList ≤ b.cps.toList)
  | x, [], _ => by simp
  | x, y :: r, h => by
    simp only [risingS, Bool.and_eq_true, Bool.not_eq_true'] at h
    have h1 : x.cps.toList ≤ y.cps.toList := List.not_lt.mp (by
      have := h.1
      rw [ltCps_eq] at this
      exact of_decide_eq_false this)
    have ih := rising_pw y r h.2
    rw [List.pairwise_cons]
    refine ⟨fun z hz => ?_, ih⟩
    rcases List.mem_cons.mp hz with rfl | hz
    · exact h1
    · exact List.le_trans h1 (List.rel_of_pairwise_cons ih hz)
theorem sorted_pw {ys : List Str} (h : sortedS ys = true) : ys.Pairwise (fun a b : Str => a.cps.toList ≤ b.cps.toList) := by
  cases ys with
  | nil => exact .nil
  | cons x r => exact rising_pw x r h
theorem outs_of {α : Type} {f : α → D} {T : α → Prop} : ∀ {ds : List D}, (∀ d ∈ ds, ∃ x, T x ∧ d = f x) → ∃ ss : List α, ds = ss.map f ∧ ∀ x ∈ ss, T x
  | [], _ => ⟨[], rfl, fun p h => by cases h⟩
  | d :: ds, h => by
    obtain ⟨ss, rfl, h2⟩ := outs_of (f := f) (T := T) (ds := ds) fun d hd => h d (List.mem_cons_of_mem _ hd)
    obtain ⟨x, hx, rfl⟩ := h d List.mem_cons_self
    refine ⟨x :: ss, rfl, fun p hp => ?_⟩
    rcases List.mem_cons.mp hp with e | e
    · rw [e]; exact hx
    · exact h2 p e
/-- what the law holds at the head of a turn -/
structure At (M : Mem) (s b nm : Addr) (ws : List Str) (pa so : Addr) (ys : List Str) (qs : List Proc) : Prop where
  hw : WsAt M s b nm ws
  hp : M pa = some (.lst (qs.map Proc.enc))
  hs : M so = some (.lst (ys.map D.str))
  p1 : pa ≠ s
  p2 : pa ≠ b
  p3 : nm ≠ pa
  p4 : so ≠ pa
  s1 : so ≠ s
  raw : ∀ q ∈ qs, Raw q
theorem At.keep {M M' : Mem} {s b nm : Addr} {ws : List Str} {pa so : Addr} {ys : List Str} {qs : List Proc} (h : At M s b nm ws pa so ys qs) (hn : WsAt M' s b nm ws) (k : Keep [s] M M') : At M' s b nm ws pa so ys qs := ⟨hn, k _ _ h.hp (by simpa using h.p1), k _ _ h.hs (by simpa using h.s1), h.p1, h.p2, h.p3, h.p4, h.s1, h.raw⟩
theorem At.keep0 {M M' : Mem} {s b nm : Addr} {ws : List Str} {pa so : Addr} {ys : List Str} {qs : List Proc} (h : At M s b nm ws pa so ys qs) (k : Keep [] M M') : At M' s b nm ws pa so ys qs := h.keep (h.hw.keep0 k) (k.weaken (by simp))
theorem At.keepS {M M' : Mem} {s b nm : Addr} {ws : List Str} {pa so : Addr} {ys : List Str} {qs : List Proc} (h : At M s b nm ws pa so ys qs) (hs : StAt M' s b) (k : Keep [s] M M') : At M' s b nm ws pa so ys qs := h.keep (h.hw.keep hs k) k
theorem WsAt.put {M : Mem} {s b nm l : Addr} {o : Ob} {ws : List Str} (h : WsAt M s b nm ws) (h1 : l ≠ s) (h2 : l ≠ b) (h3 : nm ≠ l) : WsAt (mupd M l o) s b nm ws := ⟨h.st.put h1 h2, by rw [mupd_ne h3]; exact h.at_, h.ne, h.nonempty, h.few, h.wd⟩
theorem At.put {M : Mem} {s b nm : Addr} {ws : List Str} {pa so : Addr} {ys : List Str} {qs : List Proc} (h : At M s b nm ws pa so ys qs) {q : Proc} (hq : Raw q) : At (mupd M pa (.lst (qs.map Proc.enc ++ [q.enc]))) s b nm ws pa so ys (qs ++ [q]) := ⟨h.hw.put h.p1 h.p2 h.p3, by rw [mupd_same]; simp, by rw [mupd_ne h.p4]; exact h.hs, h.p1, h.p2, h.p3, h.p4, h.s1, fun x hx => by
  rcases List.mem_append.mp hx with hx | hx
  · exact h.raw x hx
  · rw [List.mem_singleton.mp hx]; exact hq⟩
theorem ok_law {f : Addr} {fd : FuncData} (F : Fun K "law" "law" s_law f fd) (G : GF K mg C_Cursor C_Block C_ProcReader C_Reader v_proc_name) (F__law_start : Fn P w K mg base 1 "_law_start" (sp_start K) []) (F__law_draw : Fn P w K mg base 1 "_law_draw" sp_draw []) (F__law_one_of : Fn P w K mg base 2 "_law_one_of" sp_one_of [])
    (F__law_word : Fn P w K mg base 2 "_law_word" sp_word []) (F__law_statement : Fn P w K mg base 8 "_law_statement" (sp_st 4) []) (F__law_parts : Fn P w K mg base 4 "_law_parts" sp_parts []) (F__law_picture : Fn P w K mg base 1 "_law_picture" sp_lpic []) (F__law_parts_of : Fn P w K mg base 1 "_law_parts_of" sp_partsof []) (F__law_parts_tokens : Fn P w K mg base 2 "_law_parts_tokens" sp_pstoks []) (F__law_spaced : Fn P w K mg base 1 "_law_spaced" sp_spaced []) (F_picture_text : Fn P w K mg base 1 "picture_text" sp_ptext []) (F_write_source : Fn P w K mg base 12 "write_source" sp_ws []) (F__law_written : Fn P w K mg base 10 "_law_written" sp_written []) (F_read_source : Fn P w K mg base 10 "read_source" sp_rs []) (F__law_same : Fn P w K mg base 14 "_law_same" (sp_same 12) []) : FnOk P w K mg base (L2.CX P w) 15 f fd ["script"] (liftSp K (sp_law K)) := by
  refine fn_ok F sc_law (fun ds M Q E h => by obtain ⟨a, m, rfl, _⟩ := h; rfl) ⟨_, fun cdv A outer s H E hr => have hu := hr.u200
    (xss_cons (xs_set 1 sc_law.nd (xe_call F__law_start (hr.mono (by first | decide | omega)) bx_takes (by rfl) (xa_cons (xe_var 0) xa_nil)))
 (xss_cons (xs_set 2 sc_law.nd (xe_lc (own := [("k", 13)]) (p := .nm 13) rfl sc_law.nd (xi_range1 (by rfl) G.range (xa_cons xe_int xa_nil)) (blkOk_by (by first | (show blkC ["script", "state", "words", "procs", "name", "parameters", "places", "need", "ensures", "body", "picture", "due", "text", "k", "proc"] (defScope s_law) _ _ = true; decide +kernel) | kernel_rfl | rfl)) (fun _ _ _ _ _ => (xg_name 13 sc_law.nd)) (fun _ _ _ _ _ => xts_nil) (fun _ _ _ _ _ => (xe_call F__law_word (hr.mono (by first | decide | omega)) takes0 (by rfl) (xa_cons (xe_var 1) xa_nil)))))
 (xss_cons (xs_set 3 sc_law.nd (xe_lst (n := 0) xa_nil))
 (xss_cons (xs_for (p := .nm 4) bx_passes rfl (xi_walk (xe_callG bSorted_mono c_sorted (by rfl) G.sorted (by decide +kernel) (xa_cons (xe_lc (own := [("k", 13)]) (p := .nm 13) rfl sc_law.nd (xi_range1 (by rfl) G.range (xa_cons (xe_bin x_add xe_int (xe_call F__law_draw (hr.mono (by first | decide | omega)) bx_takes (by rfl) (xa_cons (xe_var 1) (xa_cons xe_int xa_nil)))) xa_nil)) (blkOk_by (by first | (show blkC ["script", "state", "words", "procs", "name", "parameters", "places", "need", "ensures", "body", "picture", "due", "text", "k", "proc"] (defScope s_law) _ _ = true; decide +kernel) | kernel_rfl | rfl)) (fun _ _ _ _ _ => (xg_name 13 sc_law.nd)) (fun _ _ _ _ _ => xts_nil) (fun _ _ _ _ _ => (xe_call F__law_one_of (hr.mono (by first | decide | omega)) takes0 (by rfl) (xa_cons (xe_var 1) (xa_cons (xe_var 2) xa_nil))))) xa_nil))) (xg_name 4 sc_law.nd)
 (xss_cons (xs_set 5 sc_law.nd (xe_callTy c_tuple (by rfl) G.tuple (by decide +kernel) (xa_cons (xe_lc (own := [("k", 13)]) (p := .nm 13) rfl sc_law.nd (xi_range1 (by rfl) G.range (xa_cons (xe_call F__law_draw (hr.mono (by first | decide | omega)) bx_takes (by rfl) (xa_cons (xe_var 1) (xa_cons xe_int xa_nil))) xa_nil)) (blkOk_by (by first | (show blkC ["script", "state", "words", "procs", "name", "parameters", "places", "need", "ensures", "body", "picture", "due", "text", "k", "proc"] (defScope s_law) _ _ = true; decide +kernel) | kernel_rfl | rfl)) (fun _ _ _ _ _ => (xg_name 13 sc_law.nd)) (fun _ _ _ _ _ => xts_nil) (fun _ _ _ _ _ => (xe_call F__law_one_of (hr.mono (by first | decide | omega)) takes0 (by rfl) (xa_cons (xe_var 1) (xa_cons (xe_var 2) xa_nil))))) xa_nil)))
 (xss_cons (xs_set 6 sc_law.nd (xe_callTy c_tuple (by rfl) G.tuple (by decide +kernel) (xa_cons (xe_lc (own := [("k", 13)]) (p := .nm 13) rfl sc_law.nd (xi_range1 (by rfl) G.range (xa_cons (xe_call F__law_draw (hr.mono (by first | decide | omega)) bx_takes (by rfl) (xa_cons (xe_var 1) (xa_cons xe_int xa_nil))) xa_nil)) (blkOk_by (by first | (show blkC ["script", "state", "words", "procs", "name", "parameters", "places", "need", "ensures", "body", "picture", "due", "text", "k", "proc"] (defScope s_law) _ _ = true; decide +kernel) | kernel_rfl | rfl)) (fun _ _ _ _ _ => (xg_name 13 sc_law.nd)) (fun _ _ _ _ _ => xts_nil) (fun _ _ _ _ _ => (xe_call F__law_one_of (hr.mono (by first | decide | omega)) takes0 (by rfl) (xa_cons (xe_var 1) (xa_cons (xe_var 2) xa_nil))))) xa_nil)))
 (xss_cons (xs_set 7 sc_law.nd (xe_call F__law_picture (hr.mono (by first | decide | omega)) bx_takes (by rfl) (xa_cons (xe_call F__law_parts (hr.mono (by first | decide | omega)) bx_takes (by rfl) (xa_cons (xe_var 1) (xa_cons (xe_var 2) (xa_cons xe_int xa_nil)))) xa_nil)))
 (xss_cons (xs_set 8 sc_law.nd (xe_callTy c_tuple (by rfl) G.tuple (by decide +kernel) (xa_cons (xe_lc (own := [("k", 13)]) (p := .nm 13) rfl sc_law.nd (xi_range1 (by rfl) G.range (xa_cons (xe_call F__law_draw (hr.mono (by first | decide | omega)) bx_takes (by rfl) (xa_cons (xe_var 1) (xa_cons xe_int xa_nil))) xa_nil)) (blkOk_by (by first | (show blkC ["script", "state", "words", "procs", "name", "parameters", "places", "need", "ensures", "body", "picture", "due", "text", "k", "proc"] (defScope s_law) _ _ = true; decide +kernel) | kernel_rfl | rfl)) (fun _ _ _ _ _ => (xg_name 13 sc_law.nd)) (fun _ _ _ _ _ => xts_nil) (fun _ _ _ _ _ => (xe_call F__law_picture (hr.mono (by first | decide | omega)) takes0 (by rfl) (xa_cons (xe_call F__law_parts (hr.mono (by first | decide | omega)) takes0 (by rfl) (xa_cons (xe_var 1) (xa_cons (xe_var 2) (xa_cons xe_int xa_nil)))) xa_nil)))) xa_nil)))
 (xss_cons (xs_set 9 sc_law.nd (xe_callTy c_tuple (by rfl) G.tuple (by decide +kernel) (xa_cons (xe_lc (own := [("k", 13)]) (p := .nm 13) rfl sc_law.nd (xi_range1 (by rfl) G.range (xa_cons (xe_call F__law_draw (hr.mono (by first | decide | omega)) bx_takes (by rfl) (xa_cons (xe_var 1) (xa_cons xe_int xa_nil))) xa_nil)) (blkOk_by (by first | (show blkC ["script", "state", "words", "procs", "name", "parameters", "places", "need", "ensures", "body", "picture", "due", "text", "k", "proc"] (defScope s_law) _ _ = true; decide +kernel) | kernel_rfl | rfl)) (fun _ _ _ _ _ => (xg_name 13 sc_law.nd)) (fun _ _ _ _ _ => xts_nil) (fun _ _ _ _ _ => (xe_call F__law_statement (hr.mono (by first | decide | omega)) takes0 (by rfl) (xa_cons (xe_var 1) (xa_cons (xe_var 2) (xa_cons xe_int xa_nil)))))) xa_nil)))
 (xss_cons (xs_expr (xe_bm PySem.F.plainAttrs_list PySem.F.slot_list_append PySem.F.type_list_append m_append (xe_var 3) (xa_cons (xe_tup (n := 6) (xa_cons (xe_var 4) (xa_cons (xe_var 5) (xa_cons (xe_var 6) (xa_cons (xe_var 7) (xa_cons (xe_var 8) (xa_cons (xe_var 9) xa_nil))))))) xa_nil)))
 (xss_one (xs_for (p := .nm 10) bx_passes rfl (xi_walk (xe_bin x_add (xe_tup (n := 1) (xa_cons (xe_var 7) xa_nil)) (xe_var 8))) (xg_name 10 sc_law.nd)
 (xss_cons (xs_set 11 sc_law.nd xe_str)
 (xss_cons (xs_if (xt_cmp (x_neL hu) (xe_call F__law_parts_of (hr.mono (by first | decide | omega)) bx_takes (by rfl) (xa_cons (xe_var 10) xa_nil)) (xe_lst (n := 0) xa_nil) (nomark _) bl_neL)
 (xss_one (xs_set 11 sc_law.nd (xe_call F__law_spaced (hr.mono (by first | decide | omega)) bx_takes (by rfl) (xa_cons (xe_call F__law_parts_tokens (hr.mono (by first | decide | omega)) bx_takes (by rfl) (xa_cons (xe_call F__law_parts_of (hr.mono (by first | decide | omega)) bx_takes (by rfl) (xa_cons (xe_var 10) xa_nil)) xa_nil)) xa_nil))))
 xss_nil)
 (xss_one (xs_if (xt_not (xt_val (xe_call F__law_same (hr.mono (by first | decide | omega)) bx_takes (by rfl) (xa_cons (xe_call F_picture_text (hr.mono (by first | decide | omega)) bx_takes (by rfl) (xa_cons (xe_var 10) xa_nil)) (xa_cons (xe_var 11) xa_nil)))))
 (xss_one (xs_ret xe_bl))
 xss_nil)))))))))))))
 (xss_cons (xs_set 12 sc_law.nd (xe_call F_write_source (hr.mono (by first | decide | omega)) bx_takes (by rfl) (xa_cons (xe_callTy c_tuple (by rfl) G.tuple (by decide +kernel) (xa_cons (xe_var 3) xa_nil)) xa_nil)))
 (xss_cons (xs_if (xt_not (xt_val (xe_call F__law_same (hr.mono (by first | decide | omega)) bx_takes (by rfl) (xa_cons (xe_var 12) (xa_cons (xe_bm PySem.F.plainAttrs_str PySem.F.slot_str_join PySem.F.type_str_join m_join xe_str (xa_cons (xe_lc (own := [("proc", 14)]) (p := .nm 14) rfl sc_law.nd (xi_walk (xe_var 3)) (blkOk_by (by first | (show blkC ["script", "state", "words", "procs", "name", "parameters", "places", "need", "ensures", "body", "picture", "due", "text", "k", "proc"] (defScope s_law) _ _ = true; decide +kernel) | kernel_rfl | rfl)) (fun _ _ _ _ _ => (xg_name 14 sc_law.nd)) (fun _ _ _ _ _ => xts_nil) (fun _ _ _ _ _ => (xe_call F__law_written (hr.mono (by first | decide | omega)) takes0 (by rfl) (xa_cons (xe_var 14) xa_nil)))) xa_nil)) xa_nil)))))
 (xss_one (xs_ret xe_bl))
 xss_nil)
 (xss_one (xs_ret (xe_call F__law_same (hr.mono (by first | decide | omega)) bx_takes (by rfl) (xa_cons (xe_call F_read_source (hr.mono (by first | decide | omega)) bx_takes (by rfl) (xa_cons (xe_var 12) xa_nil)) (xa_cons (xe_callTy c_tuple (by rfl) G.tuple (by decide +kernel) (xa_cons (xe_var 3) xa_nil)) xa_nil))))))))))), fun ds M Q E h => ?_⟩
  obtain ⟨a, ns, rfl, hs, h⟩ := h
  have sz : (16777216 : Nat) = sizeLine := sizeLine_eq.symm
  simp! []
  refine ⟨a, ns, rfl, hs, fun s b M1 _ _ hs1 k1 => ?_⟩
  simp! []
  refine ⟨by decide, fun nm hnm => ?_⟩
  have rs := (hs1.ne hnm).1
  refine lc_rule (fun i : Nat => D.int (0 + (i : Int))) (fun _ o => ∃ y, Wd y ∧ o = some (.str y)) (fun M => StAt M s b) [s] (List.range 5) hnm (by simpa using rs) hs1 (fun M' o hj => hj.put rs (hs1.ne hnm).2) (fun _ _ => trivial) (by rw [List.length_range, ← sz]; decide)
    (fun i hi M2 N sk hs2 k2 hy _ => ?_) fun M2 ds ho hs2 k2 e2 => ?_
  · simp! []
    exact ⟨s, b, rfl, hs2, fun x M3 hx hs3 k3 => hy _ _ ⟨x, hx, rfl⟩ hs3 k3⟩
  have hlen := ho.lenEq (fun _ ⟨_, _, z⟩ => by cases z)
  obtain ⟨ws, rfl, hws⟩ := outs_names (T := Wd) (ho.all (P := fun d => ∃ y, Wd y ∧ d = .str y) fun _ d ⟨y, hy, h⟩ => ⟨y, hy, Option.some.inj h⟩)
  simp only [List.length_map, List.length_range] at hlen
  have hn2 : WsAt M2 s b nm ws := ⟨hs2, e2, rs, (by rintro rfl; simp at hlen), by omega, hws⟩
  simp! []
  intro pa hpa
  have hn3 := hn2.new (o := .lst []) hpa
  have p3 : (mupd M2 pa (.lst [])) pa = some (.lst []) := mupd_same
  have pn := (hn2.st.ne hpa)
  generalize mupd M2 pa _ = M3 at hn3 p3 ⊢
  try simp! []
  refine ⟨s, b, 4, rfl, hn3.st, by decide, by decide, fun r4 M4 r40 r41 hs4 k4 => ?_⟩
  have hn4 := hn3.keep hs4 k4
  have p4 := k4 _ _ p3 (by simpa using pn.1)
  simp! []
  refine ⟨by omega, fun l5 hl5 => ?_⟩
  have rs5 := hn4.st.ne hl5
  refine lc_rule (fun i : Nat => D.int (0 + (i : Int))) (fun _ o => ∃ y, (y ∈ ws) ∧ o = some (.str y)) (fun M => StAt M s b) [s] (List.range (1 + r4).toNat) hl5 (by simpa using rs5.1) hn4.st (fun M' o hj => hj.put rs5.1 rs5.2) (fun _ _ => trivial) (by rw [List.length_range, ← sz]; omega)
    (fun i hi M5 N2 sk hs5 k5 hy _ => ?_) fun M5 ds ho hs5 k5 e5 => ?_
  · simp! []
    refine (hn4.keep hs5 k5).ask fun y M6 hym hn6 k6 => ?_
    exact hy _ _ ⟨y, hym, rfl⟩ hn6.st k6
  have hl5 := ho.lenEq (fun _ ⟨_, _, z⟩ => by cases z)
  obtain ⟨names, rfl, hnames⟩ := outs_names (T := fun y => y ∈ ws) (ho.all (P := fun d => ∃ y, y ∈ ws ∧ d = .str y) fun _ d ⟨y, hy, h⟩ => ⟨y, hy, Option.some.inj h⟩)
  simp only [List.length_map, List.length_range] at hl5
  have hn5 := hn4.keep hs5 k5
  have p5 := k5 _ _ p4 (by simpa using pn.1)
  simp! [e5]
  refine .inl ⟨_, _, names, rfl, by simp only [lstAt, e5], strsOf_map _, by omega, fun ys so hsort hso => ?_⟩
  have hpw := sorted_pw hsort.1
  have hperm : ys.Perm names := hsort.2
  have hyl : ys.length ≤ 4 := by rw [hperm.length_eq]; omega
  have p5' := put_at (o' := .lst (ys.map D.str)) p5 hso
  have at6 : At (mupd M5 so (.lst (ys.map D.str))) s b nm ws pa so ys [] := ⟨hn5.new hso, by simpa using p5', mupd_same, pn.1, pn.2, ne_new hn2.at_ hpa, (ne_new p5 hso).symm, (hn5.st.ne hso).1, (fun q hq => by cases hq)⟩
  generalize mupd M5 so _ = M6 at at6 ⊢
  have hso6 := at6.hs
  simp! [hso6]
  refine loop_inv D.str (fun rest e M' => ∃ (done : List Str) (qs : List Proc) (d4 d5 d6 d7 d8 d9 d10 d11 : Option D), done ++ rest = ys ∧ qs.map (·.name) = done ∧ e = [some (.ob a), some (.ob s), some (.ob nm), some (.ob pa), d4, d5, d6, d7, d8, d9, d10, d11, none, none, none] ∧ At M' s b nm ws pa so ys qs) ?_ ?_ ?_ ys _ _ ⟨[], [], none, none, none, none, none, none, none, none, rfl, rfl, rfl, at6⟩
  · rintro rest e M' ⟨done, qs, d4, d5, d6, d7, d8, d9, d10, d11, _, _, _, h1⟩
    exact .inl h1.hs
  · rintro name rest e M6 N ⟨done, qs, d4, d5, d6, d7, d8, d9, d10, d11, hd, hnq, rfl, at6⟩ hN
    have hnm : name ∈ names := hperm.mem_iff.mp (by rw [← hd]; simp)
    have nmOk := (hws name (hnames name hnm)).name
    have hdl : done.length ≤ 3 := by
      have := congrArg List.length hd
      rw [List.length_append, List.length_cons] at this
      omega
    have hql : qs.length ≤ 3 := by rw [← hnq, List.length_map] at hdl; exact hdl
    simp! []
    refine ⟨s, b, 7, rfl, at6.hw.st, by decide, by decide, fun r8 M8 r80 r81 hs8 k8 => ?_⟩
    have at8 := at6.keepS hs8 k8
    simp! []
    refine ⟨by omega, fun l8 hl8 => ?_⟩
    have rs8 := at8.hw.st.ne hl8
    refine lc_rule (fun i : Nat => D.int (0 + (i : Int))) (fun _ o => ∃ y, (y ∈ ws) ∧ o = some (.str y)) (fun M => StAt M s b) [s] (List.range r8.toNat) hl8 (by simpa using rs8.1) at8.hw.st (fun M' o hj => hj.put rs8.1 rs8.2) (fun _ _ => trivial) (by rw [List.length_range, ← sz]; omega)
      (fun i hi M9 N2 sk hs9 k9 hy _ => ?_) fun M9 ds ho hs9 k9 e9 => ?_
    · simp! []
      refine (at8.hw.keep hs9 k9).ask fun y M10 hym hn10 k10 => ?_
      exact hy _ _ ⟨y, hym, rfl⟩ hn10.st k10
    have hl9 := ho.lenEq (fun _ ⟨_, _, z⟩ => by cases z)
    obtain ⟨as, rfl, has⟩ := outs_names (T := fun y => y ∈ ws) (ho.all (P := fun d => ∃ y, y ∈ ws ∧ d = .str y) fun _ d ⟨y, hy, h⟩ => ⟨y, hy, Option.some.inj h⟩)
    simp only [List.length_map, List.length_range] at hl9
    have at9 := at8.keepS hs9 k9
    simp! [e9]
    refine ⟨s, b, 3, rfl, hs9, by decide, by decide, fun r10 M10 r100 r101 hs10 k10 => ?_⟩
    have at10 := at9.keepS hs10 k10
    simp! []
    refine ⟨by omega, fun l10 hl10 => ?_⟩
    have rs10 := at10.hw.st.ne hl10
    refine lc_rule (fun i : Nat => D.int (0 + (i : Int))) (fun _ o => ∃ y, (y ∈ ws) ∧ o = some (.str y)) (fun M => StAt M s b) [s] (List.range r10.toNat) hl10 (by simpa using rs10.1) at10.hw.st (fun M' o hj => hj.put rs10.1 rs10.2) (fun _ _ => trivial) (by rw [List.length_range, ← sz]; omega)
      (fun i hi M11 N2 sk hs11 k11 hy _ => ?_) fun M11 ds ho hs11 k11 e11 => ?_
    · simp! []
      refine (at10.hw.keep hs11 k11).ask fun y M12 hym hn12 k12 => ?_
      exact hy _ _ ⟨y, hym, rfl⟩ hn12.st k12
    have hl11 := ho.lenEq (fun _ ⟨_, _, z⟩ => by cases z)
    obtain ⟨pls, rfl, hpls⟩ := outs_names (T := fun y => y ∈ ws) (ho.all (P := fun d => ∃ y, y ∈ ws ∧ d = .str y) fun _ d ⟨y, hy, h⟩ => ⟨y, hy, Option.some.inj h⟩)
    simp only [List.length_map, List.length_range] at hl11
    have at11 := at10.keepS hs11 k11
    simp! [e11]
    refine ⟨s, b, nm, ws, 0, rfl, at11.hw, by decide, fun f12 np M12 hf12 hff12 hnpo _ hnpl hn12 k12 => ?_⟩
    have at12 := at11.keep hn12 k12
    simp! []
    refine ⟨f12, np, rfl, hff12, by omega, fun M13 k13 => ?_⟩
    have at13 := at12.keep0 k13
    simp! []
    refine ⟨s, b, 3, rfl, at13.hw.st, by decide, by decide, fun r15 M15 r150 r151 hs15 k15 => ?_⟩
    have at15 := at13.keepS hs15 k15
    simp! []
    refine ⟨by omega, fun l15 hl15 => ?_⟩
    have rs15 := at15.hw.st.ne hl15
    refine lc_rule (fun i : Nat => D.int (0 + (i : Int))) (fun _ o => ∃ q : List Part, ((∀ z ∈ q, PartOk z) ∧ q.length ≤ 4) ∧ o = some (picD q)) (fun M => StAt M s b) [s] (List.range r15.toNat) hl15 (by simpa using rs15.1) at15.hw.st (fun M' o hj => hj.put rs15.1 rs15.2) (fun _ _ => trivial) (by rw [List.length_range, ← sz]; omega)
      (fun i hi M16 N2 sk hs16 k16 hy _ => ?_) fun M16 ds ho hs16 k16 e16 => ?_
    · simp! []
      refine ⟨s, b, nm, ws, 0, rfl, at15.hw.keep hs16 k16, by decide, fun f ps M17 hf hff hpo _ hpl hn17 k17 => ?_⟩
      simp! []
      exact ⟨f, ps, rfl, hff, by omega, fun M18 k18 => hy _ _ ⟨ps, ⟨hpo, by omega⟩, rfl⟩ (hn17.keep0 k18).st (k17.trans (k18.weaken (by simp)))⟩
    have hl16 := ho.lenEq (fun _ ⟨_, _, z⟩ => by cases z)
    obtain ⟨es, rfl, hes⟩ := outs_of (f := picD) (T := fun q : List Part => (∀ z ∈ q, PartOk z) ∧ q.length ≤ 4) (ho.all (P := fun d => ∃ q : List Part, ((∀ z ∈ q, PartOk z) ∧ q.length ≤ 4) ∧ d = picD q) fun _ d ⟨y, hy, h⟩ => ⟨y, hy, Option.some.inj h⟩)
    simp only [List.length_map, List.length_range] at hl16
    have at16 := at15.keepS hs16 k16
    simp! [e16]
    refine ⟨s, b, 4, rfl, at16.hw.st, by decide, by decide, fun r17 M17 r170 r171 hs17 k17 => ?_⟩
    have at17 := at16.keepS hs17 k17
    simp! []
    refine ⟨by omega, fun l17 hl17 => ?_⟩
    have rs17 := at17.hw.st.ne hl17
    refine lc_rule (fun i : Nat => D.int (0 + (i : Int))) (fun _ o => ∃ y, OkS 3 y ∧ o = some y.enc) (fun M => StAt M s b) [s] (List.range r17.toNat) hl17 (by simpa using rs17.1) at17.hw.st (fun M' o hj => hj.put rs17.1 rs17.2) (fun _ _ => trivial) (by rw [List.length_range, ← sz]; omega)
      (fun i hi M18 N2 sk hs18 k18 hy _ => ?_) fun M18 ds ho2 hs18 k18 e18 => ?_
    · simp! []
      exact ⟨s, b, nm, ws, rfl, at17.hw.keep hs18 k18, fun y M19 hyo hn19 k19 => hy _ _ ⟨y, hyo, rfl⟩ hn19.st k19⟩
    have hl18 := ho2.lenEq (fun _ ⟨_, _, z⟩ => by cases z)
    obtain ⟨bd, rfl, hbd, hbl⟩ := outs_stms (ho2.all (P := fun d => ∃ y, OkS 3 y ∧ d = y.enc) fun _ d ⟨y, hy, h⟩ => ⟨y, hy, Option.some.inj h⟩)
    simp only [List.length_range] at hl18
    have at18 := at17.keepS hs18 k18
    have hraw : Raw (Proc.mk name as pls np es bd) := ⟨nmOk, fun x hx => (hws x (has x hx)).name, by show as.length ≤ 10; omega, fun x hx => (hws x (hpls x hx)).name, by show pls.length ≤ 10; omega, hnpo, by show np.length ≤ 4; omega, hes, by show es.length ≤ 4; omega, hbd, by show bd.length ≤ 3; omega⟩
    have hp18 := at18.hp
    simp! [e18, hp18, List.length_map]
    have at19 := at18.put hraw
    rw [show (Proc.mk name as pls np es bd).enc = .tup [.str name, .tup (as.map D.str), .tup (pls.map D.str), picD np, .tup (es.map picD), .tup (encB bd)] from rfl] at at19
    generalize mupd M18 pa _ = M19 at at19 ⊢
    refine ⟨by rw [← sz]; omega, ?_⟩
    refine ⟨by rw [← sz]; omega, ?_⟩
    obtain ⟨p, ep⟩ : ∃ p, p = Proc.mk name as pls np es bd := ⟨_, rfl⟩
    rw [← ep] at at19
    have hall : ∀ q ∈ np :: es, (∀ z ∈ q, PartOk z) ∧ q.length ≤ 4 := fun q hq => by
      rcases List.mem_cons.mp hq with rfl | hq
      · exact ⟨hnpo, by omega⟩
      · exact hes q hq
    refine loop_inv picD (fun rest e M' => ∃ (d10 d11 : Option D), (∀ q ∈ rest, (∀ z ∈ q, PartOk z) ∧ q.length ≤ 4) ∧ e = [some (.ob a), some (.ob s), some (.ob nm), some (.ob pa), some (.str name), some (.tup (as.map D.str)), some (.tup (pls.map D.str)), some (picD np), some (.tup (es.map picD)), some (.tup (encB bd)), d10, d11, none, none, none] ∧ At M' s b nm ws pa so ys (qs ++ [p])) (fun _ _ _ _ => trivial) ?_ ?_ (np :: es) _ _ ⟨d10, d11, hall, rfl, at19⟩
    · rintro q rest2 e M20 N2 ⟨d10, d11, hq, rfl, at20⟩ hN2
      obtain ⟨q1, q2⟩ := hq q List.mem_cons_self
      have hnl := norm_len q
      simp! []
      refine ⟨q, rfl, by omega, fun l21 M21 h21 a21 k21 => ?_⟩
      simp! []
      intro l22 h22
      have a22 := put_at (o' := .lst []) a21 h22
      have b22 : (mupd M21 l22 (.lst [])) l22 = some (.lst []) := mupd_same
      have k22 : Keep [] M20 (mupd M21 l22 (.lst [])) := k21.trans (Keep.new h22)
      generalize mupd M21 l22 _ = M22 at a22 b22 k22 ⊢
      simp! [a22, b22, List.length_map]
      refine ⟨.inr trivial, bif_mid (fun e M' => e = [some (.ob a), some (.ob s), some (.ob nm), some (.ob pa), some (.str name), some (.tup (as.map D.str)), some (.tup (pls.map D.str)), some (picD np), some (.tup (es.map picD)), some (.tup (encB bd)), some (picD q), some (.str (S (pictT q))), none, none, none] ∧ Keep [] M20 M') (fun z N3 hN3 => ?_) (fun z N3 hN3 => ?_) ?_⟩
      · have hne : norm q ≠ [] := by intro e; rw [e] at z; simp at z
        have et : pictT q = spc (partsToks (norm q)) := by unfold pictT shown; rw [if_neg (by simpa using hne)]
        have hpl := partsToks_len (norm q)
        simp! []
        refine ⟨q, rfl, by omega, fun l23 M23 h23 a23 k23 => ?_⟩
        simp! []
        refine ⟨l23, norm q, rfl, a23, by omega, fun z hz => (norm_ok q1 z hz).1.1, fun l24 M24 h24 a24 k24 => ?_⟩
        simp! []
        refine ⟨l24, partsToks (norm q), rfl, a24, ?_, by omega, fun t ht => tok_len (partsToks_tkn (fun z hz => (norm_ok q1 z hz).1) t ht).1, fun M25 k25 => ?_⟩
        · obtain ⟨a', r', e', _⟩ := parts_head (fun z hz => (norm_ok q1 z hz).1) hne
          rw [e']; simp
        simp! []
        refine hN3 _ _ ⟨?_, ((k22.trans k23).trans k24).trans k25⟩
        rw [et]
      · have hne : norm q = [] := by
          have : (norm q).length = 0 := by simpa using z
          exact List.eq_nil_of_length_eq_zero this
        simp! []
        refine hN3 _ _ ⟨?_, k22⟩
        rw [pictT_none hne, S_cps]
      rintro e M26 ⟨rfl, k26⟩
      have at26 := at20.keep0 k26
      simp! []
      refine ⟨q, rfl, q1, by omega, fun M27 k27 => ?_⟩
      simp! []
      refine ⟨.str (S (pictT q)), rfl, rfl, by show 0 < 12; decide, fun M28 k28 => ?_⟩
      simp! []
      exact hN2 _ _ ⟨_, _, fun z hz => hq z (List.mem_cons_of_mem _ hz), rfl, (at26.keep0 k27).keep0 k28⟩
    · rintro e M20 ⟨d10, d11, _, rfl, at20⟩
      refine hN _ _ ⟨done ++ [name], qs ++ [p], _, _, _, _, _, _, _, _, by rw [← hd]; simp, by rw [List.map_append, hnq, ep]; rfl, rfl, at20⟩
  · rintro e M6 ⟨done, qs, d4, d5, d6, d7, d8, d9, d10, d11, hd, hnq, rfl, at6⟩
    rw [List.append_nil] at hd
    rw [hd] at hnq
    have hql : qs.length ≤ 4 := by rw [← hnq, List.length_map] at hyl; exact hyl
    have hp6 := at6.hp
    have hraw := at6.raw
    have hfew := srcT_few qs hraw
    have hmax := srcT_max hraw
    have hel := endsT_len (srcT qs) 1200 hmax
    have e0l : (Str.ofString "").length = 0 := by decide +kernel
    have eflat : ∀ ps : List Proc, (ps.map fun p => endsT (prT p)).flatten = endsT (srcT ps) := fun ps => by
      induction ps with
      | nil => rfl
      | cons p r ih =>
        show endsT (prT p) ++ (r.map fun p => endsT (prT p)).flatten = endsT (prT p ++ srcT r)
        rw [ih, endsT_app]
    simp! [hp6]
    refine ⟨qs, rfl, hraw, hql, fun M7 k7 => ?_⟩
    have hp7 := k7 _ _ hp6 (by simp)
    simp! [hp7]
    intro l8 hl8
    refine lc_pure Proc.enc (fun p => .str (S (endsT (prT p)))) (fun _ => true) qs hl8 (fun M' k => .inl (k _ _ hp7 (by simp))) (by rw [← sz]; omega) (fun p hp M9 N sk k9 hy _ => ?_) fun M9 k9 e9 => ?_
    · simp! []
      exact ⟨p, rfl, hraw p hp, fun M10 k10 => hy rfl _ k10⟩
    rw [show qs.filter (fun _ => true) = qs from List.filter_eq_self.mpr (by simp)] at e9
    have e10 : M9 l8 = some (.lst (((qs.map fun p => endsT (prT p)).map S).map D.str)) := by rw [e9, List.map_map, List.map_map]; rfl
    have ejoin : Txt.join (Str.ofString "") ((qs.map fun p => endsT (prT p)).map S) = S (endsT (srcT qs)) := by
      have e1 : Str.ofString "" = S [] := by decide +kernel
      rw [e1, SX.join_S, join_nil, eflat]
    have hsum := sum_le (qs.map fun p => endsT (prT p)) 1400000 fun l hl => by
      obtain ⟨p, hp, rfl⟩ := List.mem_map.mp hl
      have h1 := endsT_len (prT p) 1200 (prT_max (hraw p hp))
      have h2 := prT_few (hraw p hp)
      omega
    rw [List.length_map] at hsum
    have el2 : (((qs.map fun p => endsT (prT p)).map S).map (·.length)).sum = ((qs.map fun p => endsT (prT p)).map (·.length)).sum := congrArg List.sum (List.map_map.trans (List.map_congr_left fun l _ => len_S l))
    simp! [mJoin, seqS, lstAt, e10, strsOf_map, Option.bind_some, ejoin]
    rw [el2]
    refine ⟨by simp only [List.length_map, e0l]; omega, .str (S (endsT (srcT qs))), rfl, rfl, by show 0 < 12; decide, fun M11 k11 => ?_⟩
    simp! []
    have hd10 : ∀ l ∈ srcT qs ++ [[]], 10 ∉ l ∧ l.length ≤ 1200 := fun l hl => by
      rcases List.mem_append.mp hl with hl | hl
      · obtain ⟨p, hp, hl⟩ := List.mem_flatMap.mp hl
        have := (texts_pr (hraw p hp)).each l hl
        exact ⟨this.2, this.1⟩
      · rw [List.mem_singleton.mp hl]; exact ⟨by simp, by simp⟩
    have htx : ∀ ps : List Proc, (∀ p ∈ ps, Raw p) → Texts ((ps.map canon).flatMap procL) (srcT ps) := fun ps => by
      induction ps with
      | nil => intro _; exact .nil
      | cons p r ih =>
        intro h
        exact (texts_pr (h p List.mem_cons_self)).app (ih fun q hq => h q (List.mem_cons_of_mem _ hq))
    have htx2 : Texts ((qs.map canon).flatMap procL) (srcT qs ++ [[]]) := by
      have := (htx qs hraw).app (.blank (l := []) .nil (by simp) .nil)
      simpa using this
    have henc : (qs.map canon).map Proc.enc = qs.map Proc.enc := by
      rw [List.map_map]
      exact List.map_congr_left fun p _ => canon_enc p
    have hrun := run_ps (qs.map canon) [] (fun q hq => by
      obtain ⟨p, hp, rfl⟩ := List.mem_map.mp hq
      exact (canon_few (hraw p hp)).ok) (by simp; omega)
    rw [List.nil_append, henc] at hrun
    have htup : ∀ d ∈ qs.map Proc.enc, TupS d := fun d hd => by
      obtain ⟨q, _, rfl⟩ := List.mem_map.mp hd
      exact ⟨_, _, rfl⟩
    have hsort : (qs.map Proc.enc).mergeSort leD = qs.map Proc.enc := by
      refine List.mergeSort_of_pairwise ?_
      rw [List.pairwise_map]
      rw [← hnq, List.pairwise_map] at hpw
      exact hpw.imp fun h => decide_eq_true h
    refine ⟨S (endsT (srcT qs)), srcT qs ++ [[]], qs.map Proc.enc, rfl, by rw [endsT_join]; exact text_split (by simp) fun l hl => (hd10 l hl).1, by rw [len_S]; omega, fun l hl => by have := (hd10 l hl).2; omega, runs_texts htx2 hrun fun l hl => ?_, htup, fun M12 k12 => ?_⟩
    · obtain ⟨q, hq, hl⟩ := List.mem_flatMap.mp hl
      obtain ⟨p, hp, rfl⟩ := List.mem_map.mp hq
      obtain ⟨t1, t2, _⟩ := procL_tok (canon_few (hraw p hp)) l hl
      exact ⟨by simpa using t1, by simpa using t2⟩
    have hp12 := ((k9.trans k11).trans k12) _ _ hp7 (by simp)
    rw [hsort]
    simp! [hp12]
    have hdd : ∀ d ∈ qs.map Proc.enc, d.dat = true ∧ d.dp ≤ 10 := fun d hd => by
      obtain ⟨q, hq, rfl⟩ := List.mem_map.mp hd
      exact raw_dat (hraw q hq)
    refine ⟨.tup (qs.map Proc.enc), rfl, dat_tup (by rw [List.length_map]; omega) fun d h => (hdd d h).1, ?_, fun M13 k13 => h M13⟩
    have := dp_tup (n := 10) fun d h => (hdd d h).2
    omega
end K02

set_option maxHeartbeats 4000000
namespace K02
open PySem PySem.Spec PyProof.Rows L2 PL SX
variable {P : Program} {w : World} {K : PySem.W.Frag} {mg : Str → Option Value} {base : Heap} {C_Cursor C_Block C_ProcReader C_Reader v_proc_name : Addr}
theorem law_script {K : PySem.W.Frag} {M : Mem} {a : Addr} {ns : List Int} (hl : ns.length ≤ 63) (h : Scr K M a ns) : sp_law K [.ob a] M (fun d _ => d = .bl true) fun _ _ _ => False := ⟨a, ns, rfl, h, fun _ => rfl⟩
theorem all_ok {f : Addr} {fd : FuncData} (G : GF K mg C_Cursor C_Block C_ProcReader C_Reader v_proc_name) (S_Cursor___init__ : KSrc K mg "Cursor" C_Cursor "Cursor.__init__" s_Cursor___init__ ["self", "tokens"]) (S_Cursor_peek : MSrc K C_Cursor "peek" "Cursor.peek" s_Cursor_peek ["self", "ahead"] [D.int 0]) (S_Cursor_take : MSrc K C_Cursor "take" "Cursor.take" s_Cursor_take ["self"] []) (S_Cursor_skip : MSrc K C_Cursor "skip" "Cursor.skip" s_Cursor_skip ["self", "token"] []) (S_Cursor_expect : MSrc K C_Cursor "expect" "Cursor.expect" s_Cursor_expect ["self", "token"] []) (S_Cursor_name : MSrc K C_Cursor "name" "Cursor.name" s_Cursor_name ["self"] []) (S_Cursor_place : MSrc K C_Cursor "place" "Cursor.place" s_Cursor_place ["self"] []) (S_Cursor_finish : MSrc K C_Cursor "finish" "Cursor.finish" s_Cursor_finish ["self"] []) (S_Block___init__ : KSrc K mg "Block" C_Block "Block.__init__" s_Block___init__ ["self", "kind", "test"]) (S_Block_statement : MSrc K C_Block "statement" "Block.statement" s_Block_statement ["self"] []) (S_ProcReader___init__ : KSrc K mg "ProcReader" C_ProcReader "ProcReader.__init__" s_ProcReader___init__ ["self", "name", "parameters"]) (S_ProcReader_head : MSrc K C_ProcReader "head" "ProcReader.head" s_ProcReader_head ["self", "word", "cursor"] []) (S_ProcReader_take : MSrc K C_ProcReader "take" "ProcReader.take" s_ProcReader_take ["self", "word", "cursor"] []) (S_ProcReader_close : MSrc K C_ProcReader "close" "ProcReader.close" s_ProcReader_close ["self"] []) (S_Reader___init__ : KSrc K mg "Reader" C_Reader "Reader.__init__" s_Reader___init__ ["self"]) (S_Reader_line : MSrc K C_Reader "line" "Reader.line" s_Reader_line ["self", "tokens"] []) (S_picture_text : Src K mg "picture_text" s_picture_text ["picture"]) (S_test_text : Src K mg "test_text" s_test_text ["test"]) (S_simple_text : Src K mg "simple_text" s_simple_text ["statement"]) (S_statement_lines : Src K mg "statement_lines" s_statement_lines ["statement"]) (S_body_lines : Src K mg "body_lines" s_body_lines ["body"]) (S_proc_lines : Src K mg "proc_lines" s_proc_lines ["proc"]) (S_write_source : Src K mg "write_source" s_write_source ["source"]) (S_run_end : Src K mg "run_end" s_run_end ["line", "start", "signs"]) (S_word_at : Src K mg "word_at" s_word_at ["line", "start"]) (S_token_at : Src K mg "token_at" s_token_at ["line", "start"]) (S_tokens_of : Src K mg "tokens_of" s_tokens_of ["line"]) (S_read_atom : Src K mg "read_atom" s_read_atom ["cursor", "parts"]) (S_read_picture : Src K mg "read_picture" s_read_picture ["cursor"]) (S_read_names : Src K mg "read_names" s_read_names ["cursor", "least"]) (S_read_test : Src K mg "read_test" s_read_test ["cursor"]) (S_read_set : Src K mg "read_set" s_read_set ["cursor"]) (S_read_call : Src K mg "read_call" s_read_call ["cursor"]) (S_read_simple : Src K mg "read_simple" s_read_simple ["word", "cursor"]) (S_proc_name : Src K mg "proc_name" s_proc_name ["proc"]) (S_read_source : Src K mg "read_source" s_read_source ["text"]) (S__law_start : Src K mg "_law_start" s__law_start ["script"]) (S__law_draw : Src K mg "_law_draw" s__law_draw ["state", "most"]) (S__law_one_of : Src K mg "_law_one_of" s__law_one_of ["state", "items"]) (S__law_is_int : Src K mg "_law_is_int" s__law_is_int ["x"]) (S__law_same : Src K mg "_law_same" s__law_same ["x", "y"]) (S__law_word : Src K mg "_law_word" s__law_word ["state"]) (S__law_place : Src K mg "_law_place" s__law_place ["state", "names"]) (S__law_statement : Src K mg "_law_statement" s__law_statement ["state", "names", "deep"]) (S__law_parts : Src K mg "_law_parts" s__law_parts ["state", "names", "least"]) (S__law_picture : Src K mg "_law_picture" s__law_picture ["parts"]) (S__law_listed : Src K mg "_law_listed" s__law_listed ["names"]) (S__law_part_tokens : Src K mg "_law_part_tokens" s__law_part_tokens ["part"]) (S__law_parts_tokens : Src K mg "_law_parts_tokens" s__law_parts_tokens ["parts"]) (S__law_test_tokens : Src K mg "_law_test_tokens" s__law_test_tokens ["test"]) (S__law_simple_tokens : Src K mg "_law_simple_tokens" s__law_simple_tokens ["s"]) (S__law_body_lines : Src K mg "_law_body_lines" s__law_body_lines ["body", "deep"]) (S__law_proc_lines : Src K mg "_law_proc_lines" s__law_proc_lines ["name", "parameters", "places", "need", "ensures", "body"]) (S__law_spaced : Src K mg "_law_spaced" s__law_spaced ["tokens"]) (S__law_parts_of : Src K mg "_law_parts_of" s__law_parts_of ["picture"]) (S__law_written : Src K mg "_law_written" s__law_written ["proc"]) (F : Fun K "law" "law" s_law f fd) : FnOk P w K mg base (L2.CX P w) 15 f fd ["script"] (liftSp K (sp_law K)) := by
  have F__law_start := fn_start (P := P) (w := w) (base := base) S__law_start G
  have F__law_draw := fn_draw (P := P) (w := w) (base := base) S__law_draw G
  have F__law_one_of := fn_one_of S__law_one_of G F__law_draw
  have F__law_is_int := fn_is_int (P := P) (w := w) (base := base) S__law_is_int G
  have K_Cursor := fn_cinit (P := P) (w := w) (base := base) S_Cursor___init__ G
  have M_Cursor_peek := fn_peek (P := P) (w := w) (base := base) S_Cursor_peek G
  have K_Block := fn_binit (P := P) (w := w) (base := base) S_Block___init__ G
  have M_Block_statement := fn_stmt (P := P) (w := w) (base := base) S_Block_statement G
  have K_Reader := fn_rinit (P := P) (w := w) (base := base) S_Reader___init__ G
  have F_run_end := fn_runend (P := P) (w := w) (base := base) S_run_end G
  have F__law_listed := fn_listed (P := P) (w := w) (base := base) S__law_listed G
  have F__law_part_tokens := fn_ptoks (P := P) (w := w) (base := base) S__law_part_tokens G
  have F__law_test_tokens := fn_ttoks (P := P) (w := w) (base := base) S__law_test_tokens G
  have F__law_word := fn_word (P := P) (w := w) (base := base) S__law_word G F__law_draw
  have F__law_place := fn_lplace (P := P) (w := w) (base := base) S__law_place G F__law_draw F__law_one_of
  have F__law_picture := fn_lpic (P := P) (w := w) (base := base) S__law_picture G
  have F__law_spaced := fn_spaced (P := P) (w := w) (base := base) S__law_spaced G
  have F__law_parts_of := fn_partsof (P := P) (w := w) (base := base) S__law_parts_of G
  have F_picture_text := fn_ptext (P := P) (w := w) (base := base) S_picture_text G
  have F_test_text := fn_ttext (P := P) (w := w) (base := base) S_test_text G
  have F_simple_text := fn_stext (P := P) (w := w) (base := base) S_simple_text G
  have F__law_same := fn_same (P := P) (w := w) (base := base) S__law_same G F__law_is_int 12
  have M_Cursor_take := fn_take (P := P) (w := w) (base := base) S_Cursor_take G M_Cursor_peek
  have M_Cursor_skip := fn_skip (P := P) (w := w) (base := base) S_Cursor_skip G M_Cursor_peek
  have M_Cursor_finish := fn_finish (P := P) (w := w) (base := base) S_Cursor_finish G M_Cursor_peek
  have K_ProcReader := fn_pinit (P := P) (w := w) (base := base) S_ProcReader___init__ G K_Block
  have M_ProcReader_close := fn_close (P := P) (w := w) (base := base) S_ProcReader_close G M_Block_statement
  have F_word_at := fn_wordat (P := P) (w := w) (base := base) S_word_at G F_run_end
  have F__law_parts_tokens := fn_pstoks (P := P) (w := w) (base := base) S__law_parts_tokens G F__law_part_tokens
  have F__law_simple_tokens := fn_stoks (P := P) (w := w) (base := base) S__law_simple_tokens G F__law_listed
  have F__law_statement := fn_st (P := P) (w := w) (base := base) S__law_statement G F__law_draw F__law_one_of F__law_place 4
  have F__law_parts := fn_parts (P := P) (w := w) (base := base) S__law_parts G F__law_draw F__law_one_of F__law_place
  have F_body_lines := fn_bd (P := P) (w := w) (base := base) S_body_lines S_statement_lines G F_test_text F_simple_text 4
  have M_Cursor_expect := fn_expect (P := P) (w := w) (base := base) S_Cursor_expect G M_Cursor_skip
  have M_Cursor_name := fn_name (P := P) (w := w) (base := base) S_Cursor_name G M_Cursor_take
  have F_token_at := fn_tokat (P := P) (w := w) (base := base) S_token_at G F_word_at
  have F__law_body_lines := fn_bl (P := P) (w := w) (base := base) S__law_body_lines G F__law_test_tokens F__law_simple_tokens 5
  have F_proc_lines := fn_prl (P := P) (w := w) (base := base) S_proc_lines G F_picture_text F_body_lines
  have M_Cursor_place := fn_place (P := P) (w := w) (base := base) S_Cursor_place G M_Cursor_skip M_Cursor_name
  have F_read_names := fn_names (P := P) (w := w) (base := base) S_read_names G M_Cursor_name M_Cursor_peek M_Cursor_skip
  have F_tokens_of := fn_tokens (P := P) (w := w) (base := base) S_tokens_of G F_token_at
  have F__law_proc_lines := fn_pl (P := P) (w := w) (base := base) S__law_proc_lines G F__law_listed F__law_parts_tokens F__law_body_lines
  have F_write_source := fn_ws (P := P) (w := w) (base := base) S_write_source G F_proc_lines
  have F_read_atom := fn_atom (P := P) (w := w) (base := base) S_read_atom G M_Cursor_skip M_Cursor_peek M_Cursor_take M_Cursor_expect M_Cursor_place
  have F_read_test := fn_test (P := P) (w := w) (base := base) S_read_test G M_Cursor_take M_Cursor_place
  have F_read_set := fn_set (P := P) (w := w) (base := base) S_read_set G M_Cursor_skip M_Cursor_name M_Cursor_expect M_Cursor_place
  have F_read_call := fn_call (P := P) (w := w) (base := base) S_read_call G M_Cursor_name M_Cursor_expect F_read_names
  have F__law_written := fn_written (P := P) (w := w) (base := base) S__law_written G F__law_parts_of F__law_proc_lines F__law_spaced
  have F_read_picture := fn_pict (P := P) (w := w) (base := base) S_read_picture G F_read_atom M_Cursor_skip
  have F_read_simple := fn_simple (P := P) (w := w) (base := base) S_read_simple G F_read_set M_Cursor_name F_read_call
  have M_ProcReader_head := fn_head (P := P) (w := w) (base := base) S_ProcReader_head G F_read_names F_read_picture
  have M_ProcReader_take := fn_ptake (P := P) (w := w) (base := base) S_ProcReader_take G M_ProcReader_head K_Block F_read_test F_read_simple
  have M_Reader_line := fn_line (P := P) (w := w) (base := base) S_Reader_line G K_Cursor M_Cursor_take M_Cursor_name M_Cursor_expect M_Cursor_finish K_ProcReader F_read_names M_ProcReader_close M_ProcReader_take
  have F_read_source := fn_rs (P := P) (w := w) (base := base) S_read_source S_proc_name G K_Reader F_tokens_of M_Reader_line
  exact ok_law F G F__law_start F__law_draw F__law_one_of F__law_word F__law_statement F__law_parts F__law_picture F__law_parts_of F__law_parts_tokens F__law_spaced F_picture_text F_write_source F__law_written F_read_source F__law_same
end K02

set_option maxHeartbeats 4000000
namespace K02
open PySem PySem.Spec PyProof.Rows L2 PL SX
theorem all_mk {l : PySem.W.OpenLaw} {w : World} {K : PySem.W.Frag} {h : Heap} {mg : Str → Option Value} {fa f1 f2 f3 f4 f5 f6 f7 f8 f9 f10 f11 f12 f13 f14 f15 f16 f17 f18 f19 f20 f21 f22 f23 f24 f25 f26 f27 f28 f29 f30 f31 f32 f33 f34 f35 f36 f37 f38 f39 f40 f41 C_Cursor C_Block C_ProcReader C_Reader f42 f43 f44 f45 f46 f47 f48 f49 f50 f51 f52 f53 f54 f55 f56 f57 : Addr} (X : K.In h) (G : h.Ns mainGlobals mg) (hfa : mg "law" = some (.ref fa))
    {od1 an1 od2 an2 od3 an3 od4 an4 od5 an5 od6 an6 od7 an7 od8 an8 od9 an9 od10 an10 od11 an11 od12 an12 od13 an13 od14 an14 od15 an15 od16 an16 od17 an17 od18 an18 od19 an19 od20 an20 od21 an21 od22 an22 od23 an23 od24 an24 od25 an25 od26 an26 od27 an27 od28 an28 od29 an29 od30 an30 od31 an31 od32 an32 od33 an33 od34 an34 od35 an35 od36 an36 od37 an37 od38 an38 od39 an39 od40 an40 od41 an41 od42 an42 od43 an43 od44 an44 od45 an45 od46 an46 od47 an47 od48 an48 od49 an49 od50 an50 od51 an51 od52 an52 od53 an53 od54 an54 od55 an55 od56 an56 od57 an57 : Option Addr} {sl1 sl2 sl3 sl4 sl5 sl6 sl7 sl8 sl9 sl10 sl11 sl12 sl13 sl14 sl15 sl16 sl17 sl18 sl19 sl20 sl21 sl22 sl23 sl24 sl25 sl26 sl27 sl28 sl29 sl30 sl31 sl32 sl33 sl34 sl35 sl36 sl37 sl38 sl39 sl40 sl41 sl42 sl43 sl44 sl45 sl46 sl47 sl48 sl49 sl50 sl51 sl52 sl53 sl54 sl55 sl56 sl57 : Array (Option Value)} {oc1 kV1 dc1 pm1 cd1 ct1 oc2 kV2 dc2 pm2 cd2 ct2 oc3 kV3 dc3 pm3 cd3 ct3 oc4 kV4 dc4 pm4 cd4 ct4 oc5 kV5 dc5 pm5 cd5 ct5 oc6 kV6 dc6 pm6 cd6 ct6 oc7 kV7 dc7 pm7 cd7 ct7 oc8 kV8 dc8 pm8 cd8 ct8 oc9 kV9 dc9 pm9 cd9 ct9 oc10 kV10 dc10 pm10 cd10 ct10 oc11 kV11 dc11 pm11 cd11 ct11 oc12 kV12 dc12 pm12 cd12 ct12 oc13 kV13 dc13 pm13 cd13 ct13 oc14 kV14 dc14 pm14 cd14 ct14 oc15 kV15 dc15 pm15 cd15 ct15 oc16 kV16 dc16 pm16 cd16 ct16 oc17 kV17 dc17 pm17 cd17 ct17 oc18 kV18 dc18 pm18 cd18 ct18 oc19 kV19 dc19 pm19 cd19 ct19 oc20 kV20 dc20 pm20 cd20 ct20 oc21 kV21 dc21 pm21 cd21 ct21 oc22 kV22 dc22 pm22 cd22 ct22 oc23 kV23 dc23 pm23 cd23 ct23 oc24 kV24 dc24 pm24 cd24 ct24 oc25 kV25 dc25 pm25 cd25 ct25 oc26 kV26 dc26 pm26 cd26 ct26 oc27 kV27 dc27 pm27 cd27 ct27 oc28 kV28 dc28 pm28 cd28 ct28 oc29 kV29 dc29 pm29 cd29 ct29 oc30 kV30 dc30 pm30 cd30 ct30 oc31 kV31 dc31 pm31 cd31 ct31 oc32 kV32 dc32 pm32 cd32 ct32 oc33 kV33 dc33 pm33 cd33 ct33 oc34 kV34 dc34 pm34 cd34 ct34 oc35 kV35 dc35 pm35 cd35 ct35 oc36 kV36 dc36 pm36 cd36 ct36 oc37 kV37 dc37 pm37 cd37 ct37 oc38 kV38 dc38 pm38 cd38 ct38 oc39 kV39 dc39 pm39 cd39 ct39 oc40 kV40 dc40 pm40 cd40 ct40 oc41 kV41 dc41 pm41 cd41 ct41 oc42 kV42 dc42 pm42 cd42 ct42 oc43 kV43 dc43 pm43 cd43 ct43 oc44 kV44 dc44 pm44 cd44 ct44 oc45 kV45 dc45 pm45 cd45 ct45 oc46 kV46 dc46 pm46 cd46 ct46 oc47 kV47 dc47 pm47 cd47 ct47 oc48 kV48 dc48 pm48 cd48 ct48 oc49 kV49 dc49 pm49 cd49 ct49 oc50 kV50 dc50 pm50 cd50 ct50 oc51 kV51 dc51 pm51 cd51 ct51 oc52 kV52 dc52 pm52 cd52 ct52 oc53 kV53 dc53 pm53 cd53 ct53 oc54 kV54 dc54 pm54 cd54 ct54 oc55 kV55 dc55 pm55 cd55 ct55 oc56 kV56 dc56 pm56 cd56 ct56 oc57 kV57 dc57 pm57 cd57 ct57 : Value}
    (a1 : PySem.W.nsIn K mainGlobals "picture_text" = some (some (.ref f1))) (l1 : K.lookup f1 = some ⟨oc1, od1, .func (PySem.W.fnOf "picture_text" "picture_text" (defArgs s_picture_text) (defBody s_picture_text) (defScope s_picture_text) .none kV1 dc1 pm1 an1 cd1 ct1), sl1⟩) (c1 : PySem.W.codeIn K cd1 "picture_text" = true) (k1 : PySem.W.keepIn K (.ref f1) = true)
    (a2 : PySem.W.nsIn K mainGlobals "test_text" = some (some (.ref f2))) (l2 : K.lookup f2 = some ⟨oc2, od2, .func (PySem.W.fnOf "test_text" "test_text" (defArgs s_test_text) (defBody s_test_text) (defScope s_test_text) .none kV2 dc2 pm2 an2 cd2 ct2), sl2⟩) (c2 : PySem.W.codeIn K cd2 "test_text" = true) (k2 : PySem.W.keepIn K (.ref f2) = true)
    (a3 : PySem.W.nsIn K mainGlobals "simple_text" = some (some (.ref f3))) (l3 : K.lookup f3 = some ⟨oc3, od3, .func (PySem.W.fnOf "simple_text" "simple_text" (defArgs s_simple_text) (defBody s_simple_text) (defScope s_simple_text) .none kV3 dc3 pm3 an3 cd3 ct3), sl3⟩) (c3 : PySem.W.codeIn K cd3 "simple_text" = true) (k3 : PySem.W.keepIn K (.ref f3) = true)
    (a4 : PySem.W.nsIn K mainGlobals "statement_lines" = some (some (.ref f4))) (l4 : K.lookup f4 = some ⟨oc4, od4, .func (PySem.W.fnOf "statement_lines" "statement_lines" (defArgs s_statement_lines) (defBody s_statement_lines) (defScope s_statement_lines) .none kV4 dc4 pm4 an4 cd4 ct4), sl4⟩) (c4 : PySem.W.codeIn K cd4 "statement_lines" = true) (k4 : PySem.W.keepIn K (.ref f4) = true)
    (a5 : PySem.W.nsIn K mainGlobals "body_lines" = some (some (.ref f5))) (l5 : K.lookup f5 = some ⟨oc5, od5, .func (PySem.W.fnOf "body_lines" "body_lines" (defArgs s_body_lines) (defBody s_body_lines) (defScope s_body_lines) .none kV5 dc5 pm5 an5 cd5 ct5), sl5⟩) (c5 : PySem.W.codeIn K cd5 "body_lines" = true) (k5 : PySem.W.keepIn K (.ref f5) = true)
    (a6 : PySem.W.nsIn K mainGlobals "proc_lines" = some (some (.ref f6))) (l6 : K.lookup f6 = some ⟨oc6, od6, .func (PySem.W.fnOf "proc_lines" "proc_lines" (defArgs s_proc_lines) (defBody s_proc_lines) (defScope s_proc_lines) .none kV6 dc6 pm6 an6 cd6 ct6), sl6⟩) (c6 : PySem.W.codeIn K cd6 "proc_lines" = true) (k6 : PySem.W.keepIn K (.ref f6) = true)
    (a7 : PySem.W.nsIn K mainGlobals "write_source" = some (some (.ref f7))) (l7 : K.lookup f7 = some ⟨oc7, od7, .func (PySem.W.fnOf "write_source" "write_source" (defArgs s_write_source) (defBody s_write_source) (defScope s_write_source) .none kV7 dc7 pm7 an7 cd7 ct7), sl7⟩) (c7 : PySem.W.codeIn K cd7 "write_source" = true) (k7 : PySem.W.keepIn K (.ref f7) = true)
    (a8 : PySem.W.nsIn K mainGlobals "run_end" = some (some (.ref f8))) (l8 : K.lookup f8 = some ⟨oc8, od8, .func (PySem.W.fnOf "run_end" "run_end" (defArgs s_run_end) (defBody s_run_end) (defScope s_run_end) .none kV8 dc8 pm8 an8 cd8 ct8), sl8⟩) (c8 : PySem.W.codeIn K cd8 "run_end" = true) (k8 : PySem.W.keepIn K (.ref f8) = true)
    (a9 : PySem.W.nsIn K mainGlobals "word_at" = some (some (.ref f9))) (l9 : K.lookup f9 = some ⟨oc9, od9, .func (PySem.W.fnOf "word_at" "word_at" (defArgs s_word_at) (defBody s_word_at) (defScope s_word_at) .none kV9 dc9 pm9 an9 cd9 ct9), sl9⟩) (c9 : PySem.W.codeIn K cd9 "word_at" = true) (k9 : PySem.W.keepIn K (.ref f9) = true)
    (a10 : PySem.W.nsIn K mainGlobals "token_at" = some (some (.ref f10))) (l10 : K.lookup f10 = some ⟨oc10, od10, .func (PySem.W.fnOf "token_at" "token_at" (defArgs s_token_at) (defBody s_token_at) (defScope s_token_at) .none kV10 dc10 pm10 an10 cd10 ct10), sl10⟩) (c10 : PySem.W.codeIn K cd10 "token_at" = true) (k10 : PySem.W.keepIn K (.ref f10) = true)
    (a11 : PySem.W.nsIn K mainGlobals "tokens_of" = some (some (.ref f11))) (l11 : K.lookup f11 = some ⟨oc11, od11, .func (PySem.W.fnOf "tokens_of" "tokens_of" (defArgs s_tokens_of) (defBody s_tokens_of) (defScope s_tokens_of) .none kV11 dc11 pm11 an11 cd11 ct11), sl11⟩) (c11 : PySem.W.codeIn K cd11 "tokens_of" = true) (k11 : PySem.W.keepIn K (.ref f11) = true)
    (a12 : PySem.W.nsIn K mainGlobals "read_atom" = some (some (.ref f12))) (l12 : K.lookup f12 = some ⟨oc12, od12, .func (PySem.W.fnOf "read_atom" "read_atom" (defArgs s_read_atom) (defBody s_read_atom) (defScope s_read_atom) .none kV12 dc12 pm12 an12 cd12 ct12), sl12⟩) (c12 : PySem.W.codeIn K cd12 "read_atom" = true) (k12 : PySem.W.keepIn K (.ref f12) = true)
    (a13 : PySem.W.nsIn K mainGlobals "read_picture" = some (some (.ref f13))) (l13 : K.lookup f13 = some ⟨oc13, od13, .func (PySem.W.fnOf "read_picture" "read_picture" (defArgs s_read_picture) (defBody s_read_picture) (defScope s_read_picture) .none kV13 dc13 pm13 an13 cd13 ct13), sl13⟩) (c13 : PySem.W.codeIn K cd13 "read_picture" = true) (k13 : PySem.W.keepIn K (.ref f13) = true)
    (a14 : PySem.W.nsIn K mainGlobals "read_names" = some (some (.ref f14))) (l14 : K.lookup f14 = some ⟨oc14, od14, .func (PySem.W.fnOf "read_names" "read_names" (defArgs s_read_names) (defBody s_read_names) (defScope s_read_names) .none kV14 dc14 pm14 an14 cd14 ct14), sl14⟩) (c14 : PySem.W.codeIn K cd14 "read_names" = true) (k14 : PySem.W.keepIn K (.ref f14) = true)
    (a15 : PySem.W.nsIn K mainGlobals "read_test" = some (some (.ref f15))) (l15 : K.lookup f15 = some ⟨oc15, od15, .func (PySem.W.fnOf "read_test" "read_test" (defArgs s_read_test) (defBody s_read_test) (defScope s_read_test) .none kV15 dc15 pm15 an15 cd15 ct15), sl15⟩) (c15 : PySem.W.codeIn K cd15 "read_test" = true) (k15 : PySem.W.keepIn K (.ref f15) = true)
    (a16 : PySem.W.nsIn K mainGlobals "read_set" = some (some (.ref f16))) (l16 : K.lookup f16 = some ⟨oc16, od16, .func (PySem.W.fnOf "read_set" "read_set" (defArgs s_read_set) (defBody s_read_set) (defScope s_read_set) .none kV16 dc16 pm16 an16 cd16 ct16), sl16⟩) (c16 : PySem.W.codeIn K cd16 "read_set" = true) (k16 : PySem.W.keepIn K (.ref f16) = true)
    (a17 : PySem.W.nsIn K mainGlobals "read_call" = some (some (.ref f17))) (l17 : K.lookup f17 = some ⟨oc17, od17, .func (PySem.W.fnOf "read_call" "read_call" (defArgs s_read_call) (defBody s_read_call) (defScope s_read_call) .none kV17 dc17 pm17 an17 cd17 ct17), sl17⟩) (c17 : PySem.W.codeIn K cd17 "read_call" = true) (k17 : PySem.W.keepIn K (.ref f17) = true)
    (a18 : PySem.W.nsIn K mainGlobals "read_simple" = some (some (.ref f18))) (l18 : K.lookup f18 = some ⟨oc18, od18, .func (PySem.W.fnOf "read_simple" "read_simple" (defArgs s_read_simple) (defBody s_read_simple) (defScope s_read_simple) .none kV18 dc18 pm18 an18 cd18 ct18), sl18⟩) (c18 : PySem.W.codeIn K cd18 "read_simple" = true) (k18 : PySem.W.keepIn K (.ref f18) = true)
    (a19 : PySem.W.nsIn K mainGlobals "proc_name" = some (some (.ref f19))) (l19 : K.lookup f19 = some ⟨oc19, od19, .func (PySem.W.fnOf "proc_name" "proc_name" (defArgs s_proc_name) (defBody s_proc_name) (defScope s_proc_name) .none kV19 dc19 pm19 an19 cd19 ct19), sl19⟩) (c19 : PySem.W.codeIn K cd19 "proc_name" = true) (k19 : PySem.W.keepIn K (.ref f19) = true)
    (a20 : PySem.W.nsIn K mainGlobals "read_source" = some (some (.ref f20))) (l20 : K.lookup f20 = some ⟨oc20, od20, .func (PySem.W.fnOf "read_source" "read_source" (defArgs s_read_source) (defBody s_read_source) (defScope s_read_source) .none kV20 dc20 pm20 an20 cd20 ct20), sl20⟩) (c20 : PySem.W.codeIn K cd20 "read_source" = true) (k20 : PySem.W.keepIn K (.ref f20) = true)
    (a21 : PySem.W.nsIn K mainGlobals "_law_start" = some (some (.ref f21))) (l21 : K.lookup f21 = some ⟨oc21, od21, .func (PySem.W.fnOf "_law_start" "_law_start" (defArgs s__law_start) (defBody s__law_start) (defScope s__law_start) .none kV21 dc21 pm21 an21 cd21 ct21), sl21⟩) (c21 : PySem.W.codeIn K cd21 "_law_start" = true) (k21 : PySem.W.keepIn K (.ref f21) = true)
    (a22 : PySem.W.nsIn K mainGlobals "_law_draw" = some (some (.ref f22))) (l22 : K.lookup f22 = some ⟨oc22, od22, .func (PySem.W.fnOf "_law_draw" "_law_draw" (defArgs s__law_draw) (defBody s__law_draw) (defScope s__law_draw) .none kV22 dc22 pm22 an22 cd22 ct22), sl22⟩) (c22 : PySem.W.codeIn K cd22 "_law_draw" = true) (k22 : PySem.W.keepIn K (.ref f22) = true)
    (a23 : PySem.W.nsIn K mainGlobals "_law_one_of" = some (some (.ref f23))) (l23 : K.lookup f23 = some ⟨oc23, od23, .func (PySem.W.fnOf "_law_one_of" "_law_one_of" (defArgs s__law_one_of) (defBody s__law_one_of) (defScope s__law_one_of) .none kV23 dc23 pm23 an23 cd23 ct23), sl23⟩) (c23 : PySem.W.codeIn K cd23 "_law_one_of" = true) (k23 : PySem.W.keepIn K (.ref f23) = true)
    (a24 : PySem.W.nsIn K mainGlobals "_law_is_int" = some (some (.ref f24))) (l24 : K.lookup f24 = some ⟨oc24, od24, .func (PySem.W.fnOf "_law_is_int" "_law_is_int" (defArgs s__law_is_int) (defBody s__law_is_int) (defScope s__law_is_int) .none kV24 dc24 pm24 an24 cd24 ct24), sl24⟩) (c24 : PySem.W.codeIn K cd24 "_law_is_int" = true) (k24 : PySem.W.keepIn K (.ref f24) = true)
    (a25 : PySem.W.nsIn K mainGlobals "_law_same" = some (some (.ref f25))) (l25 : K.lookup f25 = some ⟨oc25, od25, .func (PySem.W.fnOf "_law_same" "_law_same" (defArgs s__law_same) (defBody s__law_same) (defScope s__law_same) .none kV25 dc25 pm25 an25 cd25 ct25), sl25⟩) (c25 : PySem.W.codeIn K cd25 "_law_same" = true) (k25 : PySem.W.keepIn K (.ref f25) = true)
    (a26 : PySem.W.nsIn K mainGlobals "_law_word" = some (some (.ref f26))) (l26 : K.lookup f26 = some ⟨oc26, od26, .func (PySem.W.fnOf "_law_word" "_law_word" (defArgs s__law_word) (defBody s__law_word) (defScope s__law_word) .none kV26 dc26 pm26 an26 cd26 ct26), sl26⟩) (c26 : PySem.W.codeIn K cd26 "_law_word" = true) (k26 : PySem.W.keepIn K (.ref f26) = true)
    (a27 : PySem.W.nsIn K mainGlobals "_law_place" = some (some (.ref f27))) (l27 : K.lookup f27 = some ⟨oc27, od27, .func (PySem.W.fnOf "_law_place" "_law_place" (defArgs s__law_place) (defBody s__law_place) (defScope s__law_place) .none kV27 dc27 pm27 an27 cd27 ct27), sl27⟩) (c27 : PySem.W.codeIn K cd27 "_law_place" = true) (k27 : PySem.W.keepIn K (.ref f27) = true)
    (a28 : PySem.W.nsIn K mainGlobals "_law_statement" = some (some (.ref f28))) (l28 : K.lookup f28 = some ⟨oc28, od28, .func (PySem.W.fnOf "_law_statement" "_law_statement" (defArgs s__law_statement) (defBody s__law_statement) (defScope s__law_statement) .none kV28 dc28 pm28 an28 cd28 ct28), sl28⟩) (c28 : PySem.W.codeIn K cd28 "_law_statement" = true) (k28 : PySem.W.keepIn K (.ref f28) = true)
    (a29 : PySem.W.nsIn K mainGlobals "_law_parts" = some (some (.ref f29))) (l29 : K.lookup f29 = some ⟨oc29, od29, .func (PySem.W.fnOf "_law_parts" "_law_parts" (defArgs s__law_parts) (defBody s__law_parts) (defScope s__law_parts) .none kV29 dc29 pm29 an29 cd29 ct29), sl29⟩) (c29 : PySem.W.codeIn K cd29 "_law_parts" = true) (k29 : PySem.W.keepIn K (.ref f29) = true)
    (a30 : PySem.W.nsIn K mainGlobals "_law_picture" = some (some (.ref f30))) (l30 : K.lookup f30 = some ⟨oc30, od30, .func (PySem.W.fnOf "_law_picture" "_law_picture" (defArgs s__law_picture) (defBody s__law_picture) (defScope s__law_picture) .none kV30 dc30 pm30 an30 cd30 ct30), sl30⟩) (c30 : PySem.W.codeIn K cd30 "_law_picture" = true) (k30 : PySem.W.keepIn K (.ref f30) = true)
    (a31 : PySem.W.nsIn K mainGlobals "_law_listed" = some (some (.ref f31))) (l31 : K.lookup f31 = some ⟨oc31, od31, .func (PySem.W.fnOf "_law_listed" "_law_listed" (defArgs s__law_listed) (defBody s__law_listed) (defScope s__law_listed) .none kV31 dc31 pm31 an31 cd31 ct31), sl31⟩) (c31 : PySem.W.codeIn K cd31 "_law_listed" = true) (k31 : PySem.W.keepIn K (.ref f31) = true)
    (a32 : PySem.W.nsIn K mainGlobals "_law_part_tokens" = some (some (.ref f32))) (l32 : K.lookup f32 = some ⟨oc32, od32, .func (PySem.W.fnOf "_law_part_tokens" "_law_part_tokens" (defArgs s__law_part_tokens) (defBody s__law_part_tokens) (defScope s__law_part_tokens) .none kV32 dc32 pm32 an32 cd32 ct32), sl32⟩) (c32 : PySem.W.codeIn K cd32 "_law_part_tokens" = true) (k32 : PySem.W.keepIn K (.ref f32) = true)
    (a33 : PySem.W.nsIn K mainGlobals "_law_parts_tokens" = some (some (.ref f33))) (l33 : K.lookup f33 = some ⟨oc33, od33, .func (PySem.W.fnOf "_law_parts_tokens" "_law_parts_tokens" (defArgs s__law_parts_tokens) (defBody s__law_parts_tokens) (defScope s__law_parts_tokens) .none kV33 dc33 pm33 an33 cd33 ct33), sl33⟩) (c33 : PySem.W.codeIn K cd33 "_law_parts_tokens" = true) (k33 : PySem.W.keepIn K (.ref f33) = true)
    (a34 : PySem.W.nsIn K mainGlobals "_law_test_tokens" = some (some (.ref f34))) (l34 : K.lookup f34 = some ⟨oc34, od34, .func (PySem.W.fnOf "_law_test_tokens" "_law_test_tokens" (defArgs s__law_test_tokens) (defBody s__law_test_tokens) (defScope s__law_test_tokens) .none kV34 dc34 pm34 an34 cd34 ct34), sl34⟩) (c34 : PySem.W.codeIn K cd34 "_law_test_tokens" = true) (k34 : PySem.W.keepIn K (.ref f34) = true)
    (a35 : PySem.W.nsIn K mainGlobals "_law_simple_tokens" = some (some (.ref f35))) (l35 : K.lookup f35 = some ⟨oc35, od35, .func (PySem.W.fnOf "_law_simple_tokens" "_law_simple_tokens" (defArgs s__law_simple_tokens) (defBody s__law_simple_tokens) (defScope s__law_simple_tokens) .none kV35 dc35 pm35 an35 cd35 ct35), sl35⟩) (c35 : PySem.W.codeIn K cd35 "_law_simple_tokens" = true) (k35 : PySem.W.keepIn K (.ref f35) = true)
    (a36 : PySem.W.nsIn K mainGlobals "_law_body_lines" = some (some (.ref f36))) (l36 : K.lookup f36 = some ⟨oc36, od36, .func (PySem.W.fnOf "_law_body_lines" "_law_body_lines" (defArgs s__law_body_lines) (defBody s__law_body_lines) (defScope s__law_body_lines) .none kV36 dc36 pm36 an36 cd36 ct36), sl36⟩) (c36 : PySem.W.codeIn K cd36 "_law_body_lines" = true) (k36 : PySem.W.keepIn K (.ref f36) = true)
    (a37 : PySem.W.nsIn K mainGlobals "_law_proc_lines" = some (some (.ref f37))) (l37 : K.lookup f37 = some ⟨oc37, od37, .func (PySem.W.fnOf "_law_proc_lines" "_law_proc_lines" (defArgs s__law_proc_lines) (defBody s__law_proc_lines) (defScope s__law_proc_lines) .none kV37 dc37 pm37 an37 cd37 ct37), sl37⟩) (c37 : PySem.W.codeIn K cd37 "_law_proc_lines" = true) (k37 : PySem.W.keepIn K (.ref f37) = true)
    (a38 : PySem.W.nsIn K mainGlobals "_law_spaced" = some (some (.ref f38))) (l38 : K.lookup f38 = some ⟨oc38, od38, .func (PySem.W.fnOf "_law_spaced" "_law_spaced" (defArgs s__law_spaced) (defBody s__law_spaced) (defScope s__law_spaced) .none kV38 dc38 pm38 an38 cd38 ct38), sl38⟩) (c38 : PySem.W.codeIn K cd38 "_law_spaced" = true) (k38 : PySem.W.keepIn K (.ref f38) = true)
    (a39 : PySem.W.nsIn K mainGlobals "_law_parts_of" = some (some (.ref f39))) (l39 : K.lookup f39 = some ⟨oc39, od39, .func (PySem.W.fnOf "_law_parts_of" "_law_parts_of" (defArgs s__law_parts_of) (defBody s__law_parts_of) (defScope s__law_parts_of) .none kV39 dc39 pm39 an39 cd39 ct39), sl39⟩) (c39 : PySem.W.codeIn K cd39 "_law_parts_of" = true) (k39 : PySem.W.keepIn K (.ref f39) = true)
    (a40 : PySem.W.nsIn K mainGlobals "_law_written" = some (some (.ref f40))) (l40 : K.lookup f40 = some ⟨oc40, od40, .func (PySem.W.fnOf "_law_written" "_law_written" (defArgs s__law_written) (defBody s__law_written) (defScope s__law_written) .none kV40 dc40 pm40 an40 cd40 ct40), sl40⟩) (c40 : PySem.W.codeIn K cd40 "_law_written" = true) (k40 : PySem.W.keepIn K (.ref f40) = true)
    (a41 : PySem.W.nsIn K mainGlobals "law" = some (some (.ref f41))) (l41 : K.lookup f41 = some ⟨oc41, od41, .func (PySem.W.fnOf "law" "law" (defArgs s_law) (defBody s_law) (defScope s_law) .none kV41 dc41 pm41 an41 cd41 ct41), sl41⟩) (c41 : PySem.W.codeIn K cd41 "law" = true) (k41 : PySem.W.keepIn K (.ref f41) = true)
    (ca_Cursor : PySem.W.nsIn K mainGlobals "Cursor" = some (some (.ref C_Cursor))) (pg_Cursor : PySem.W.plainGet K C_Cursor Str.empty = true) (hd_Cursor : PySem.W.hasDictIn K C_Cursor = true) (po_Cursor : PySem.W.plainOver K C_Cursor = true) (sa_Cursor : PySem.W.findIn K (.ref C_Cursor) "__setattr__" = some (some (.builtin "object.__setattr__"))) (mk_Cursor : PySem.W.makesIn K C_Cursor = true) (kc_Cursor : PySem.W.keepIn K (.ref C_Cursor) = true)
    (n_Cursor_tokens : PySem.W.findIn K (.ref C_Cursor) "tokens" = some none) (n_Cursor_at : PySem.W.findIn K (.ref C_Cursor) "at" = some none)
    (ca_Block : PySem.W.nsIn K mainGlobals "Block" = some (some (.ref C_Block))) (pg_Block : PySem.W.plainGet K C_Block Str.empty = true) (hd_Block : PySem.W.hasDictIn K C_Block = true) (po_Block : PySem.W.plainOver K C_Block = true) (sa_Block : PySem.W.findIn K (.ref C_Block) "__setattr__" = some (some (.builtin "object.__setattr__"))) (mk_Block : PySem.W.makesIn K C_Block = true) (kc_Block : PySem.W.keepIn K (.ref C_Block) = true)
    (n_Block_kind : PySem.W.findIn K (.ref C_Block) "kind" = some none) (n_Block_test : PySem.W.findIn K (.ref C_Block) "test" = some none) (n_Block_first : PySem.W.findIn K (.ref C_Block) "first" = some none) (n_Block_rows : PySem.W.findIn K (.ref C_Block) "rows" = some none)
    (ca_ProcReader : PySem.W.nsIn K mainGlobals "ProcReader" = some (some (.ref C_ProcReader))) (pg_ProcReader : PySem.W.plainGet K C_ProcReader Str.empty = true) (hd_ProcReader : PySem.W.hasDictIn K C_ProcReader = true) (po_ProcReader : PySem.W.plainOver K C_ProcReader = true) (sa_ProcReader : PySem.W.findIn K (.ref C_ProcReader) "__setattr__" = some (some (.builtin "object.__setattr__"))) (mk_ProcReader : PySem.W.makesIn K C_ProcReader = true) (kc_ProcReader : PySem.W.keepIn K (.ref C_ProcReader) = true)
    (n_ProcReader_name : PySem.W.findIn K (.ref C_ProcReader) "name" = some none) (n_ProcReader_parameters : PySem.W.findIn K (.ref C_ProcReader) "parameters" = some none) (n_ProcReader_locals : PySem.W.findIn K (.ref C_ProcReader) "locals" = some none) (n_ProcReader_need : PySem.W.findIn K (.ref C_ProcReader) "need" = some none) (n_ProcReader_ensures : PySem.W.findIn K (.ref C_ProcReader) "ensures" = some none) (n_ProcReader_stage : PySem.W.findIn K (.ref C_ProcReader) "stage" = some none) (n_ProcReader_blocks : PySem.W.findIn K (.ref C_ProcReader) "blocks" = some none)
    (ca_Reader : PySem.W.nsIn K mainGlobals "Reader" = some (some (.ref C_Reader))) (pg_Reader : PySem.W.plainGet K C_Reader Str.empty = true) (hd_Reader : PySem.W.hasDictIn K C_Reader = true) (po_Reader : PySem.W.plainOver K C_Reader = true) (sa_Reader : PySem.W.findIn K (.ref C_Reader) "__setattr__" = some (some (.builtin "object.__setattr__"))) (mk_Reader : PySem.W.makesIn K C_Reader = true) (kc_Reader : PySem.W.keepIn K (.ref C_Reader) = true)
    (n_Reader_procs : PySem.W.findIn K (.ref C_Reader) "procs" = some none) (n_Reader_now : PySem.W.findIn K (.ref C_Reader) "now" = some none)
    (a42 : PySem.W.findIn K (.ref C_Cursor) "__init__" = some (some (.ref f42))) (i42 : PySem.W.isFn K (.ref f42) = true) (l42 : K.lookup f42 = some ⟨oc42, od42, .func (PySem.W.fnOf "__init__" "Cursor.__init__" (defArgs s_Cursor___init__) (defBody s_Cursor___init__) (defScope s_Cursor___init__) .none kV42 dc42 pm42 an42 cd42 ct42), sl42⟩) (c42 : PySem.W.codeIn K cd42 "Cursor.__init__" = true) (k42 : PySem.W.keepIn K (.ref f42) = true)
    {t43 : Addr} {tc43 : Value} {td43 : Option Addr} {ti43 : List Value} {tn43 : Nat} {ts43 : Array (Option Value)}
    (a43 : PySem.W.findIn K (.ref C_Cursor) "peek" = some (some (.ref f43))) (i43 : PySem.W.isFn K (.ref f43) = true) (l43 : K.lookup f43 = some ⟨oc43, od43, .func (PySem.W.fnOf "peek" "Cursor.peek" (defArgs s_Cursor_peek) (defBody s_Cursor_peek) (defScope s_Cursor_peek) (.ref t43) kV43 dc43 pm43 an43 cd43 ct43), sl43⟩) (c43 : PySem.W.codeIn K cd43 "Cursor.peek" = true) (k43 : PySem.W.keepIn K (.ref f43) = true)
    (tt43 : K.lookup t43 = some ⟨tc43, td43, .seq ti43.toArray tn43, ts43⟩) (tv43 : Vals [V.int 0] ti43)
    (a44 : PySem.W.findIn K (.ref C_Cursor) "take" = some (some (.ref f44))) (i44 : PySem.W.isFn K (.ref f44) = true) (l44 : K.lookup f44 = some ⟨oc44, od44, .func (PySem.W.fnOf "take" "Cursor.take" (defArgs s_Cursor_take) (defBody s_Cursor_take) (defScope s_Cursor_take) .none kV44 dc44 pm44 an44 cd44 ct44), sl44⟩) (c44 : PySem.W.codeIn K cd44 "Cursor.take" = true) (k44 : PySem.W.keepIn K (.ref f44) = true)
    (a45 : PySem.W.findIn K (.ref C_Cursor) "skip" = some (some (.ref f45))) (i45 : PySem.W.isFn K (.ref f45) = true) (l45 : K.lookup f45 = some ⟨oc45, od45, .func (PySem.W.fnOf "skip" "Cursor.skip" (defArgs s_Cursor_skip) (defBody s_Cursor_skip) (defScope s_Cursor_skip) .none kV45 dc45 pm45 an45 cd45 ct45), sl45⟩) (c45 : PySem.W.codeIn K cd45 "Cursor.skip" = true) (k45 : PySem.W.keepIn K (.ref f45) = true)
    (a46 : PySem.W.findIn K (.ref C_Cursor) "expect" = some (some (.ref f46))) (i46 : PySem.W.isFn K (.ref f46) = true) (l46 : K.lookup f46 = some ⟨oc46, od46, .func (PySem.W.fnOf "expect" "Cursor.expect" (defArgs s_Cursor_expect) (defBody s_Cursor_expect) (defScope s_Cursor_expect) .none kV46 dc46 pm46 an46 cd46 ct46), sl46⟩) (c46 : PySem.W.codeIn K cd46 "Cursor.expect" = true) (k46 : PySem.W.keepIn K (.ref f46) = true)
    (a47 : PySem.W.findIn K (.ref C_Cursor) "name" = some (some (.ref f47))) (i47 : PySem.W.isFn K (.ref f47) = true) (l47 : K.lookup f47 = some ⟨oc47, od47, .func (PySem.W.fnOf "name" "Cursor.name" (defArgs s_Cursor_name) (defBody s_Cursor_name) (defScope s_Cursor_name) .none kV47 dc47 pm47 an47 cd47 ct47), sl47⟩) (c47 : PySem.W.codeIn K cd47 "Cursor.name" = true) (k47 : PySem.W.keepIn K (.ref f47) = true)
    (a48 : PySem.W.findIn K (.ref C_Cursor) "place" = some (some (.ref f48))) (i48 : PySem.W.isFn K (.ref f48) = true) (l48 : K.lookup f48 = some ⟨oc48, od48, .func (PySem.W.fnOf "place" "Cursor.place" (defArgs s_Cursor_place) (defBody s_Cursor_place) (defScope s_Cursor_place) .none kV48 dc48 pm48 an48 cd48 ct48), sl48⟩) (c48 : PySem.W.codeIn K cd48 "Cursor.place" = true) (k48 : PySem.W.keepIn K (.ref f48) = true)
    (a49 : PySem.W.findIn K (.ref C_Cursor) "finish" = some (some (.ref f49))) (i49 : PySem.W.isFn K (.ref f49) = true) (l49 : K.lookup f49 = some ⟨oc49, od49, .func (PySem.W.fnOf "finish" "Cursor.finish" (defArgs s_Cursor_finish) (defBody s_Cursor_finish) (defScope s_Cursor_finish) .none kV49 dc49 pm49 an49 cd49 ct49), sl49⟩) (c49 : PySem.W.codeIn K cd49 "Cursor.finish" = true) (k49 : PySem.W.keepIn K (.ref f49) = true)
    (a50 : PySem.W.findIn K (.ref C_Block) "__init__" = some (some (.ref f50))) (i50 : PySem.W.isFn K (.ref f50) = true) (l50 : K.lookup f50 = some ⟨oc50, od50, .func (PySem.W.fnOf "__init__" "Block.__init__" (defArgs s_Block___init__) (defBody s_Block___init__) (defScope s_Block___init__) .none kV50 dc50 pm50 an50 cd50 ct50), sl50⟩) (c50 : PySem.W.codeIn K cd50 "Block.__init__" = true) (k50 : PySem.W.keepIn K (.ref f50) = true)
    (a51 : PySem.W.findIn K (.ref C_Block) "statement" = some (some (.ref f51))) (i51 : PySem.W.isFn K (.ref f51) = true) (l51 : K.lookup f51 = some ⟨oc51, od51, .func (PySem.W.fnOf "statement" "Block.statement" (defArgs s_Block_statement) (defBody s_Block_statement) (defScope s_Block_statement) .none kV51 dc51 pm51 an51 cd51 ct51), sl51⟩) (c51 : PySem.W.codeIn K cd51 "Block.statement" = true) (k51 : PySem.W.keepIn K (.ref f51) = true)
    (a52 : PySem.W.findIn K (.ref C_ProcReader) "__init__" = some (some (.ref f52))) (i52 : PySem.W.isFn K (.ref f52) = true) (l52 : K.lookup f52 = some ⟨oc52, od52, .func (PySem.W.fnOf "__init__" "ProcReader.__init__" (defArgs s_ProcReader___init__) (defBody s_ProcReader___init__) (defScope s_ProcReader___init__) .none kV52 dc52 pm52 an52 cd52 ct52), sl52⟩) (c52 : PySem.W.codeIn K cd52 "ProcReader.__init__" = true) (k52 : PySem.W.keepIn K (.ref f52) = true)
    (a53 : PySem.W.findIn K (.ref C_ProcReader) "head" = some (some (.ref f53))) (i53 : PySem.W.isFn K (.ref f53) = true) (l53 : K.lookup f53 = some ⟨oc53, od53, .func (PySem.W.fnOf "head" "ProcReader.head" (defArgs s_ProcReader_head) (defBody s_ProcReader_head) (defScope s_ProcReader_head) .none kV53 dc53 pm53 an53 cd53 ct53), sl53⟩) (c53 : PySem.W.codeIn K cd53 "ProcReader.head" = true) (k53 : PySem.W.keepIn K (.ref f53) = true)
    (a54 : PySem.W.findIn K (.ref C_ProcReader) "take" = some (some (.ref f54))) (i54 : PySem.W.isFn K (.ref f54) = true) (l54 : K.lookup f54 = some ⟨oc54, od54, .func (PySem.W.fnOf "take" "ProcReader.take" (defArgs s_ProcReader_take) (defBody s_ProcReader_take) (defScope s_ProcReader_take) .none kV54 dc54 pm54 an54 cd54 ct54), sl54⟩) (c54 : PySem.W.codeIn K cd54 "ProcReader.take" = true) (k54 : PySem.W.keepIn K (.ref f54) = true)
    (a55 : PySem.W.findIn K (.ref C_ProcReader) "close" = some (some (.ref f55))) (i55 : PySem.W.isFn K (.ref f55) = true) (l55 : K.lookup f55 = some ⟨oc55, od55, .func (PySem.W.fnOf "close" "ProcReader.close" (defArgs s_ProcReader_close) (defBody s_ProcReader_close) (defScope s_ProcReader_close) .none kV55 dc55 pm55 an55 cd55 ct55), sl55⟩) (c55 : PySem.W.codeIn K cd55 "ProcReader.close" = true) (k55 : PySem.W.keepIn K (.ref f55) = true)
    (a56 : PySem.W.findIn K (.ref C_Reader) "__init__" = some (some (.ref f56))) (i56 : PySem.W.isFn K (.ref f56) = true) (l56 : K.lookup f56 = some ⟨oc56, od56, .func (PySem.W.fnOf "__init__" "Reader.__init__" (defArgs s_Reader___init__) (defBody s_Reader___init__) (defScope s_Reader___init__) .none kV56 dc56 pm56 an56 cd56 ct56), sl56⟩) (c56 : PySem.W.codeIn K cd56 "Reader.__init__" = true) (k56 : PySem.W.keepIn K (.ref f56) = true)
    (a57 : PySem.W.findIn K (.ref C_Reader) "line" = some (some (.ref f57))) (i57 : PySem.W.isFn K (.ref f57) = true) (l57 : K.lookup f57 = some ⟨oc57, od57, .func (PySem.W.fnOf "line" "Reader.line" (defArgs s_Reader_line) (defBody s_Reader_line) (defScope s_Reader_line) .none kV57 dc57 pm57 an57 cd57 ct57), sl57⟩) (c57 : PySem.W.codeIn K cd57 "Reader.line" = true) (k57 : PySem.W.keepIn K (.ref f57) = true)
    (z_tuple : PySem.W.nsIn K mainGlobals "tuple" = some none)
    (z_enumerate : PySem.W.nsIn K mainGlobals "enumerate" = some none)
    (z_isinstance : PySem.W.nsIn K mainGlobals "isinstance" = some none)
    (z_str : PySem.W.nsIn K mainGlobals "str" = some none)
    (z_range : PySem.W.nsIn K mainGlobals "range" = some none)
    (z_sorted : PySem.W.nsIn K mainGlobals "sorted" = some none)
    (z_len : PySem.W.nsIn K mainGlobals "len" = some none)
    (z_list : PySem.W.nsIn K mainGlobals "list" = some none)
    (z_abs : PySem.W.nsIn K mainGlobals "abs" = some none)
    (z_int : PySem.W.nsIn K mainGlobals "int" = some none)
    (z_all : PySem.W.nsIn K mainGlobals "all" = some none)
    (z_bool : PySem.W.nsIn K mainGlobals "bool" = some none)
    {u_LETTERS : Value} (z_LETTERS : PySem.W.nsIn K mainGlobals "LETTERS" = some (some u_LETTERS)) (r_LETTERS : RelV (.str "abcdefghijklmnopqrstuvwxyz") u_LETTERS)
    {u_DIGITS : Value} (z_DIGITS : PySem.W.nsIn K mainGlobals "DIGITS" = some (some u_DIGITS)) (r_DIGITS : RelV (.str "0123456789") u_DIGITS)
    {u_PAIRS : Addr} {d_PAIRS : Option Addr} {t_PAIRS : Array Value} {n_PAIRS : Nat} {s_PAIRS : Array (Option Value)} (z_PAIRS : PySem.W.nsIn K mainGlobals "PAIRS" = some (some (.ref u_PAIRS))) (y_PAIRS : K.lookup u_PAIRS = some ⟨.type "tuple", d_PAIRS, .seq t_PAIRS n_PAIRS, s_PAIRS⟩) (r_PAIRS : t_PAIRS.size ≤ sizeLine ∧ Vals ((["==", "!="] : List Str).map V.str) t_PAIRS.toList)
    {u_SINGLES : Value} (z_SINGLES : PySem.W.nsIn K mainGlobals "SINGLES" = some (some u_SINGLES)) (r_SINGLES : RelV (.str "(),*=") u_SINGLES)
    {u_MOST_TOKENS : Value} (z_MOST_TOKENS : PySem.W.nsIn K mainGlobals "MOST_TOKENS" = some (some u_MOST_TOKENS)) (r_MOST_TOKENS : RelV (.int 60) u_MOST_TOKENS)
    {u_MOST_SIGNS : Value} (z_MOST_SIGNS : PySem.W.nsIn K mainGlobals "MOST_SIGNS" = some (some u_MOST_SIGNS)) (r_MOST_SIGNS : RelV (.int 16) u_MOST_SIGNS)
    {u_RESERVED : Addr} {d_RESERVED : Option Addr} {t_RESERVED : Array Value} {n_RESERVED : Nat} {s_RESERVED : Array (Option Value)} (z_RESERVED : PySem.W.nsIn K mainGlobals "RESERVED" = some (some (.ref u_RESERVED))) (y_RESERVED : K.lookup u_RESERVED = some ⟨.type "tuple", d_RESERVED, .seq t_RESERVED n_RESERVED, s_RESERVED⟩) (r_RESERVED : t_RESERVED.size ≤ sizeLine ∧ Vals ((["proc", "end", "local", "need", "ensure", "set", "next", "new", "free", "if", "else", "while", "call", "nil", "cell", "chain", "none"] : List Str).map V.str) t_RESERVED.toList)
    {u_NIL : Value} (z_NIL : PySem.W.nsIn K mainGlobals "NIL" = some (some u_NIL)) (r_NIL : RelV (.str "nil") u_NIL)
    {u_EMPTY u_EMPTY0 u_EMPTY1 u_EMPTY2 u_EMPTY3 : Addr} {d_EMPTY d_EMPTY0 d_EMPTY1 d_EMPTY2 d_EMPTY3 : Option Addr} {t_EMPTY t_EMPTY0 t_EMPTY1 t_EMPTY2 t_EMPTY3 : Array Value} {n_EMPTY n_EMPTY0 n_EMPTY1 n_EMPTY2 n_EMPTY3 : Nat} {s_EMPTY s_EMPTY0 s_EMPTY1 s_EMPTY2 s_EMPTY3 : Array (Option Value)} (z_EMPTY : PySem.W.nsIn K mainGlobals "EMPTY" = some (some (.ref u_EMPTY))) (y_EMPTY : K.lookup u_EMPTY = some ⟨.type "tuple", d_EMPTY, .seq t_EMPTY n_EMPTY, s_EMPTY⟩) (r_EMPTY : t_EMPTY.size ≤ sizeLine ∧ t_EMPTY.toList = [u_EMPTY0, u_EMPTY1, u_EMPTY2, u_EMPTY3].map Value.ref)
    (w_EMPTY0 : K.lookup u_EMPTY0 = some ⟨.type "tuple", d_EMPTY0, .seq t_EMPTY0 n_EMPTY0, s_EMPTY0⟩) (v_EMPTY0 : t_EMPTY0.toList = [])
    (w_EMPTY1 : K.lookup u_EMPTY1 = some ⟨.type "tuple", d_EMPTY1, .seq t_EMPTY1 n_EMPTY1, s_EMPTY1⟩) (v_EMPTY1 : t_EMPTY1.toList = [])
    (w_EMPTY2 : K.lookup u_EMPTY2 = some ⟨.type "tuple", d_EMPTY2, .seq t_EMPTY2 n_EMPTY2, s_EMPTY2⟩) (v_EMPTY2 : t_EMPTY2.toList = [])
    (w_EMPTY3 : K.lookup u_EMPTY3 = some ⟨.type "tuple", d_EMPTY3, .seq t_EMPTY3 n_EMPTY3, s_EMPTY3⟩) (v_EMPTY3 : t_EMPTY3.toList = [])
    {u_MOST_OPEN : Value} (z_MOST_OPEN : PySem.W.nsIn K mainGlobals "MOST_OPEN" = some (some u_MOST_OPEN)) (r_MOST_OPEN : RelV (.int 30) u_MOST_OPEN)
    : ∃ fd : FuncData, (∀ (s : Shared) (v : Value), BindsTo s fd ⟨[v], []⟩ [("script", v)]) ∧ ∀ base : Heap, K.In base → base.Ns mainGlobals mg → FnOk l.prog w K mg base (L2.CX l.prog w) 15 fa fd ["script"] (liftSp K (sp_law K)) := by
  have e := hfa.symm.trans (PySem.W.mg_of X G a41)
  cases e
  have GG : GF K mg C_Cursor C_Block C_ProcReader C_Reader f19 := ⟨PySem.W.mg_none_of X G z_tuple, PySem.W.mg_none_of X G z_enumerate, PySem.W.mg_none_of X G z_isinstance, PySem.W.mg_none_of X G z_str, PySem.W.mg_none_of X G z_range, PySem.W.mg_none_of X G z_sorted, PySem.W.mg_none_of X G z_len, PySem.W.mg_none_of X G z_list, PySem.W.mg_none_of X G z_abs, PySem.W.mg_none_of X G z_int, PySem.W.mg_none_of X G z_all, PySem.W.mg_none_of X G z_bool, ⟨_, PySem.W.mg_of X G z_LETTERS, r_LETTERS⟩, ⟨_, PySem.W.mg_of X G z_DIGITS, r_DIGITS⟩, ⟨_, PySem.W.mg_of X G z_PAIRS, fun _ => rep_globT y_PAIRS r_PAIRS.1 r_PAIRS.2⟩, ⟨_, PySem.W.mg_of X G z_SINGLES, r_SINGLES⟩, ⟨_, PySem.W.mg_of X G z_MOST_TOKENS, r_MOST_TOKENS⟩, ⟨_, PySem.W.mg_of X G z_MOST_SIGNS, r_MOST_SIGNS⟩, ⟨_, PySem.W.mg_of X G z_RESERVED, fun _ => rep_globT y_RESERVED r_RESERVED.1 r_RESERVED.2⟩, ⟨_, PySem.W.mg_of X G z_NIL, r_NIL⟩, ⟨_, PySem.W.mg_of X G z_EMPTY, fun _ => rep_tups [u_EMPTY0, u_EMPTY1, u_EMPTY2, u_EMPTY3] y_EMPTY r_EMPTY.1 r_EMPTY.2 (.cons (rep_tup0 w_EMPTY0 v_EMPTY0) (.cons (rep_tup0 w_EMPTY1 v_EMPTY1) (.cons (rep_tup0 w_EMPTY2 v_EMPTY2) (.cons (rep_tup0 w_EMPTY3 v_EMPTY3) (.nil)))))⟩, ⟨_, PySem.W.mg_of X G z_MOST_OPEN, r_MOST_OPEN⟩, ⟨⟨pg_Cursor, hd_Cursor, po_Cursor, sa_Cursor⟩, (fun f hf => by simp only [List.mem_cons, List.not_mem_nil, or_false] at hf; rcases hf with rfl | rfl; exact n_Cursor_tokens; exact n_Cursor_at)⟩, ⟨⟨pg_Block, hd_Block, po_Block, sa_Block⟩, (fun f hf => by simp only [List.mem_cons, List.not_mem_nil, or_false] at hf; rcases hf with rfl | rfl | rfl | rfl; exact n_Block_kind; exact n_Block_test; exact n_Block_first; exact n_Block_rows)⟩, ⟨⟨pg_ProcReader, hd_ProcReader, po_ProcReader, sa_ProcReader⟩, (fun f hf => by simp only [List.mem_cons, List.not_mem_nil, or_false] at hf; rcases hf with rfl | rfl | rfl | rfl | rfl | rfl | rfl; exact n_ProcReader_name; exact n_ProcReader_parameters; exact n_ProcReader_locals; exact n_ProcReader_need; exact n_ProcReader_ensures; exact n_ProcReader_stage; exact n_ProcReader_blocks)⟩, ⟨⟨pg_Reader, hd_Reader, po_Reader, sa_Reader⟩, (fun f hf => by simp only [List.mem_cons, List.not_mem_nil, or_false] at hf; rcases hf with rfl | rfl; exact n_Reader_procs; exact n_Reader_now)⟩, PySem.W.mg_of X G a19⟩
  have F1 := fun_mk (st := s_picture_text) l1 c1 k1
  have b1 := F1.binds (ps := ["picture"]) fun _ _ _ _ _ _ us hl => match us, hl with | [_], _ => rfl
  have F2 := fun_mk (st := s_test_text) l2 c2 k2
  have b2 := F2.binds (ps := ["test"]) fun _ _ _ _ _ _ us hl => match us, hl with | [_], _ => rfl
  have F3 := fun_mk (st := s_simple_text) l3 c3 k3
  have b3 := F3.binds (ps := ["statement"]) fun _ _ _ _ _ _ us hl => match us, hl with | [_], _ => rfl
  have F4 := fun_mk (st := s_statement_lines) l4 c4 k4
  have b4 := F4.binds (ps := ["statement"]) fun _ _ _ _ _ _ us hl => match us, hl with | [_], _ => rfl
  have F5 := fun_mk (st := s_body_lines) l5 c5 k5
  have b5 := F5.binds (ps := ["body"]) fun _ _ _ _ _ _ us hl => match us, hl with | [_], _ => rfl
  have F6 := fun_mk (st := s_proc_lines) l6 c6 k6
  have b6 := F6.binds (ps := ["proc"]) fun _ _ _ _ _ _ us hl => match us, hl with | [_], _ => rfl
  have F7 := fun_mk (st := s_write_source) l7 c7 k7
  have b7 := F7.binds (ps := ["source"]) fun _ _ _ _ _ _ us hl => match us, hl with | [_], _ => rfl
  have F8 := fun_mk (st := s_run_end) l8 c8 k8
  have b8 := F8.binds (ps := ["line", "start", "signs"]) fun _ _ _ _ _ _ us hl => match us, hl with | [_, _, _], _ => rfl
  have F9 := fun_mk (st := s_word_at) l9 c9 k9
  have b9 := F9.binds (ps := ["line", "start"]) fun _ _ _ _ _ _ us hl => match us, hl with | [_, _], _ => rfl
  have F10 := fun_mk (st := s_token_at) l10 c10 k10
  have b10 := F10.binds (ps := ["line", "start"]) fun _ _ _ _ _ _ us hl => match us, hl with | [_, _], _ => rfl
  have F11 := fun_mk (st := s_tokens_of) l11 c11 k11
  have b11 := F11.binds (ps := ["line"]) fun _ _ _ _ _ _ us hl => match us, hl with | [_], _ => rfl
  have F12 := fun_mk (st := s_read_atom) l12 c12 k12
  have b12 := F12.binds (ps := ["cursor", "parts"]) fun _ _ _ _ _ _ us hl => match us, hl with | [_, _], _ => rfl
  have F13 := fun_mk (st := s_read_picture) l13 c13 k13
  have b13 := F13.binds (ps := ["cursor"]) fun _ _ _ _ _ _ us hl => match us, hl with | [_], _ => rfl
  have F14 := fun_mk (st := s_read_names) l14 c14 k14
  have b14 := F14.binds (ps := ["cursor", "least"]) fun _ _ _ _ _ _ us hl => match us, hl with | [_, _], _ => rfl
  have F15 := fun_mk (st := s_read_test) l15 c15 k15
  have b15 := F15.binds (ps := ["cursor"]) fun _ _ _ _ _ _ us hl => match us, hl with | [_], _ => rfl
  have F16 := fun_mk (st := s_read_set) l16 c16 k16
  have b16 := F16.binds (ps := ["cursor"]) fun _ _ _ _ _ _ us hl => match us, hl with | [_], _ => rfl
  have F17 := fun_mk (st := s_read_call) l17 c17 k17
  have b17 := F17.binds (ps := ["cursor"]) fun _ _ _ _ _ _ us hl => match us, hl with | [_], _ => rfl
  have F18 := fun_mk (st := s_read_simple) l18 c18 k18
  have b18 := F18.binds (ps := ["word", "cursor"]) fun _ _ _ _ _ _ us hl => match us, hl with | [_, _], _ => rfl
  have F19 := fun_mk (st := s_proc_name) l19 c19 k19
  have b19 := F19.binds (ps := ["proc"]) fun _ _ _ _ _ _ us hl => match us, hl with | [_], _ => rfl
  have F20 := fun_mk (st := s_read_source) l20 c20 k20
  have b20 := F20.binds (ps := ["text"]) fun _ _ _ _ _ _ us hl => match us, hl with | [_], _ => rfl
  have F21 := fun_mk (st := s__law_start) l21 c21 k21
  have b21 := F21.binds (ps := ["script"]) fun _ _ _ _ _ _ us hl => match us, hl with | [_], _ => rfl
  have F22 := fun_mk (st := s__law_draw) l22 c22 k22
  have b22 := F22.binds (ps := ["state", "most"]) fun _ _ _ _ _ _ us hl => match us, hl with | [_, _], _ => rfl
  have F23 := fun_mk (st := s__law_one_of) l23 c23 k23
  have b23 := F23.binds (ps := ["state", "items"]) fun _ _ _ _ _ _ us hl => match us, hl with | [_, _], _ => rfl
  have F24 := fun_mk (st := s__law_is_int) l24 c24 k24
  have b24 := F24.binds (ps := ["x"]) fun _ _ _ _ _ _ us hl => match us, hl with | [_], _ => rfl
  have F25 := fun_mk (st := s__law_same) l25 c25 k25
  have b25 := F25.binds (ps := ["x", "y"]) fun _ _ _ _ _ _ us hl => match us, hl with | [_, _], _ => rfl
  have F26 := fun_mk (st := s__law_word) l26 c26 k26
  have b26 := F26.binds (ps := ["state"]) fun _ _ _ _ _ _ us hl => match us, hl with | [_], _ => rfl
  have F27 := fun_mk (st := s__law_place) l27 c27 k27
  have b27 := F27.binds (ps := ["state", "names"]) fun _ _ _ _ _ _ us hl => match us, hl with | [_, _], _ => rfl
  have F28 := fun_mk (st := s__law_statement) l28 c28 k28
  have b28 := F28.binds (ps := ["state", "names", "deep"]) fun _ _ _ _ _ _ us hl => match us, hl with | [_, _, _], _ => rfl
  have F29 := fun_mk (st := s__law_parts) l29 c29 k29
  have b29 := F29.binds (ps := ["state", "names", "least"]) fun _ _ _ _ _ _ us hl => match us, hl with | [_, _, _], _ => rfl
  have F30 := fun_mk (st := s__law_picture) l30 c30 k30
  have b30 := F30.binds (ps := ["parts"]) fun _ _ _ _ _ _ us hl => match us, hl with | [_], _ => rfl
  have F31 := fun_mk (st := s__law_listed) l31 c31 k31
  have b31 := F31.binds (ps := ["names"]) fun _ _ _ _ _ _ us hl => match us, hl with | [_], _ => rfl
  have F32 := fun_mk (st := s__law_part_tokens) l32 c32 k32
  have b32 := F32.binds (ps := ["part"]) fun _ _ _ _ _ _ us hl => match us, hl with | [_], _ => rfl
  have F33 := fun_mk (st := s__law_parts_tokens) l33 c33 k33
  have b33 := F33.binds (ps := ["parts"]) fun _ _ _ _ _ _ us hl => match us, hl with | [_], _ => rfl
  have F34 := fun_mk (st := s__law_test_tokens) l34 c34 k34
  have b34 := F34.binds (ps := ["test"]) fun _ _ _ _ _ _ us hl => match us, hl with | [_], _ => rfl
  have F35 := fun_mk (st := s__law_simple_tokens) l35 c35 k35
  have b35 := F35.binds (ps := ["s"]) fun _ _ _ _ _ _ us hl => match us, hl with | [_], _ => rfl
  have F36 := fun_mk (st := s__law_body_lines) l36 c36 k36
  have b36 := F36.binds (ps := ["body", "deep"]) fun _ _ _ _ _ _ us hl => match us, hl with | [_, _], _ => rfl
  have F37 := fun_mk (st := s__law_proc_lines) l37 c37 k37
  have b37 := F37.binds (ps := ["name", "parameters", "places", "need", "ensures", "body"]) fun _ _ _ _ _ _ us hl => match us, hl with | [_, _, _, _, _, _], _ => rfl
  have F38 := fun_mk (st := s__law_spaced) l38 c38 k38
  have b38 := F38.binds (ps := ["tokens"]) fun _ _ _ _ _ _ us hl => match us, hl with | [_], _ => rfl
  have F39 := fun_mk (st := s__law_parts_of) l39 c39 k39
  have b39 := F39.binds (ps := ["picture"]) fun _ _ _ _ _ _ us hl => match us, hl with | [_], _ => rfl
  have F40 := fun_mk (st := s__law_written) l40 c40 k40
  have b40 := F40.binds (ps := ["proc"]) fun _ _ _ _ _ _ us hl => match us, hl with | [_], _ => rfl
  have F41 := fun_mk (st := s_law) l41 c41 k41
  have b41 := F41.binds (ps := ["script"]) fun _ _ _ _ _ _ us hl => match us, hl with | [_], _ => rfl
  have F42 := fun_mk (st := s_Cursor___init__) l42 c42 k42
  have b42 := F42.binds (ps := ["self", "tokens"]) fun _ _ _ _ _ _ us hl => match us, hl with | [_, _], _ => rfl
  have S42 : KSrc K mg "Cursor" C_Cursor "Cursor.__init__" s_Cursor___init__ ["self", "tokens"] := ⟨PySem.W.mg_of X G ca_Cursor, _, _, def_fun F42, ⟨mk_Cursor, a42, i42, kc_Cursor⟩, b42⟩
  have S43 : MSrc K C_Cursor "peek" "Cursor.peek" s_Cursor_peek ["self", "ahead"] [D.int 0] := msrc_dfl l43 c43 k43 ⟨a43, i43, k43⟩ tt43 tv43 (by simp) 1 rfl (fun _ _ _ _ _ _ _ us its h1 h2 => match us, its, h1, h2 with | [_], [_], _, _ => ⟨_, rfl, rfl⟩)
  have F44 := fun_mk (st := s_Cursor_take) l44 c44 k44
  have b44 := F44.binds (ps := ["self"]) fun _ _ _ _ _ _ us hl => match us, hl with | [_], _ => rfl
  have S44 : MSrc K C_Cursor "take" "Cursor.take" s_Cursor_take ["self"] [] := ⟨⟨_, _, [], [], def_fun F44, ⟨a44, i44, k44⟩, b44, .nil, fun _ => .nil⟩⟩
  have F45 := fun_mk (st := s_Cursor_skip) l45 c45 k45
  have b45 := F45.binds (ps := ["self", "token"]) fun _ _ _ _ _ _ us hl => match us, hl with | [_, _], _ => rfl
  have S45 : MSrc K C_Cursor "skip" "Cursor.skip" s_Cursor_skip ["self", "token"] [] := ⟨⟨_, _, [], [], def_fun F45, ⟨a45, i45, k45⟩, b45, .nil, fun _ => .nil⟩⟩
  have F46 := fun_mk (st := s_Cursor_expect) l46 c46 k46
  have b46 := F46.binds (ps := ["self", "token"]) fun _ _ _ _ _ _ us hl => match us, hl with | [_, _], _ => rfl
  have S46 : MSrc K C_Cursor "expect" "Cursor.expect" s_Cursor_expect ["self", "token"] [] := ⟨⟨_, _, [], [], def_fun F46, ⟨a46, i46, k46⟩, b46, .nil, fun _ => .nil⟩⟩
  have F47 := fun_mk (st := s_Cursor_name) l47 c47 k47
  have b47 := F47.binds (ps := ["self"]) fun _ _ _ _ _ _ us hl => match us, hl with | [_], _ => rfl
  have S47 : MSrc K C_Cursor "name" "Cursor.name" s_Cursor_name ["self"] [] := ⟨⟨_, _, [], [], def_fun F47, ⟨a47, i47, k47⟩, b47, .nil, fun _ => .nil⟩⟩
  have F48 := fun_mk (st := s_Cursor_place) l48 c48 k48
  have b48 := F48.binds (ps := ["self"]) fun _ _ _ _ _ _ us hl => match us, hl with | [_], _ => rfl
  have S48 : MSrc K C_Cursor "place" "Cursor.place" s_Cursor_place ["self"] [] := ⟨⟨_, _, [], [], def_fun F48, ⟨a48, i48, k48⟩, b48, .nil, fun _ => .nil⟩⟩
  have F49 := fun_mk (st := s_Cursor_finish) l49 c49 k49
  have b49 := F49.binds (ps := ["self"]) fun _ _ _ _ _ _ us hl => match us, hl with | [_], _ => rfl
  have S49 : MSrc K C_Cursor "finish" "Cursor.finish" s_Cursor_finish ["self"] [] := ⟨⟨_, _, [], [], def_fun F49, ⟨a49, i49, k49⟩, b49, .nil, fun _ => .nil⟩⟩
  have F50 := fun_mk (st := s_Block___init__) l50 c50 k50
  have b50 := F50.binds (ps := ["self", "kind", "test"]) fun _ _ _ _ _ _ us hl => match us, hl with | [_, _, _], _ => rfl
  have S50 : KSrc K mg "Block" C_Block "Block.__init__" s_Block___init__ ["self", "kind", "test"] := ⟨PySem.W.mg_of X G ca_Block, _, _, def_fun F50, ⟨mk_Block, a50, i50, kc_Block⟩, b50⟩
  have F51 := fun_mk (st := s_Block_statement) l51 c51 k51
  have b51 := F51.binds (ps := ["self"]) fun _ _ _ _ _ _ us hl => match us, hl with | [_], _ => rfl
  have S51 : MSrc K C_Block "statement" "Block.statement" s_Block_statement ["self"] [] := ⟨⟨_, _, [], [], def_fun F51, ⟨a51, i51, k51⟩, b51, .nil, fun _ => .nil⟩⟩
  have F52 := fun_mk (st := s_ProcReader___init__) l52 c52 k52
  have b52 := F52.binds (ps := ["self", "name", "parameters"]) fun _ _ _ _ _ _ us hl => match us, hl with | [_, _, _], _ => rfl
  have S52 : KSrc K mg "ProcReader" C_ProcReader "ProcReader.__init__" s_ProcReader___init__ ["self", "name", "parameters"] := ⟨PySem.W.mg_of X G ca_ProcReader, _, _, def_fun F52, ⟨mk_ProcReader, a52, i52, kc_ProcReader⟩, b52⟩
  have F53 := fun_mk (st := s_ProcReader_head) l53 c53 k53
  have b53 := F53.binds (ps := ["self", "word", "cursor"]) fun _ _ _ _ _ _ us hl => match us, hl with | [_, _, _], _ => rfl
  have S53 : MSrc K C_ProcReader "head" "ProcReader.head" s_ProcReader_head ["self", "word", "cursor"] [] := ⟨⟨_, _, [], [], def_fun F53, ⟨a53, i53, k53⟩, b53, .nil, fun _ => .nil⟩⟩
  have F54 := fun_mk (st := s_ProcReader_take) l54 c54 k54
  have b54 := F54.binds (ps := ["self", "word", "cursor"]) fun _ _ _ _ _ _ us hl => match us, hl with | [_, _, _], _ => rfl
  have S54 : MSrc K C_ProcReader "take" "ProcReader.take" s_ProcReader_take ["self", "word", "cursor"] [] := ⟨⟨_, _, [], [], def_fun F54, ⟨a54, i54, k54⟩, b54, .nil, fun _ => .nil⟩⟩
  have F55 := fun_mk (st := s_ProcReader_close) l55 c55 k55
  have b55 := F55.binds (ps := ["self"]) fun _ _ _ _ _ _ us hl => match us, hl with | [_], _ => rfl
  have S55 : MSrc K C_ProcReader "close" "ProcReader.close" s_ProcReader_close ["self"] [] := ⟨⟨_, _, [], [], def_fun F55, ⟨a55, i55, k55⟩, b55, .nil, fun _ => .nil⟩⟩
  have F56 := fun_mk (st := s_Reader___init__) l56 c56 k56
  have b56 := F56.binds (ps := ["self"]) fun _ _ _ _ _ _ us hl => match us, hl with | [_], _ => rfl
  have S56 : KSrc K mg "Reader" C_Reader "Reader.__init__" s_Reader___init__ ["self"] := ⟨PySem.W.mg_of X G ca_Reader, _, _, def_fun F56, ⟨mk_Reader, a56, i56, kc_Reader⟩, b56⟩
  have F57 := fun_mk (st := s_Reader_line) l57 c57 k57
  have b57 := F57.binds (ps := ["self", "tokens"]) fun _ _ _ _ _ _ us hl => match us, hl with | [_, _], _ => rfl
  have S57 : MSrc K C_Reader "line" "Reader.line" s_Reader_line ["self", "tokens"] [] := ⟨⟨_, _, [], [], def_fun F57, ⟨a57, i57, k57⟩, b57, .nil, fun _ => .nil⟩⟩
  refine ⟨PySem.W.fnOf "law" "law" (defArgs s_law) (defBody s_law) (defScope s_law) .none kV41 dc41 pm41 an41 cd41 ct41, fun s v => .of_eq rfl, fun base _ _ => ?_⟩
  exact all_ok GG S42 S43 S44 S45 S46 S47 S48 S49 S50 S51 S52 S53 S54 S55 S56 S57 ⟨⟨_, _, F1, PySem.W.mg_of X G a1, k1, b1⟩⟩ ⟨⟨_, _, F2, PySem.W.mg_of X G a2, k2, b2⟩⟩ ⟨⟨_, _, F3, PySem.W.mg_of X G a3, k3, b3⟩⟩ ⟨⟨_, _, F4, PySem.W.mg_of X G a4, k4, b4⟩⟩ ⟨⟨_, _, F5, PySem.W.mg_of X G a5, k5, b5⟩⟩ ⟨⟨_, _, F6, PySem.W.mg_of X G a6, k6, b6⟩⟩ ⟨⟨_, _, F7, PySem.W.mg_of X G a7, k7, b7⟩⟩ ⟨⟨_, _, F8, PySem.W.mg_of X G a8, k8, b8⟩⟩ ⟨⟨_, _, F9, PySem.W.mg_of X G a9, k9, b9⟩⟩ ⟨⟨_, _, F10, PySem.W.mg_of X G a10, k10, b10⟩⟩ ⟨⟨_, _, F11, PySem.W.mg_of X G a11, k11, b11⟩⟩ ⟨⟨_, _, F12, PySem.W.mg_of X G a12, k12, b12⟩⟩ ⟨⟨_, _, F13, PySem.W.mg_of X G a13, k13, b13⟩⟩ ⟨⟨_, _, F14, PySem.W.mg_of X G a14, k14, b14⟩⟩ ⟨⟨_, _, F15, PySem.W.mg_of X G a15, k15, b15⟩⟩ ⟨⟨_, _, F16, PySem.W.mg_of X G a16, k16, b16⟩⟩ ⟨⟨_, _, F17, PySem.W.mg_of X G a17, k17, b17⟩⟩ ⟨⟨_, _, F18, PySem.W.mg_of X G a18, k18, b18⟩⟩ ⟨⟨_, _, F19, PySem.W.mg_of X G a19, k19, b19⟩⟩ ⟨⟨_, _, F20, PySem.W.mg_of X G a20, k20, b20⟩⟩ ⟨⟨_, _, F21, PySem.W.mg_of X G a21, k21, b21⟩⟩ ⟨⟨_, _, F22, PySem.W.mg_of X G a22, k22, b22⟩⟩ ⟨⟨_, _, F23, PySem.W.mg_of X G a23, k23, b23⟩⟩ ⟨⟨_, _, F24, PySem.W.mg_of X G a24, k24, b24⟩⟩ ⟨⟨_, _, F25, PySem.W.mg_of X G a25, k25, b25⟩⟩ ⟨⟨_, _, F26, PySem.W.mg_of X G a26, k26, b26⟩⟩ ⟨⟨_, _, F27, PySem.W.mg_of X G a27, k27, b27⟩⟩ ⟨⟨_, _, F28, PySem.W.mg_of X G a28, k28, b28⟩⟩ ⟨⟨_, _, F29, PySem.W.mg_of X G a29, k29, b29⟩⟩ ⟨⟨_, _, F30, PySem.W.mg_of X G a30, k30, b30⟩⟩ ⟨⟨_, _, F31, PySem.W.mg_of X G a31, k31, b31⟩⟩ ⟨⟨_, _, F32, PySem.W.mg_of X G a32, k32, b32⟩⟩ ⟨⟨_, _, F33, PySem.W.mg_of X G a33, k33, b33⟩⟩ ⟨⟨_, _, F34, PySem.W.mg_of X G a34, k34, b34⟩⟩ ⟨⟨_, _, F35, PySem.W.mg_of X G a35, k35, b35⟩⟩ ⟨⟨_, _, F36, PySem.W.mg_of X G a36, k36, b36⟩⟩ ⟨⟨_, _, F37, PySem.W.mg_of X G a37, k37, b37⟩⟩ ⟨⟨_, _, F38, PySem.W.mg_of X G a38, k38, b38⟩⟩ ⟨⟨_, _, F39, PySem.W.mg_of X G a39, k39, b39⟩⟩ ⟨⟨_, _, F40, PySem.W.mg_of X G a40, k40, b40⟩⟩ F41
end K02
open PySem PySem.W PyProof.Rows
set_option maxHeartbeats 0 in
theorem PySem.Challenge.cw_cellchains_k02_written_sources_holds : PySem.Challenge.rw_cellchains_k02_written_sources.Holds := by
  w_on; o_law; k_head; (case hw => w_witness2)
  k_fill
  refine L2.walk_of (l := PySem.Challenge.rw_cellchains_k02_written_sources) (n := 63) (k := 15) (x := "script") (CX := fun w => L2.CX PySem.Challenge.rw_cellchains_k02_written_sources.prog w) (sp := fun w => PL.liftSp _ (K02.sp_law _)) rfl (by decide) rfl ⟨rfl, by decide, by decide⟩ (fun w h Y => PySem.W.kIn_of Y) ?F (fun _ H a ns hl ho hS => PL.script_rep ho hS (fun M h => K02.law_script hl h) K02.mono_law) (fun _ _ _ _ _ h => PL.cx_none h)
  case F =>
    intro w mg fa h KX G hmg
    refine' K02.all_mk KX G hmg ?a1 ?l1 ?c1 ?k1 ?a2 ?l2 ?c2 ?k2 ?a3 ?l3 ?c3 ?k3 ?a4 ?l4 ?c4 ?k4 ?a5 ?l5 ?c5 ?k5 ?a6 ?l6 ?c6 ?k6 ?a7 ?l7 ?c7 ?k7 ?a8 ?l8 ?c8 ?k8 ?a9 ?l9 ?c9 ?k9 ?a10 ?l10 ?c10 ?k10 ?a11 ?l11 ?c11 ?k11 ?a12 ?l12 ?c12 ?k12 ?a13 ?l13 ?c13 ?k13 ?a14 ?l14 ?c14 ?k14 ?a15 ?l15 ?c15 ?k15 ?a16 ?l16 ?c16 ?k16 ?a17 ?l17 ?c17 ?k17 ?a18 ?l18 ?c18 ?k18 ?a19 ?l19 ?c19 ?k19 ?a20 ?l20 ?c20 ?k20 ?a21 ?l21 ?c21 ?k21 ?a22 ?l22 ?c22 ?k22 ?a23 ?l23 ?c23 ?k23 ?a24 ?l24 ?c24 ?k24 ?a25 ?l25 ?c25 ?k25 ?a26 ?l26 ?c26 ?k26 ?a27 ?l27 ?c27 ?k27 ?a28 ?l28 ?c28 ?k28 ?a29 ?l29 ?c29 ?k29 ?a30 ?l30 ?c30 ?k30 ?a31 ?l31 ?c31 ?k31 ?a32 ?l32 ?c32 ?k32 ?a33 ?l33 ?c33 ?k33 ?a34 ?l34 ?c34 ?k34 ?a35 ?l35 ?c35 ?k35 ?a36 ?l36 ?c36 ?k36 ?a37 ?l37 ?c37 ?k37 ?a38 ?l38 ?c38 ?k38 ?a39 ?l39 ?c39 ?k39 ?a40 ?l40 ?c40 ?k40 ?a41 ?l41 ?c41 ?k41 ?ca_Cursor ?pg_Cursor ?hd_Cursor ?po_Cursor ?sa_Cursor ?mk_Cursor ?kc_Cursor ?n_Cursor_tokens ?n_Cursor_at ?ca_Block ?pg_Block ?hd_Block ?po_Block ?sa_Block ?mk_Block ?kc_Block ?n_Block_kind ?n_Block_test ?n_Block_first ?n_Block_rows ?ca_ProcReader ?pg_ProcReader ?hd_ProcReader ?po_ProcReader ?sa_ProcReader ?mk_ProcReader ?kc_ProcReader ?n_ProcReader_name ?n_ProcReader_parameters ?n_ProcReader_locals ?n_ProcReader_need ?n_ProcReader_ensures ?n_ProcReader_stage ?n_ProcReader_blocks ?ca_Reader ?pg_Reader ?hd_Reader ?po_Reader ?sa_Reader ?mk_Reader ?kc_Reader ?n_Reader_procs ?n_Reader_now ?a42 ?i42 ?l42 ?c42 ?k42 ?a43 ?i43 ?l43 ?c43 ?k43 ?tt43 ?tv43 ?a44 ?i44 ?l44 ?c44 ?k44 ?a45 ?i45 ?l45 ?c45 ?k45 ?a46 ?i46 ?l46 ?c46 ?k46 ?a47 ?i47 ?l47 ?c47 ?k47 ?a48 ?i48 ?l48 ?c48 ?k48 ?a49 ?i49 ?l49 ?c49 ?k49 ?a50 ?i50 ?l50 ?c50 ?k50 ?a51 ?i51 ?l51 ?c51 ?k51 ?a52 ?i52 ?l52 ?c52 ?k52 ?a53 ?i53 ?l53 ?c53 ?k53 ?a54 ?i54 ?l54 ?c54 ?k54 ?a55 ?i55 ?l55 ?c55 ?k55 ?a56 ?i56 ?l56 ?c56 ?k56 ?a57 ?i57 ?l57 ?c57 ?k57 ?z_tuple ?z_enumerate ?z_isinstance ?z_str ?z_range ?z_sorted ?z_len ?z_list ?z_abs ?z_int ?z_all ?z_bool ?z_LETTERS ?r_LETTERS ?z_DIGITS ?r_DIGITS ?z_PAIRS ?y_PAIRS ?r_PAIRS ?z_SINGLES ?r_SINGLES ?z_MOST_TOKENS ?r_MOST_TOKENS ?z_MOST_SIGNS ?r_MOST_SIGNS ?z_RESERVED ?y_RESERVED ?r_RESERVED ?z_NIL ?r_NIL ?z_EMPTY ?y_EMPTY ?r_EMPTY ?w_EMPTY0 ?v_EMPTY0 ?w_EMPTY1 ?v_EMPTY1 ?w_EMPTY2 ?v_EMPTY2 ?w_EMPTY3 ?v_EMPTY3 ?z_MOST_OPEN ?r_MOST_OPEN
    (case a1 => k_is)
    (case l1 => k_is)
    (case c1 => k_is)
    (case k1 => k_is)
    (case a2 => k_is)
    (case l2 => k_is)
    (case c2 => k_is)
    (case k2 => k_is)
    (case a3 => k_is)
    (case l3 => k_is)
    (case c3 => k_is)
    (case k3 => k_is)
    (case a4 => k_is)
    (case l4 => k_is)
    (case c4 => k_is)
    (case k4 => k_is)
    (case a5 => k_is)
    (case l5 => k_is)
    (case c5 => k_is)
    (case k5 => k_is)
    (case a6 => k_is)
    (case l6 => k_is)
    (case c6 => k_is)
    (case k6 => k_is)
    (case a7 => k_is)
    (case l7 => k_is)
    (case c7 => k_is)
    (case k7 => k_is)
    (case a8 => k_is)
    (case l8 => k_is)
    (case c8 => k_is)
    (case k8 => k_is)
    (case a9 => k_is)
    (case l9 => k_is)
    (case c9 => k_is)
    (case k9 => k_is)
    (case a10 => k_is)
    (case l10 => k_is)
    (case c10 => k_is)
    (case k10 => k_is)
    (case a11 => k_is)
    (case l11 => k_is)
    (case c11 => k_is)
    (case k11 => k_is)
    (case a12 => k_is)
    (case l12 => k_is)
    (case c12 => k_is)
    (case k12 => k_is)
    (case a13 => k_is)
    (case l13 => k_is)
    (case c13 => k_is)
    (case k13 => k_is)
    (case a14 => k_is)
    (case l14 => k_is)
    (case c14 => k_is)
    (case k14 => k_is)
    (case a15 => k_is)
    (case l15 => k_is)
    (case c15 => k_is)
    (case k15 => k_is)
    (case a16 => k_is)
    (case l16 => k_is)
    (case c16 => k_is)
    (case k16 => k_is)
    (case a17 => k_is)
    (case l17 => k_is)
    (case c17 => k_is)
    (case k17 => k_is)
    (case a18 => k_is)
    (case l18 => k_is)
    (case c18 => k_is)
    (case k18 => k_is)
    (case a19 => k_is)
    (case l19 => k_is)
    (case c19 => k_is)
    (case k19 => k_is)
    (case a20 => k_is)
    (case l20 => k_is)
    (case c20 => k_is)
    (case k20 => k_is)
    (case a21 => k_is)
    (case l21 => k_is)
    (case c21 => k_is)
    (case k21 => k_is)
    (case a22 => k_is)
    (case l22 => k_is)
    (case c22 => k_is)
    (case k22 => k_is)
    (case a23 => k_is)
    (case l23 => k_is)
    (case c23 => k_is)
    (case k23 => k_is)
    (case a24 => k_is)
    (case l24 => k_is)
    (case c24 => k_is)
    (case k24 => k_is)
    (case a25 => k_is)
    (case l25 => k_is)
    (case c25 => k_is)
    (case k25 => k_is)
    (case a26 => k_is)
    (case l26 => k_is)
    (case c26 => k_is)
    (case k26 => k_is)
    (case a27 => k_is)
    (case l27 => k_is)
    (case c27 => k_is)
    (case k27 => k_is)
    (case a28 => k_is)
    (case l28 => k_is)
    (case c28 => k_is)
    (case k28 => k_is)
    (case a29 => k_is)
    (case l29 => k_is)
    (case c29 => k_is)
    (case k29 => k_is)
    (case a30 => k_is)
    (case l30 => k_is)
    (case c30 => k_is)
    (case k30 => k_is)
    (case a31 => k_is)
    (case l31 => k_is)
    (case c31 => k_is)
    (case k31 => k_is)
    (case a32 => k_is)
    (case l32 => k_is)
    (case c32 => k_is)
    (case k32 => k_is)
    (case a33 => k_is)
    (case l33 => k_is)
    (case c33 => k_is)
    (case k33 => k_is)
    (case a34 => k_is)
    (case l34 => k_is)
    (case c34 => k_is)
    (case k34 => k_is)
    (case a35 => k_is)
    (case l35 => k_is)
    (case c35 => k_is)
    (case k35 => k_is)
    (case a36 => k_is)
    (case l36 => k_is)
    (case c36 => k_is)
    (case k36 => k_is)
    (case a37 => k_is)
    (case l37 => k_is)
    (case c37 => k_is)
    (case k37 => k_is)
    (case a38 => k_is)
    (case l38 => k_is)
    (case c38 => k_is)
    (case k38 => k_is)
    (case a39 => k_is)
    (case l39 => k_is)
    (case c39 => k_is)
    (case k39 => k_is)
    (case a40 => k_is)
    (case l40 => k_is)
    (case c40 => k_is)
    (case k40 => k_is)
    (case a41 => k_is)
    (case l41 => k_is)
    (case c41 => k_is)
    (case k41 => k_is)
    (case ca_Cursor => k_is)
    (case pg_Cursor => k_is)
    (case hd_Cursor => k_is)
    (case po_Cursor => k_is)
    (case sa_Cursor => k_is)
    (case mk_Cursor => k_is)
    (case kc_Cursor => k_is)
    (case n_Cursor_tokens => k_is)
    (case n_Cursor_at => k_is)
    (case ca_Block => k_is)
    (case pg_Block => k_is)
    (case hd_Block => k_is)
    (case po_Block => k_is)
    (case sa_Block => k_is)
    (case mk_Block => k_is)
    (case kc_Block => k_is)
    (case n_Block_kind => k_is)
    (case n_Block_test => k_is)
    (case n_Block_first => k_is)
    (case n_Block_rows => k_is)
    (case ca_ProcReader => k_is)
    (case pg_ProcReader => k_is)
    (case hd_ProcReader => k_is)
    (case po_ProcReader => k_is)
    (case sa_ProcReader => k_is)
    (case mk_ProcReader => k_is)
    (case kc_ProcReader => k_is)
    (case n_ProcReader_name => k_is)
    (case n_ProcReader_parameters => k_is)
    (case n_ProcReader_locals => k_is)
    (case n_ProcReader_need => k_is)
    (case n_ProcReader_ensures => k_is)
    (case n_ProcReader_stage => k_is)
    (case n_ProcReader_blocks => k_is)
    (case ca_Reader => k_is)
    (case pg_Reader => k_is)
    (case hd_Reader => k_is)
    (case po_Reader => k_is)
    (case sa_Reader => k_is)
    (case mk_Reader => k_is)
    (case kc_Reader => k_is)
    (case n_Reader_procs => k_is)
    (case n_Reader_now => k_is)
    (case a42 => k_is)
    (case i42 => k_is)
    (case l42 => k_is)
    (case c42 => k_is)
    (case k42 => k_is)
    (case a43 => k_is)
    (case i43 => k_is)
    (case l43 => k_is)
    (case c43 => k_is)
    (case k43 => k_is)
    (case tt43 => k_is)
    (case tv43 => exact .cons ⟨_, rfl⟩ .nil)
    (case a44 => k_is)
    (case i44 => k_is)
    (case l44 => k_is)
    (case c44 => k_is)
    (case k44 => k_is)
    (case a45 => k_is)
    (case i45 => k_is)
    (case l45 => k_is)
    (case c45 => k_is)
    (case k45 => k_is)
    (case a46 => k_is)
    (case i46 => k_is)
    (case l46 => k_is)
    (case c46 => k_is)
    (case k46 => k_is)
    (case a47 => k_is)
    (case i47 => k_is)
    (case l47 => k_is)
    (case c47 => k_is)
    (case k47 => k_is)
    (case a48 => k_is)
    (case i48 => k_is)
    (case l48 => k_is)
    (case c48 => k_is)
    (case k48 => k_is)
    (case a49 => k_is)
    (case i49 => k_is)
    (case l49 => k_is)
    (case c49 => k_is)
    (case k49 => k_is)
    (case a50 => k_is)
    (case i50 => k_is)
    (case l50 => k_is)
    (case c50 => k_is)
    (case k50 => k_is)
    (case a51 => k_is)
    (case i51 => k_is)
    (case l51 => k_is)
    (case c51 => k_is)
    (case k51 => k_is)
    (case a52 => k_is)
    (case i52 => k_is)
    (case l52 => k_is)
    (case c52 => k_is)
    (case k52 => k_is)
    (case a53 => k_is)
    (case i53 => k_is)
    (case l53 => k_is)
    (case c53 => k_is)
    (case k53 => k_is)
    (case a54 => k_is)
    (case i54 => k_is)
    (case l54 => k_is)
    (case c54 => k_is)
    (case k54 => k_is)
    (case a55 => k_is)
    (case i55 => k_is)
    (case l55 => k_is)
    (case c55 => k_is)
    (case k55 => k_is)
    (case a56 => k_is)
    (case i56 => k_is)
    (case l56 => k_is)
    (case c56 => k_is)
    (case k56 => k_is)
    (case a57 => k_is)
    (case i57 => k_is)
    (case l57 => k_is)
    (case c57 => k_is)
    (case k57 => k_is)
    (case z_tuple => k_is)
    (case z_enumerate => k_is)
    (case z_isinstance => k_is)
    (case z_str => k_is)
    (case z_range => k_is)
    (case z_sorted => k_is)
    (case z_len => k_is)
    (case z_list => k_is)
    (case z_abs => k_is)
    (case z_int => k_is)
    (case z_all => k_is)
    (case z_bool => k_is)
    (case z_LETTERS => k_is)
    (case r_LETTERS => exact ⟨_, rfl⟩)
    (case z_DIGITS => k_is)
    (case r_DIGITS => exact ⟨_, rfl⟩)
    (case z_PAIRS => k_is)
    (case y_PAIRS => k_is)
    (case r_PAIRS => exact ⟨by decide +kernel, by repeat (first | exact .nil | refine .cons ⟨_, rfl⟩ ?_)⟩)
    (case z_SINGLES => k_is)
    (case r_SINGLES => exact ⟨_, rfl⟩)
    (case z_MOST_TOKENS => k_is)
    (case r_MOST_TOKENS => exact ⟨_, rfl⟩)
    (case z_MOST_SIGNS => k_is)
    (case r_MOST_SIGNS => exact ⟨_, rfl⟩)
    (case z_RESERVED => k_is)
    (case y_RESERVED => k_is)
    (case r_RESERVED => exact ⟨by decide +kernel, by repeat (first | exact .nil | refine .cons ⟨_, rfl⟩ ?_)⟩)
    (case z_NIL => k_is)
    (case r_NIL => exact ⟨_, rfl⟩)
    (case z_EMPTY => k_is)
    (case y_EMPTY => k_is)
    (case r_EMPTY => exact ⟨by decide +kernel, rfl⟩)
    (case w_EMPTY0 => k_is)
    (case v_EMPTY0 => rfl)
    (case w_EMPTY1 => k_is)
    (case v_EMPTY1 => rfl)
    (case w_EMPTY2 => k_is)
    (case v_EMPTY2 => rfl)
    (case w_EMPTY3 => k_is)
    (case v_EMPTY3 => rfl)
    (case z_MOST_OPEN => k_is)
    (case r_MOST_OPEN => exact ⟨_, rfl⟩)
