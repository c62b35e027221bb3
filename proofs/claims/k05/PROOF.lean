import PyProof.Rows.All
import Wide.All
import OpenK.AllK
import Wide.FinOn
import HandS.ForMost
import HandS.ForExc
import KE.DataEq
import HandS.TupAny
import HandS.TupMul
import HandS.Wide
import HandS.Deep
import HandS.Style
import HandS.IsInst
import HandS.WideBits
import HandS.StrMore
import HandS.Flow
import HandS.CallSlots
import HandS.CallLocal
import HandS.Text
import HandS.WordsExc
import HandS.ExcOwn
import HandS.TryOnly
import HandS.Comp
import HandS.Iter
import HandS.ExcIs
import HandS.Strs
import HandS.Set
import HandS.SortInts
import HandS.SetFor
import HandS.SetKeys
import HandS.Codes
import HandS.DictComp
import HandS.DictTup
import HandS.ListItems
import KE.KDictPairs
import PyProof.NeKinds
import PyProof.EqAt
import HandS.SortOrd
import KE.KDictWalk
import PySem.Challenge.RW_cellchains_k05_pictures_that_hold
set_option Elab.async false
set_option linter.all false
set_option maxRecDepth 100000
namespace PL
open PySem PySem.Spec PyProof.Rows L2

/-! data: values, and tuples of data -/
inductive D where
  | v (x : V)
  | tup (ds : List D)

abbrev D.non : D := .v .non
abbrev D.bl (b : Bool) : D := .v (.bl b)
abbrev D.int (i : Int) : D := .v (.int i)
abbrev D.str (x : Str) : D := .v (.str x)
abbrev D.ob (a : Addr) : D := .v (.ref a)

section
variable (K : PySem.W.Frag) (H : Hp)
mutual
def RepD : D → V → Prop
  | .v x, u => u = x
  | .tup ds, u => ∃ a us, u = .ref a ∧ SqT K H a us ∧ RepL ds us
def RepL : List D → List V → Prop
  | [], us => us = []
  | d :: ds, us => ∃ u r, us = u :: r ∧ RepD d u ∧ RepL ds r
end
end

/-- tuples and locked things stay -/
structure Ext (K : PySem.W.Frag) (H H' : Hp) : Prop where
  sq : ∀ a xs, SqT K H a xs → SqT K H' a xs
  fz : ∀ a o u, H a = some (.frz o u) → H' a = some (.frz o u)
instance {K : PySem.W.Frag} {H H' : Hp} : CoeFun (Ext K H H') (fun _ => ∀ a xs, SqT K H a xs → SqT K H' a xs) := ⟨fun e => e.sq⟩
theorem Ext.refl {K : PySem.W.Frag} {H : Hp} : Ext K H H := ⟨fun _ _ h => h, fun _ _ _ h => h⟩
theorem Ext.trans {K : PySem.W.Frag} {H H1 H2 : Hp} (a : Ext K H H1) (b : Ext K H1 H2) : Ext K H H2 := ⟨fun c xs h => b.sq c xs (a.sq c xs h), fun c o u h => b.fz c o u (a.fz c o u h)⟩
theorem Ext.new {K : PySem.W.Frag} {H : Hp} {p : Addr} {o : HO} (h : H p = none) : Ext K H (upd H p o) := ⟨fun a xs q => by
  rcases q with (q | ⟨ob, q⟩) | q
  · exact .inl (.inl (by rw [upd_ne (ne_of_none q h)]; exact q))
  · exact .inl (.inr ⟨ob, by rw [upd_ne (ne_of_none q h)]; exact q⟩)
  · exact .inr q, fun a o' u q => by rw [upd_ne (ne_of_none q h)]; exact q⟩
theorem Ext.mut {K : PySem.W.Frag} {H : Hp} {p : Addr} {o o' : HO} (h : H p = some o) (m : Mut (some o)) : Ext K H (upd H p o') := ⟨fun a xs q => by
  rcases q with (q | ⟨ob, q⟩) | q
  · exact .inl (.inl (by rw [upd_ne (ne_of q h (by rintro rfl; exact m))]; exact q))
  · exact .inl (.inr ⟨ob, by rw [upd_ne (ne_of q h (by rintro rfl; exact m))]; exact q⟩)
  · exact .inr q, fun a o2 u q => by rw [upd_ne (ne_of q h (by rintro rfl; exact m))]; exact q⟩

mutual
theorem RepD.mono {K : PySem.W.Frag} {H H' : Hp} (e : Ext K H H') : ∀ (d : D) {u : V}, RepD K H d u → RepD K H' d u
  | .v _, _, h => by unfold RepD at h ⊢; exact h
  | .tup ds, _, h => by
    unfold RepD at h ⊢
    obtain ⟨a, us, e1, q, r⟩ := h
    exact ⟨a, us, e1, e _ _ q, RepL.mono e ds r⟩
theorem RepL.mono {K : PySem.W.Frag} {H H' : Hp} (e : Ext K H H') : ∀ (ds : List D) {us : List V}, RepL K H ds us → RepL K H' ds us
  | [], _, h => by unfold RepL at h ⊢; exact h
  | d :: ds, _, h => by
    unfold RepL at h ⊢
    obtain ⟨u, r, e1, q, t⟩ := h
    exact ⟨u, r, e1, RepD.mono e d q, RepL.mono e ds t⟩
end
theorem RepL.length {K : PySem.W.Frag} {H : Hp} : ∀ {ds : List D} {us : List V}, RepL K H ds us → us.length = ds.length
  | [], _, h => by unfold RepL at h; rw [h]; rfl
  | d :: ds, _, h => by
    unfold RepL at h
    obtain ⟨u, r, rfl, _, t⟩ := h
    simp [RepL.length t]
theorem RepL.get {K : PySem.W.Frag} {H : Hp} : ∀ {ds : List D} {us : List V} {i : Nat} {d : D}, RepL K H ds us → ds[i]? = some d → ∃ u, us[i]? = some u ∧ RepD K H d u
  | [], _, _, _, _, e => by simp at e
  | d :: ds, _, 0, _, h, e => by
    unfold RepL at h
    obtain ⟨u, r, rfl, q, _⟩ := h
    simp at e; subst e
    exact ⟨u, by simp, q⟩
  | d :: ds, _, i + 1, _, h, e => by
    unfold RepL at h
    obtain ⟨u, r, rfl, _, t⟩ := h
    obtain ⟨u', h1, h2⟩ := RepL.get (i := i) t (by simpa using e)
    exact ⟨u', by simpa using h1, h2⟩
theorem RepL.get' {K : PySem.W.Frag} {H : Hp} : ∀ {ds : List D} {us : List V} {i : Nat} {u : V}, RepL K H ds us → us[i]? = some u → ∃ d, ds[i]? = some d ∧ RepD K H d u
  | [], _, _, _, h, e => by unfold RepL at h; subst h; simp at e
  | d :: ds, _, 0, _, h, e => by
    unfold RepL at h
    obtain ⟨u, r, rfl, q, _⟩ := h
    simp at e; subst e
    exact ⟨d, by simp, q⟩
  | d :: ds, _, i + 1, _, h, e => by
    unfold RepL at h
    obtain ⟨u, r, rfl, _, t⟩ := h
    obtain ⟨u', h1, h2⟩ := RepL.get' (i := i) t (by simpa using e)
    exact ⟨u', by simpa using h1, h2⟩
theorem RepL.append {K : PySem.W.Frag} {H : Hp} : ∀ {ds es : List D} {us ws : List V}, RepL K H ds us → RepL K H es ws → RepL K H (ds ++ es) (us ++ ws)
  | [], _, _, _, h, g => by unfold RepL at h; subst h; exact g
  | d :: ds, _, _, _, h, g => by
    unfold RepL at h
    obtain ⟨u, r, rfl, q, t⟩ := h
    show RepL K H (d :: (ds ++ _)) _
    unfold RepL
    exact ⟨u, _, rfl, q, RepL.append t g⟩
theorem RepL.set {K : PySem.W.Frag} {H : Hp} {d' : D} {u' : V} (hd : RepD K H d' u') : ∀ {ds : List D} {us : List V} (i : Nat), RepL K H ds us → RepL K H (ds.set i d') (us.set i u')
  | [], _, _, h => by unfold RepL at h; subst h; simp [RepL]
  | d :: ds, _, 0, h => by
    unfold RepL at h
    obtain ⟨u, r, rfl, q, t⟩ := h
    simp only [List.set_cons_zero]; unfold RepL
    exact ⟨u', r, rfl, hd, t⟩
  | d :: ds, _, i + 1, h => by
    unfold RepL at h
    obtain ⟨u, r, rfl, q, t⟩ := h
    simp only [List.set_cons_succ]; unfold RepL
    exact ⟨u, _, rfl, q, RepL.set hd i t⟩
theorem RepL.drop {K : PySem.W.Frag} {H : Hp} : ∀ {ds : List D} {us : List V} (i : Nat), RepL K H ds us → RepL K H (ds.drop i) (us.drop i)
  | _, _, 0, h => by simpa using h
  | [], _, _ + 1, h => by unfold RepL at h; subst h; simp [RepL]
  | d :: ds, _, i + 1, h => by
    unfold RepL at h
    obtain ⟨u, r, rfl, q, t⟩ := h
    simpa using RepL.drop i t
theorem RepL.take {K : PySem.W.Frag} {H : Hp} : ∀ {ds : List D} {us : List V} (i : Nat), RepL K H ds us → RepL K H (ds.take i) (us.take i)
  | _, _, 0, h => by simp [RepL]
  | [], _, _ + 1, h => by unfold RepL at h; subst h; simp [RepL]
  | d :: ds, _, i + 1, h => by
    unfold RepL at h
    obtain ⟨u, r, rfl, q, t⟩ := h
    simp only [List.take_succ_cons]; unfold RepL
    exact ⟨u, _, rfl, q, RepL.take i t⟩
theorem RepL.cons {K : PySem.W.Frag} {H : Hp} {d : D} {u : V} {ds : List D} {us : List V} (h : RepD K H d u) (t : RepL K H ds us) : RepL K H (d :: ds) (u :: us) := by
  unfold RepL; exact ⟨u, us, rfl, h, t⟩
theorem RepL.nil {K : PySem.W.Frag} {H : Hp} : RepL K H [] [] := by unfold RepL; rfl
theorem RepL.ints {K : PySem.W.Frag} {H : Hp} : ∀ {ns : List Int} {us : List V}, RepL K H (ns.map D.int) us → us = ns.map V.int
  | [], _, h => by unfold RepL at h; simpa using h
  | n :: ns, _, h => by
    simp only [List.map_cons] at h; unfold RepL at h
    obtain ⟨u, r, rfl, q, t⟩ := h
    unfold RepD at q
    rw [RepL.ints t, q]; rfl
theorem RepL.of_ints {K : PySem.W.Frag} {H : Hp} : ∀ {ns : List Int}, RepL K H (ns.map D.int) (ns.map V.int)
  | [] => .nil
  | n :: ns => .cons (by unfold RepD; rfl) RepL.of_ints

/-! memory -/
inductive Ob where
  | lst (ds : List D)
  | rol (ds : List D)
  | dk (kvs : List (Key × D))
  | rdk (kvs : List (Key × D))
  | ctp (ds : List D)
  | ins (C : Addr) (fs : List (Str × D))
abbrev Mem := Addr → Option Ob
def mupd (M : Mem) (a : Addr) (o : Ob) : Mem := fun b => if b = a then some o else M b
theorem mupd_same {M : Mem} {a : Addr} {o : Ob} : mupd M a o a = some o := if_pos rfl
theorem mupd_ne {M : Mem} {a b : Addr} {o : Ob} (h : b ≠ a) : mupd M a o b = M b := if_neg h
theorem mupd_mupd {M : Mem} {a : Addr} {o u : Ob} : mupd (mupd M a o) a u = mupd M a u := by
  funext b; unfold mupd; split <;> rfl

section
variable (K : PySem.W.Frag) (H : Hp)
def RepKV {κ : Type} : List (κ × D) → List (κ × V) → Prop
  | [], us => us = []
  | (k, d) :: r, us => ∃ u t, us = (k, u) :: t ∧ RepD K H d u ∧ RepKV r t
def RepO (a : Addr) : Ob → Prop
  | .lst ds => ∃ us, H a = some (.lst us) ∧ RepL K H ds us
  | .rol ds => ∃ o us, H a = some (.frz o (.lst us)) ∧ RepL K H ds us
  | .dk kvs => ∃ us, H a = some (.dK us) ∧ RepKV K H kvs us
  | .rdk kvs => ∃ o us, H a = some (.frz o (.dK us)) ∧ RepKV K H kvs us
  | .ctp ds => ∃ o us, H a = some (.frz o (.tup us)) ∧ o.dict = none ∧ RepL K H ds us
  | .ins C fs => ∃ dx us, H a = some (.ins C dx us) ∧ RepKV K H fs us
def Sim (M : Mem) : Prop := ∀ a o, M a = some o → RepO K H a o
end
section
variable {K : PySem.W.Frag} {H H' : Hp} {M : Mem} {a : Addr}
theorem RepKV.mono {κ : Type} (e : Ext K H H') : ∀ {kvs : List (κ × D)} {us : List (κ × V)}, RepKV K H kvs us → RepKV K H' kvs us
  | [], _, h => h
  | (k, d) :: r, _, h => by
    obtain ⟨u, t, e1, q, z⟩ := h
    exact ⟨u, t, e1, RepD.mono e d q, RepKV.mono e z⟩
theorem RepO.mono (e : Ext K H H') (h : H' a = H a) : ∀ {o : Ob}, RepO K H a o → RepO K H' a o
  | .lst _, ⟨us, q, r⟩ => ⟨us, by rw [h]; exact q, RepL.mono e _ r⟩
  | .rol _, ⟨o, us, q, r⟩ => ⟨o, us, by rw [h]; exact q, RepL.mono e _ r⟩
  | .dk _, ⟨us, q, r⟩ => ⟨us, by rw [h]; exact q, RepKV.mono e r⟩
  | .rdk _, ⟨o, us, q, r⟩ => ⟨o, us, by rw [h]; exact q, RepKV.mono e r⟩
  | .ctp _, ⟨o, us, q, n, r⟩ => ⟨o, us, by rw [h]; exact q, n, RepL.mono e _ r⟩
  | .ins _ _, ⟨dx, us, q, r⟩ => ⟨dx, us, by rw [h]; exact q, RepKV.mono e r⟩
theorem RepO.there : ∀ {o : Ob}, RepO K H a o → ∃ x, H a = some x
  | .lst _, ⟨us, q, r⟩ => ⟨_, q⟩
  | .rol _, ⟨o, us, q, r⟩ => ⟨_, q⟩
  | .dk _, ⟨us, q, r⟩ => ⟨_, q⟩
  | .rdk _, ⟨o, us, q, r⟩ => ⟨_, q⟩
  | .ctp _, ⟨o, us, q, n, r⟩ => ⟨_, q⟩
  | .ins _ _, ⟨dx, us, q, r⟩ => ⟨_, q⟩
theorem Sim.mono (s : Sim K H M) (e : Ext K H H') (h : ∀ a o, M a = some o → H' a = H a) : Sim K H' M := fun a o q => (s a o q).mono e (h a o q)
theorem Sim.free (s : Sim K H M) {p : Addr} (h : H p = none) : M p = none := by
  cases q : M p with
  | none => rfl
  | some o =>
    obtain ⟨x, e⟩ := (s p o q).there
    rw [h] at e; cases e
/-- a new object, known -/
theorem Sim.new (s : Sim K H M) {p : Addr} {o : HO} {ob : Ob} (h : H p = none) (r : RepO K (upd H p o) p ob) : Sim K (upd H p o) (mupd M p ob) := fun b o' q => by
  by_cases hb : b = p
  · subst hb
    rw [mupd_same] at q; cases q
    exact r
  · rw [mupd_ne hb] at q
    exact (s b o' q).mono (Ext.new h) (upd_ne hb)
/-- a new object, not known -/
theorem Sim.laid (s : Sim K H M) {p : Addr} {o : HO} (h : H p = none) : Sim K (upd H p o) M := fun b o' q => by
  obtain ⟨x, e⟩ := (s b o' q).there
  exact (s b o' q).mono (Ext.new h) (upd_ne (ne_of_none e h))
/-- an object changed -/
theorem Sim.put (s : Sim K H M) {p : Addr} {o o' : HO} {ob : Ob} (h : H p = some o) (m : Mut (some o)) (r : RepO K (upd H p o') p ob) : Sim K (upd H p o') (mupd M p ob) := fun b q' q => by
  by_cases hb : b = p
  · subst hb
    rw [mupd_same] at q; cases q
    exact r
  · rw [mupd_ne hb] at q
    exact (s b q' q).mono (Ext.mut h m) (upd_ne hb)
end

/-! environments -/
abbrev DEnv := List (Option D)
def RepE (K : PySem.W.Frag) (H : Hp) (env : DEnv) (σ : L2.St) : Prop := env.length = σ.length ∧ ∀ (i : Nat) (d : D), env[i]? = some (some d) → ∃ u, σ[i]? = some (some u) ∧ RepD K H d u
theorem RepE.mono {K : PySem.W.Frag} {H H' : Hp} {env : DEnv} {σ : L2.St} (r : RepE K H env σ) (e : Ext K H H') : RepE K H' env σ :=
  ⟨r.1, fun i d h => let ⟨u, h1, h2⟩ := r.2 i d h; ⟨u, h1, RepD.mono e d h2⟩⟩
theorem RepE.set {K : PySem.W.Frag} {H : Hp} {env : DEnv} {σ : L2.St} (r : RepE K H env σ) {d : D} {u : V} (h : RepD K H d u) (i : Nat) : RepE K H (env.set i (some d)) (σ.set i (some u)) := by
  refine ⟨by simp [r.1], fun j e q => ?_⟩
  by_cases hj : i = j
  · subst hj
    by_cases hi : i < env.length
    · rw [List.getElem?_set_self hi] at q
      cases q
      exact ⟨u, by rw [List.getElem?_set_self (by rw [← r.1]; exact hi)], h⟩
    · rw [List.getElem?_eq_none (by simpa using hi)] at q; cases q
  · rw [List.getElem?_set_ne hj] at q ⊢
    exact r.2 j e q

/-! readings -/
abbrev DK := D → Mem → Prop
abbrev DX := Value → List (Str × D) → Mem → Prop
abbrev DE := DEnv → Mem → DK → DX → Prop
abbrev DT := DEnv → Mem → (Bool → Mem → Prop) → DX → Prop
abbrev DA := DEnv → Mem → (List D → Mem → Prop) → DX → Prop
structure DEnds where
  nx : DEnv → Mem → Prop
  rt : DK
  bk : DEnv → Mem → Prop := fun _ _ => False
  ct : DEnv → Mem → Prop := fun _ _ => False
  ex : Value → List (Str × D) → DEnv → Mem → Prop := fun _ _ _ _ => False
abbrev DS := DEnds → DEnv → Mem → Prop

def RepX (K : PySem.W.Frag) (H : Hp) (d : Option Addr) (fs : List (Str × D)) : Prop :=
  match d with
  | none => fs = []
  | some a => fs ≠ [] ∧ ∃ us, H a = some (.xd us) ∧ RepKV K H fs us

section
variable (K : PySem.W.Frag) (W : WX)
/-- the ends as the heap sees them, from H on -/
def upK (H : Hp) (Q : VK) : DK := fun d M' => ∀ u H', Ext K H H' → Sim K H' M' → RepD K H' d u → Q u H'
def upX (H : Hp) (σ : L2.St) : DX := fun c fs M' => ∀ d H', Ext K H H' → Sim K H' M' → RepX K H' d fs → W c d σ H'
def liftE (t : DE) : TE := fun σ H Q => ∃ env M, RepE K H env σ ∧ Sim K H M ∧ t env M (upK K H Q) (upX K W H σ)
def liftT (t : DT) : TT := fun σ H Q => ∃ env M, RepE K H env σ ∧ Sim K H M ∧ t env M (fun b M' => ∀ H', Ext K H H' → Sim K H' M' → Q b H') (upX K W H σ)
def liftA (t : DA) : TA := fun σ H Q => ∃ env M, RepE K H env σ ∧ Sim K H M ∧ t env M (fun ds M' => ∀ us H', Ext K H H' → Sim K H' M' → RepL K H' ds us → Q us H') (upX K W H σ)
def upN (H : Hp) (Q : L2.St → Hp → Prop) : DEnv → Mem → Prop := fun env' M' => ∀ σ' H', Ext K H H' → Sim K H' M' → RepE K H' env' σ' → Q σ' H'
def upEnds (H : Hp) (D : Ends) : DEnds where
  nx := upN K H D.nx
  rt := upK K H D.rt
  bk := upN K H D.bk
  ct := upN K H D.ct
  ex := fun c fs env' M' => ∀ d σ' H', Ext K H H' → Sim K H' M' → RepE K H' env' σ' → RepX K H' d fs → W c d σ' H'
def liftS (t : DS) : TS := fun D σ H => ∃ env M, RepE K H env σ ∧ Sim K H M ∧ t (upEnds K W H D) env M
end

def MonoE (t : DE) : Prop := ∀ env M (Q Q' : DK) (E E' : DX), (∀ d M, Q d M → Q' d M) → (∀ c f M, E c f M → E' c f M) → t env M Q E → t env M Q' E'
def MonoT (t : DT) : Prop := ∀ env M (Q Q' : Bool → Mem → Prop) (E E' : DX), (∀ d M, Q d M → Q' d M) → (∀ c f M, E c f M → E' c f M) → t env M Q E → t env M Q' E'
def MonoA (t : DA) : Prop := ∀ env M (Q Q' : List D → Mem → Prop) (E E' : DX), (∀ d M, Q d M → Q' d M) → (∀ c f M, E c f M → E' c f M) → t env M Q E → t env M Q' E'
structure DEnds.Le (D D' : DEnds) : Prop where
  nx : ∀ e M, D.nx e M → D'.nx e M
  rt : ∀ d M, D.rt d M → D'.rt d M
  bk : ∀ e M, D.bk e M → D'.bk e M
  ct : ∀ e M, D.ct e M → D'.ct e M
  ex : ∀ c f e M, D.ex c f e M → D'.ex c f e M
def MonoS (t : DS) : Prop := ∀ (D D' : DEnds) env M, D.Le D' → t D env M → t D' env M

structure XE (X : Cx) (W : WX) (e : Expr) (t : DE) : Prop where
  mono : MonoE t
  pe : PE X e (liftE X.K W t)
structure XT (X : Cx) (W : WX) (e : Expr) (t : DT) : Prop where
  mono : MonoT t
  pt : PT X e (liftT X.K W t)
structure XW (X : Cx) (W : WX) (e : Expr) (t : DT) : Prop where
  mono : MonoT t
  pw : PW X e (liftT X.K W t)
structure XA (X : Cx) (W : WX) (es : List Expr) (t : DA) : Prop where
  mono : MonoA t
  pa : PA X es (liftA X.K W t)
structure XS (X : Cx) (W : WX) (st : Stmt) (t : DS) : Prop where
  mono : MonoS t
  ps : PS X st (liftS X.K W t)
structure XSs (X : Cx) (W : WX) (st : List Stmt) (t : DS) : Prop where
  mono : MonoS t
  ps : PSs X st (liftS X.K W t)

theorem PEw {X : Cx} {e : Expr} {t t' : TE} (h : PE X e t) (w : ∀ σ H Q, t' σ H Q → t σ H Q) : PE X e t' := ⟨fun pins s σ H Q I q => h.run pins s σ H Q I (w σ H Q q)⟩
theorem PTw {X : Cx} {e : Expr} {t t' : TT} (h : PT X e t) (w : ∀ σ H Q, t' σ H Q → t σ H Q) : PT X e t' := ⟨fun pins s σ H Q I q => h.run pins s σ H Q I (w σ H Q q)⟩
theorem PWw {X : Cx} {e : Expr} {t t' : TT} (h : PW X e t) (w : ∀ σ H Q, t' σ H Q → t σ H Q) : PW X e t' := ⟨fun wh pins s σ H Q I q => h.run wh pins s σ H Q I (w σ H Q q)⟩
theorem PAw {X : Cx} {e : List Expr} {t t' : TA} (h : PA X e t) (w : ∀ σ H Q, t' σ H Q → t σ H Q) : PA X e t' := ⟨fun pos pins s σ H Q I q => h.run pos pins s σ H Q I (w σ H Q q)⟩
theorem PSw {X : Cx} {e : Stmt} {t t' : TS} (h : PS X e t) (w : ∀ D σ H, t' D σ H → t D σ H) : PS X e t' := ⟨fun pins s σ H Q I q => h.run pins s σ H Q I (w Q σ H q)⟩
theorem PSsw {X : Cx} {e : List Stmt} {t t' : TS} (h : PSs X e t) (w : ∀ D σ H, t' D σ H → t D σ H) : PSs X e t' := ⟨fun pins s σ H Q I q => h.run pins s σ H Q I (w Q σ H q)⟩

section
variable {K : PySem.W.Frag} {W : WX}
/-- a step of evaluation: the D-reading leads to the V-reading -/
theorem stepE {t : DE} (m : MonoE t) {σ : L2.St} {H : Hp} {env : DEnv} {M : Mem} {P : VK} {Q : DK} {E : DX} (re : RepE K H env σ) (s : Sim K H M) (h : t env M Q E)
    (hq : ∀ d M1 u H1, Ext K H H1 → Sim K H1 M1 → RepE K H1 env σ → RepD K H1 d u → Q d M1 → P u H1) (he : ∀ c f M1, E c f M1 → upX K W H σ c f M1) : liftE K W t σ H P :=
  ⟨env, M, re, s, m env M _ _ _ _ (fun d M1 q u H1 e1 s1 r1 => hq d M1 u H1 e1 s1 (re.mono e1) r1 q) he h⟩
theorem stepT {t : DT} (m : MonoT t) {σ : L2.St} {H : Hp} {env : DEnv} {M : Mem} {P : Bool → Hp → Prop} {Q : Bool → Mem → Prop} {E : DX} (re : RepE K H env σ) (s : Sim K H M) (h : t env M Q E)
    (hq : ∀ d M1 H1, Ext K H H1 → Sim K H1 M1 → RepE K H1 env σ → Q d M1 → P d H1) (he : ∀ c f M1, E c f M1 → upX K W H σ c f M1) : liftT K W t σ H P :=
  ⟨env, M, re, s, m env M _ _ _ _ (fun d M1 q H1 e1 s1 => hq d M1 H1 e1 s1 (re.mono e1) q) he h⟩
theorem stepA {t : DA} (m : MonoA t) {σ : L2.St} {H : Hp} {env : DEnv} {M : Mem} {P : List V → Hp → Prop} {Q : List D → Mem → Prop} {E : DX} (re : RepE K H env σ) (s : Sim K H M) (h : t env M Q E)
    (hq : ∀ ds M1 us H1, Ext K H H1 → Sim K H1 M1 → RepE K H1 env σ → RepL K H1 ds us → Q ds M1 → P us H1) (he : ∀ c f M1, E c f M1 → upX K W H σ c f M1) : liftA K W t σ H P :=
  ⟨env, M, re, s, m env M _ _ _ _ (fun d M1 q u H1 e1 s1 r1 => hq d M1 u H1 e1 s1 (re.mono e1) r1 q) he h⟩
theorem upX_mono {H H1 : Hp} {σ : L2.St} (e : Ext K H H1) : ∀ c f M1, upX K W H σ c f M1 → upX K W H1 σ c f M1 := fun c f M1 q d H' e' s r => q d H' (e.trans e') s r
theorem upK_mono {H H1 : Hp} {Q : VK} (e : Ext K H H1) : ∀ d M1, upK K H Q d M1 → upK K H1 Q d M1 := fun c M1 q d H' e' s r => q d H' (e.trans e') s r
end
end PL

namespace PL
open PySem PySem.Spec PyProof.Rows L2

/-! results of operations by values -/
inductive Res where
  | val (c : Prop) (d : D)
  | new (c : Prop) (o : Ob)
  | put (c : Prop) (a : Addr) (o : Ob) (d : D)
  | bad
def Res.run : Res → Mem → DK → Prop
  | .val c d, M, Q => c ∧ Q d M
  | .new c o, M, Q => c ∧ ∀ p, M p = none → Q (.ob p) (mupd M p o)
  | .put c a o d, M, Q => c ∧ Q d (mupd M a o)
  | .bad, _, _ => False
theorem Res.mono {r : Res} {M : Mem} {Q Q' : DK} (h : ∀ d M, Q d M → Q' d M) (q : r.run M Q) : r.run M Q' := by
  cases r with
  | val c d => exact ⟨q.1, h _ _ q.2⟩
  | new c o => exact ⟨q.1, fun p hp => h _ _ (q.2 p hp)⟩
  | put c a o d => exact ⟨q.1, h _ _ q.2⟩
  | bad => exact q

section
variable {K : PySem.W.Frag} {H : Hp} {M : Mem} {Q : VK}
theorem fin_val {x : V} (h : upK K H Q (.v x) M) (s : Sim K H M) : Q x H := h x H Ext.refl s (by unfold RepD; rfl)
theorem fin_rep {d : D} {x : V} (h : upK K H Q d M) (s : Sim K H M) (r : RepD K H d x) : Q x H := h x H Ext.refl s r
theorem fin_new {ob : Ob} {o : HO} {p : Addr} (h : ∀ p, M p = none → upK K H Q (.ob p) (mupd M p ob)) (s : Sim K H M) (hp : H p = none) (r : RepO K (upd H p o) p ob) : Q (.ref p) (upd H p o) :=
  h p (s.free hp) _ _ (Ext.new hp) (s.new hp r) (by unfold RepD; rfl)
theorem fin_tup {ds : List D} {us : List V} {p : Addr} (h : upK K H Q (.tup ds) M) (s : Sim K H M) (hp : H p = none) (r : RepL K H ds us) : Q (.ref p) (upd H p (.tup us)) :=
  h _ _ (Ext.new hp) (s.laid hp) (by unfold RepD; exact ⟨p, us, rfl, SqT.of upd_same, RepL.mono (Ext.new hp) _ r⟩)
theorem repO_lst {p : Addr} {ds : List D} {us : List V} (e : Ext K H (upd H p (.lst us))) (r : RepL K H ds us) : RepO K (upd H p (.lst us)) p (.lst ds) := ⟨us, upd_same, RepL.mono e _ r⟩
theorem fin_lst {ds : List D} {us : List V} {p : Addr} (h : ∀ p, M p = none → upK K H Q (.ob p) (mupd M p (.lst ds))) (s : Sim K H M) (hp : H p = none) (r : RepL K H ds us) : Q (.ref p) (upd H p (.lst us)) :=
  fin_new h s hp (repO_lst (Ext.new hp) r)
theorem fin_put {ob : Ob} {o o' : HO} {a : Addr} {d : D} {x : V} (h : upK K H Q d (mupd M a ob)) (s : Sim K H M) (ha : H a = some o) (m : Mut (some o)) (r : RepO K (upd H a o') a ob) (rd : RepD K H d x) : Q x (upd H a o') :=
  h x _ (Ext.mut ha m) (s.put ha m r) (RepD.mono (Ext.mut ha m) _ rd)
theorem rep_v {x u : V} (h : RepD K H (.v x) u) : u = x := by unfold RepD at h; exact h
theorem rep_of {x : V} : RepD K H (.v x) x := by unfold RepD; rfl
theorem rep_tup {ds : List D} {u : V} (h : RepD K H (.tup ds) u) : ∃ a us, u = .ref a ∧ SqT K H a us ∧ RepL K H ds us := by unfold RepD at h; exact h
theorem Sim.lst (s : Sim K H M) {a : Addr} {ds : List D} (h : M a = some (.lst ds)) : ∃ us, H a = some (.lst us) ∧ RepL K H ds us := s a _ h
theorem Sim.seq (s : Sim K H M) {a : Addr} {ds : List D} (h : M a = some (.lst ds) ∨ M a = some (.rol ds)) : ∃ us, SqL K H a us ∧ RepL K H ds us := by
  rcases h with h | h
  · obtain ⟨us, e, r⟩ := s a _ h
    exact ⟨us, SqL.of e, r⟩
  · obtain ⟨o, us, e, r⟩ := s a _ h
    exact ⟨us, .inl (.inr ⟨o, e⟩), r⟩
end

/-! plain data -/
mutual
def D.pure : D → Bool
  | .v .non | .v (.bl _) | .v (.int _) | .v (.str _) => true
  | .v _ => false
  | .tup ds => pureL ds
def pureL : List D → Bool
  | [] => true
  | d :: ds => d.pure && pureL ds
end
mutual
def D.py : D → PyData
  | .v .non => .none
  | .v (.bl b) => .bool b
  | .v (.int i) => .int i
  | .v (.str x) => .str x
  | .v _ => .none
  | .tup ds => .tuple (pyL ds)
def pyL : List D → List PyData
  | [] => []
  | d :: ds => d.py :: pyL ds
end
mutual
def D.dp : D → Nat
  | .v _ => 0
  | .tup ds => dpL ds + 1
def dpL : List D → Nat
  | [] => 0
  | d :: ds => max d.dp (dpL ds)
end
/-- == of plain data -/
def D.eqv (d e : D) : Bool := PyData.eqv d.py e.py
def eqvL (ds es : List D) : Bool := PyData.eqvAll (pyL ds) (pyL es)
theorem pyL_map : ∀ ds : List D, pyL ds = ds.map D.py
  | [] => by simp [pyL]
  | d :: ds => by simp [pyL, pyL_map ds]
mutual
theorem plain_py : ∀ d : D, d.py.plain = true
  | .v x => by cases x <;> simp [D.py, PyData.plain]
  | .tup ds => by simp [D.py, PyData.plain, plain_pyL ds]
theorem plain_pyL : ∀ ds : List D, PyData.plainAll (pyL ds) = true
  | [] => by simp [pyL, PyData.plainAll]
  | d :: ds => by simp [pyL, PyData.plainAll, plain_py d, plain_pyL ds]
end
mutual
theorem depth_py : ∀ d : D, d.py.depth = d.dp
  | .v x => by cases x <;> simp [D.py, D.dp, PyData.depth]
  | .tup ds => by simp [D.py, D.dp, PyData.depth, depth_pyL ds]
theorem depth_pyL : ∀ ds : List D, PyData.depthAll (pyL ds) = dpL ds
  | [] => by simp [pyL, dpL, PyData.depthAll]
  | d :: ds => by simp [pyL, dpL, PyData.depthAll, depth_py d, depth_pyL ds]
end
mutual
theorem RepD.dp {K : PySem.W.Frag} {H : Hp} : ∀ (d : D) {u : V}, d.pure = true → RepD K H d u → Dp K H u d.py
  | .v x, u, hp, h => by
    have e := rep_v h; subst e
    cases u <;> first | exact .non | exact .bl _ | exact .int _ | exact .str _ | (simp [D.pure] at hp)
  | .tup ds, u, hp, h => by
    obtain ⟨a, us, rfl, q, r⟩ := rep_tup h
    unfold D.py
    exact .tup q (RepL.dp ds (by simpa [D.pure] using hp) r)
theorem RepL.dp {K : PySem.W.Frag} {H : Hp} : ∀ (ds : List D) {us : List V}, pureL ds = true → RepL K H ds us → DpAll K H us (pyL ds)
  | [], us, hp, h => by unfold RepL at h; subst h; unfold pyL; exact .nil
  | d :: ds, us, hp, h => by
    unfold RepL at h
    obtain ⟨u, r, rfl, q, t⟩ := h
    simp only [pureL, Bool.and_eq_true] at hp
    unfold pyL
    exact .cons (RepD.dp d hp.1 q) (RepL.dp ds hp.2 t)
end

/-- plain data, or a list of such -/
def pyM (M : Mem) : D → Option PyData
  | .v (.ref a) => match M a with
    | some (.lst ds) => if pureL ds = true then some (.list (pyL ds)) else none
    | some (.rol ds) => if pureL ds = true then some (.list (pyL ds)) else none
    | _ => none
  | .v x => if (D.v x).pure = true then some (D.v x).py else none
  | .tup ds => if pureL ds = true then some (.tuple (pyL ds)) else none
theorem pyM_pure {M : Mem} : ∀ {d : D}, d.pure = true → pyM M d = some d.py
  | .v x, h => by cases x <;> simp_all [pyM, D.pure]
  | .tup ds, h => by simp_all [pyM, D.pure, D.py]
theorem pyM_dp {K : PySem.W.Frag} {H : Hp} {M : Mem} (s : Sim K H M) {d : D} {u : V} {p : PyData} (h : pyM M d = some p) (r : RepD K H d u) : Dp K H u p ∧ p.plain = true := by
  cases d with
  | tup ds =>
    simp only [pyM] at h
    split at h
    · cases h
      rename_i hp
      refine ⟨?_, by simp [PyData.plain, plain_pyL ds]⟩
      have := RepD.dp (.tup ds) (by simpa [D.pure] using hp) r
      simpa [D.py] using this
    · cases h
  | v x =>
    cases x with
    | ref a =>
      simp only [pyM] at h
      have e := rep_v r; subst e
      split at h
      · split at h
        · cases h
          rename_i ds hm hp
          obtain ⟨us, e, r⟩ := s a _ hm
          exact ⟨.lst (SqL.of e) (RepL.dp ds hp r), by simp [PyData.plain, plain_pyL ds]⟩
        · cases h
      · split at h
        · cases h
          rename_i ds hm hp
          obtain ⟨o, us, e, r⟩ := s a _ hm
          exact ⟨.lst (.inl (.inr ⟨o, e⟩)) (RepL.dp ds hp r), by simp [PyData.plain, plain_pyL ds]⟩
        · cases h
      · cases h
    | _ => (first
        | (simp [pyM, D.pure, D.py] at h; subst h; have e := rep_v r; subst e; exact ⟨by constructor, by simp [PyData.plain]⟩)
        | (simp [pyM, D.pure] at h))

/-! two-place operations -/
abbrev DOp2 := D → D → Mem → Res
def upR2 (K : PySem.W.Frag) (r : DOp2) : R2 := fun x y H Q => ∃ dx dy M, RepD K H dx x ∧ RepD K H dy y ∧ Sim K H M ∧ (r dx dy M).run M (upK K H Q)
def XOp (X : Cx) (f : Value → Value → Sem Value) (r : DOp2) : Prop := OpR X f (upR2 X.K r)

def dBin (r : DOp2) (ta tb : DE) : DE := fun env M Q E => ta env M (fun x M1 => tb env M1 (fun y M2 => (r x y M2).run M2 Q) E) E
theorem dBin_mono {r : DOp2} {ta tb : DE} (ha : MonoE ta) (hb : MonoE tb) : MonoE (dBin r ta tb) := fun env M Q Q' E E' hQ hE h =>
  ha env M _ _ _ _ (fun x M1 h1 => hb env M1 _ _ _ _ (fun y M2 h2 => Res.mono hQ h2) hE h1) hE h
section
variable {X : Cx} {W : WX} {a b : Expr} {ta tb : DE} {pos : Pos} {r : DOp2}
theorem bin_up {r2 : R2} (ha : XE X W a ta) (hb : XE X W b tb) (hr : ∀ x y H Q, upR2 X.K r x y H Q → r2 x y H Q) : ∀ σ H Q, liftE X.K W (dBin r ta tb) σ H Q → tOp r2 (liftE X.K W ta) (liftE X.K W tb) σ H Q := by
  rintro σ H Q ⟨env, M, re, s, h⟩
  refine stepE ha.mono re s h (fun d M1 u H1 e1 s1 re1 r1 h1 => ?_) fun _ _ _ z => z
  refine stepE hb.mono re1 s1 h1 (fun d2 M2 u2 H2 e2 s2 re2 r2 h2 => ?_) (upX_mono e1)
  exact hr _ _ _ _ ⟨d, d2, M2, RepD.mono e2 _ r1, r2, s2, Res.mono (upK_mono (e1.trans e2)) h2⟩
theorem xe_bin {op : Operator} (ho : XOp X (binaryOp op) r) (ha : XE X W a ta) (hb : XE X W b tb) : XE X W (.BinOp a op b pos) (dBin r ta tb) :=
  ⟨dBin_mono ha.mono hb.mono, PEw (pe_op ho ha.pe hb.pe) (bin_up ha hb fun _ _ _ _ h => h)⟩
theorem xe_cmp {op : CmpOp} (ho : XOp X (compareOp op) r) (ha : XE X W a ta) (hb : XE X W b tb) (hm : behindInMarks op b = false) : XE X W (.Compare a [op] [b] pos) (dBin r ta tb) :=
  ⟨dBin_mono ha.mono hb.mono, PEw (pe_cmpR ho ha.pe hb.pe hm) (bin_up ha hb fun _ _ _ _ h => h)⟩
end


/-! arithmetic -/
def opAdd : DOp2
  | .v (.int i), .v (.int j), _ => .val True (.int (i + j))
  | .v (.str a), .v (.str b), _ => .val (a.length + b.length ≤ sizeLine) (.str (a ++ b))
  | .tup a, .tup b, _ => .val (a.length + b.length ≤ sizeLine) (.tup (a ++ b))
  | .v (.ref a), .v (.ref b), M => match M a, M b with
    | some (.lst xs), some (.lst ys) => .new (xs.length + ys.length ≤ sizeLine) (.lst (xs ++ ys))
    | _, _ => .bad
  | _, _, _ => .bad
def opSub : DOp2
  | .v (.int i), .v (.int j), _ => .val True (.int (i - j))
  | _, _, _ => .bad
def opMul : DOp2
  | .v (.int i), .v (.int j), _ => .val (IntMulOk i j) (.int (i * j))
  | .tup xs, .v (.int k), _ => .val (xs ≠ [] ∧ 2 ≤ k ∧ k ≤ 1000 ∧ xs.length ≤ 1000) (.tup (List.replicate k.toNat xs).flatten)
  | .v (.str x), .v (.int k), _ => .val (1 ≤ x.length ∧ 2 ≤ k ∧ k ≤ 1000 ∧ x.length ≤ 1000) (.str ⟨(List.replicate k.toNat x.cps.toList).flatten.toArray⟩)
  | _, _, _ => .bad
def opFdiv : DOp2
  | .v (.int i), .v (.int j), _ => .val (0 < j ∧ j < 1073741824) (.int (i / j))
  | _, _, _ => .bad
def opMod : DOp2
  | .v (.int i), .v (.int j), _ => .val (0 < j) (.int (i % j))
  | _, _, _ => .bad
def opPow : DOp2
  | .v (.int i), .v (.int j), _ => .val (0 ≤ j ∧ j ≤ 1000000 ∧ i.natAbs < 2 ^ 64) (.int (i ^ j.toNat))
  | _, _, _ => .bad
theorem fold_rep (a : Array Nat) : ∀ (n : Nat) (acc : Array Nat), (List.replicate n a).foldl (· ++ ·) acc = acc ++ (List.replicate n a.toList).flatten.toArray
  | 0, acc => by simp
  | n + 1, acc => by
    rw [List.replicate_succ, List.foldl_cons, fold_rep a n, List.replicate_succ, List.flatten_cons]
    apply Array.toList_inj.mp
    simp
section
variable {X : Cx}
theorem x_sub : XOp X (binaryOp .Sub) opSub := by
  rintro pins s σ H x y v u Q I rx ry ⟨dx, dy, M, r1, r2, sm, h⟩
  unfold opSub at h
  split at h <;> first | exact h.elim | skip
  rw [rep_v r1] at rx; rw [rep_v r2] at ry
  exact op_sub pins s σ H _ _ v u Q I rx ry ⟨_, _, rfl, rfl, fin_val h.2 sm⟩
theorem x_fdiv : XOp X (binaryOp .FloorDiv) opFdiv := by
  rintro pins s σ H x y v u Q I rx ry ⟨dx, dy, M, r1, r2, sm, h⟩
  unfold opFdiv at h
  split at h <;> first | exact h.elim | skip
  rw [rep_v r1] at rx; rw [rep_v r2] at ry
  exact op_fdiv pins s σ H _ _ v u Q I rx ry ⟨_, _, rfl, rfl, h.1, fin_val h.2 sm⟩
theorem x_mod : XOp X (binaryOp .Mod) opMod := by
  rintro pins s σ H x y v u Q I rx ry ⟨dx, dy, M, r1, r2, sm, h⟩
  unfold opMod at h
  split at h <;> first | exact h.elim | skip
  rw [rep_v r1] at rx; rw [rep_v r2] at ry
  exact op_mod pins s σ H _ _ v u Q I rx ry ⟨_, _, rfl, rfl, h.1, fin_val h.2 sm⟩
theorem x_pow : XOp X (binaryOp .Pow) opPow := by
  rintro pins s σ H x y v u Q I rx ry ⟨dx, dy, M, r1, r2, sm, h⟩
  unfold opPow at h
  split at h <;> first | exact h.elim | skip
  rw [rep_v r1] at rx; rw [rep_v r2] at ry
  exact op_pow pins s σ H _ _ v u Q I rx ry ⟨_, _, rfl, rfl, h.1, fin_val h.2 sm⟩
theorem x_add : XOp X (binaryOp .Add) opAdd := by
  rintro pins s σ H x y v u Q I rx ry ⟨dx, dy, M, r1, r2, sm, h⟩
  unfold opAdd at h
  split at h <;> first | exact h.elim | skip
  · rw [rep_v r1] at rx; rw [rep_v r2] at ry
    exact op_add pins s σ H _ _ v u Q I rx ry ⟨_, _, rfl, rfl, fin_val h.2 sm⟩
  · rw [rep_v r1] at rx; rw [rep_v r2] at ry
    exact op_add_str pins s σ H _ _ v u Q I rx ry ⟨_, _, rfl, rfl, h.1, fin_val h.2 sm⟩
  · obtain ⟨a, us, rfl, q1, l1⟩ := rep_tup r1
    obtain ⟨b, ws, rfl, q2, l2⟩ := rep_tup r2
    refine op_catA pins s σ H _ _ v u Q I rx ry ⟨_, _, _, _, rfl, rfl, q1, q2, by rw [l1.length, l2.length]; exact h.1, fun e => ?_, fun _ e => ?_, fun _ _ p hp => ?_⟩
    · refine fin_rep h.2 sm ?_
      subst e
      have := l1.length
      rw [List.eq_nil_of_length_eq_zero this.symm, List.nil_append]
      exact r2
    · refine fin_rep h.2 sm ?_
      subst e
      have := l2.length
      rw [List.eq_nil_of_length_eq_zero this.symm, List.append_nil]
      exact r1
    · exact fin_tup h.2 sm hp (RepL.append l1 l2)
  · split at h <;> first | exact h.elim | skip
    rename_i hm1 hm2
    rw [rep_v r1] at rx; rw [rep_v r2] at ry
    obtain ⟨us, e1, l1⟩ := sm.lst hm1
    obtain ⟨ws, e2, l2⟩ := sm.lst hm2
    exact op_cat pins s σ H _ _ v u Q I rx ry ⟨_, _, _, _, rfl, rfl, e1, e2, by rw [l1.length, l2.length]; exact h.1, fun p hp => fin_lst h.2 sm hp (RepL.append l1 l2)⟩
theorem RepL.rep {K : PySem.W.Frag} {H : Hp} {ds : List D} {us : List V} (h : RepL K H ds us) : ∀ k : Nat, RepL K H (List.replicate k ds).flatten (List.replicate k us).flatten
  | 0 => by simp only [List.replicate_zero, List.flatten_nil]; exact .nil
  | k + 1 => by
    simp only [List.replicate_succ, List.flatten_cons]
    exact RepL.append h (RepL.rep h k)
theorem x_mul : XOp X (binaryOp .Mult) opMul := by
  rintro pins s σ H x y v u Q I rx ry ⟨dx, dy, M, r1, r2, sm, h⟩
  unfold opMul at h
  split at h <;> first | exact h.elim | skip
  · rw [rep_v r1] at rx; rw [rep_v r2] at ry
    obtain ⟨t, rfl⟩ := rx
    obtain ⟨t', rfl⟩ := ry
    exact mul_int ⟨.int _, H, I.tok _, ⟨_, rfl⟩, fin_val h.2 sm⟩ h.1
  · obtain ⟨a, us, rfl, q1, l1⟩ := rep_tup r1
    rw [rep_v r2] at ry
    obtain ⟨h1, h2, h3, h4⟩ := h.1
    refine op_repT pins s σ H _ _ v u Q I rx ry ⟨_, _, _, rfl, rfl, q1, fun e => h1 ?_, h2, h3, by rw [l1.length]; exact h4, fun p hp => fin_tup h.2 sm hp (RepL.rep l1 _)⟩
    have := l1.length
    rw [e] at this
    exact List.eq_nil_of_length_eq_zero this.symm
  · rename_i z k
    rw [rep_v r1] at rx; rw [rep_v r2] at ry
    obtain ⟨t, rfl⟩ := rx
    obtain ⟨t', rfl⟩ := ry
    obtain ⟨h1, h2, h3, h4⟩ := h.1
    have nk : ¬ k < 1 := by omega
    have k1 : (k == 1) = false := by simp; omega
    have z1 : (z.length == 0) = false := by simp; omega
    have hk : (z.length : Int) * k ≤ 1000000 := by
      have a1 : (z.length : Int) * k ≤ 1000 * k := Int.mul_le_mul_of_nonneg_right (by omega) (by omega)
      omega
    have hn : z.length * k.toNat ≤ 1000000 := by
      have : ((z.length * k.toNat : Nat) : Int) = (z.length : Int) * k := by
        rw [Int.natCast_mul, Int.toNat_of_nonneg (by omega)]
      omega
    refine PySem.P.mul_str ?_ (fun _ _ => ?_) (fun _ _ => ?_) ?_
    · rw [decide_eq_false (by omega), decide_eq_false (by omega)]; rfl
    · have : ((2 : Int) ^ 63 - 1) / k ≥ (2 ^ 63 - 1) / 1000 := by
        have h5 : (2 ^ 63 - 1 : Int) / 1000 * k ≤ (2 ^ 63 - 1) := by
          have : (2 ^ 63 - 1 : Int) / 1000 * k ≤ (2 ^ 63 - 1 : Int) / 1000 * 1000 := Int.mul_le_mul_of_nonneg_left h3 (by decide)
          omega
        exact (Int.le_ediv_iff_mul_le (by omega)).mpr h5
      omega
    · simp only [Builtin.Str.tooLong, decide_eq_false_iff_not]
      rw [sizeLine_eq]
      omega
    · rw [if_neg nk, k1, z1]
      rw [fold_rep, Array.empty_append]
      refine ⟨?_, .str _, H, I.tok _, ⟨_, rfl⟩, fin_val h.2 sm⟩
      show (List.toArray _).size ≤ _
      rw [List.size_toArray, List.length_flatten, List.map_replicate, List.sum_replicate_nat, Nat.mul_comm, sizeLine_eq]
      show z.cps.size * k.toNat ≤ _
      have e : z.length = z.cps.size := rfl
      rw [e] at hn
      omega
end
end PL

namespace PL
open PySem PySem.Spec PyProof.Rows L2

/-! comparisons -/
def mostDeep : Nat := 150
def opEq : DOp2 := fun x y M => match pyM M x, pyM M y with
  | some p, some q => .val (min p.depth q.depth ≤ mostDeep) (.bl (PyData.eqv p q))
  | _, _ => .bad
def opNe : DOp2 := fun x y M => match pyM M x, pyM M y with
  | some p, some q => .val (min p.depth q.depth ≤ mostDeep) (.bl (!PyData.eqv p q))
  | _, _ => .bad
def opLt : DOp2
  | .v (.int i), .v (.int j), _ => .val True (.bl (decide (i < j)))
  | .v (.str a), .v (.str b), _ => .val True (.bl (decide (a.cps.toList < b.cps.toList)))
  | _, _, _ => .bad
def opLe : DOp2
  | .v (.int i), .v (.int j), _ => .val True (.bl (decide (i ≤ j)))
  | .v (.str a), .v (.str b), _ => .val True (.bl (!decide (b.cps.toList < a.cps.toList)))
  | _, _, _ => .bad
def opGt : DOp2
  | .v (.int i), .v (.int j), _ => .val True (.bl (decide (j < i)))
  | .v (.str a), .v (.str b), _ => .val True (.bl (decide (b.cps.toList < a.cps.toList)))
  | _, _, _ => .bad
def opGe : DOp2
  | .v (.int i), .v (.int j), _ => .val True (.bl (decide (j ≤ i)))
  | .v (.str a), .v (.str b), _ => .val True (.bl (!decide (a.cps.toList < b.cps.toList)))
  | _, _, _ => .bad
def D.isNon : D → Bool
  | .v .non => true
  | _ => false
def opIs : DOp2
  | d, .v .non, _ => .val True (.bl d.isNon)
  | .v (.bl a), .v (.bl b), _ => .val True (.bl (decide (a = b)))
  | _, _, _ => .bad
def opIsNot : DOp2
  | d, .v .non, _ => .val True (.bl (!d.isNon))
  | .v (.bl a), .v (.bl b), _ => .val True (.bl (!decide (a = b)))
  | _, _, _ => .bad
def D.key : D → Option Key
  | .v (.int i) => some (.inl i)
  | .v (.str x) => some (.inr x)
  | _ => none
def look {κ β : Type} [DecidableEq κ] : List (κ × β) → κ → Option β
  | [], _ => none
  | (a, d) :: r, k => if a = k then some d else look r k
/-- x in y, as a bool where it is defined -/
def isIn (x y : D) (M : Mem) : Option (Nat × Bool) := match y with
  | .v (.str b) => match x with
    | .v (.str a) => if a.cps.size = 1 then some (0, decide (a.cps.getD 0 0 ∈ b.cps.toList)) else none
    | _ => none
  | .tup ds => if pureL ds && x.pure then some (min (dpL ds) x.dp, ds.any fun d => D.eqv d x) else none
  | .v (.ref a) => match M a with
    | some (.lst ds) => if pureL ds && x.pure then some (min (dpL ds) x.dp, ds.any fun d => D.eqv d x) else none
    | some (.rol ds) => if pureL ds && x.pure then some (min (dpL ds) x.dp, ds.any fun d => D.eqv d x) else none
    | some (.dk kvs) => match x.key with
      | some k => some (0, (look kvs k).isSome)
      | none => none
    | some (.rdk kvs) => match x.key with
      | some k => some (0, (look kvs k).isSome)
      | none => none
    | _ => none
  | _ => none
def opIn : DOp2 := fun x y M => match isIn x y M with
  | some (n, b) => .val (n ≤ mostDeep) (.bl b)
  | none => .bad
def opNotIn : DOp2 := fun x y M => match isIn x y M with
  | some (n, b) => .val (n ≤ mostDeep) (.bl (!b))
  | none => .bad

theorem key_rep {K : PySem.W.Frag} {H : Hp} {d : D} {u : V} {k : Key} (h : d.key = some k) (r : RepD K H d u) : u = kV k := by
  unfold D.key at h
  split at h <;> cases h <;> exact rep_v r
theorem RepKV.look {κ : Type} [DecidableEq κ] {K : PySem.W.Frag} {H : Hp} (k : κ) : ∀ {kvs : List (κ × D)} {us : List (κ × V)}, RepKV K H kvs us →
    match PL.look kvs k, valV us k with | some d, some u => RepD K H d u | none, none => True | _, _ => False
  | [], _, h => by unfold RepKV at h; subst h; simp [PL.look, valV]
  | (k', d) :: r, _, h => by
    obtain ⟨u, t, rfl, q, z⟩ := h
    have ih := RepKV.look k z
    by_cases e : k' = k
    · simpa [PL.look, valV, e] using q
    · simpa [PL.look, valV, e] using ih
theorem RepKV.isSome {κ : Type} [DecidableEq κ] {K : PySem.W.Frag} {H : Hp} (k : κ) {kvs : List (κ × D)} {us : List (κ × V)} (h : RepKV K H kvs us) : (valV us k).isSome = (PL.look kvs k).isSome := by
  have q := h.look k
  cases e : PL.look kvs k <;> cases f : valV us k <;> simp_all
theorem any_eqv (x : D) : ∀ ds : List D, ((pyL ds).any fun y => PyData.eqv y x.py) = ds.any fun d => D.eqv d x
  | [] => by simp [pyL]
  | d :: ds => by simp [pyL, any_eqv x ds, D.eqv]

section
variable {X : Cx}
theorem rd_of {pins : List (Addr × Obj)} {σ : L2.St} {H : Hp} {s : Shared} {d : PyData} {x : V} {v : Value} (I : Inv X pins σ H s) (h : Dp X.K H x d) (r : RelV x v) : ∃ as, Reads s.heap v d as := Dp.reads I d x v h r
theorem x_eq (hu : X.A.units + 200 < cLine) : XOp X (compareOp .Eq) opEq := by
  rintro pins s σ H x y v u Q I rx ry ⟨dx, dy, M, r1, r2, sm, h⟩
  unfold opEq at h
  split at h <;> first | exact h.elim | skip
  rename_i p q hp hq
  obtain ⟨p1, n1⟩ := pyM_dp sm hp r1
  obtain ⟨p2, n2⟩ := pyM_dp sm hq r2
  obtain ⟨as, a1⟩ := rd_of I p1 rx
  obtain ⟨bs, b1⟩ := rd_of I p2 ry
  have hd := h.1
  unfold mostDeep at hd
  exact SeqAt.eq_plain a1 b1 n1 n2 (by omega) ⟨.bl _, H, I, rfl, fin_val h.2 sm⟩
theorem x_ne (hu : X.A.units + 200 < cLine) : XOp X (compareOp .NotEq) opNe := by
  rintro pins s σ H x y v u Q I rx ry ⟨dx, dy, M, r1, r2, sm, h⟩
  unfold opNe at h
  split at h <;> first | exact h.elim | skip
  rename_i p q hp hq
  obtain ⟨p1, n1⟩ := pyM_dp sm hp r1
  obtain ⟨p2, n2⟩ := pyM_dp sm hq r2
  obtain ⟨as, a1⟩ := rd_of I p1 rx
  obtain ⟨bs, b1⟩ := rd_of I p2 ry
  have hd := h.1
  unfold mostDeep at hd
  exact SeqAt.ne_plain a1 b1 n1 n2 (by omega) ⟨.bl _, H, I, rfl, fin_val h.2 sm⟩
theorem x_lt : XOp X (compareOp .Lt) opLt := by
  rintro pins s σ H x y v u Q I rx ry ⟨dx, dy, M, r1, r2, sm, h⟩
  unfold opLt at h
  split at h <;> first | exact h.elim | skip
  all_goals rw [rep_v r1] at rx; rw [rep_v r2] at ry
  · exact op_lt pins s σ H _ _ v u Q I rx ry ⟨_, _, rfl, rfl, fin_val h.2 sm⟩
  · exact op_lt_str pins s σ H _ _ v u Q I rx ry ⟨_, _, rfl, rfl, fin_val h.2 sm⟩
theorem x_le : XOp X (compareOp .LtE) opLe := by
  rintro pins s σ H x y v u Q I rx ry ⟨dx, dy, M, r1, r2, sm, h⟩
  unfold opLe at h
  split at h <;> first | exact h.elim | skip
  all_goals rw [rep_v r1] at rx; rw [rep_v r2] at ry
  · exact op_le pins s σ H _ _ v u Q I rx ry ⟨_, _, rfl, rfl, fin_val h.2 sm⟩
  · exact op_le_str pins s σ H _ _ v u Q I rx ry ⟨_, _, rfl, rfl, fin_val h.2 sm⟩
theorem x_gt : XOp X (compareOp .Gt) opGt := by
  rintro pins s σ H x y v u Q I rx ry ⟨dx, dy, M, r1, r2, sm, h⟩
  unfold opGt at h
  split at h <;> first | exact h.elim | skip
  all_goals rw [rep_v r1] at rx; rw [rep_v r2] at ry
  · exact op_gt pins s σ H _ _ v u Q I rx ry ⟨_, _, rfl, rfl, fin_val h.2 sm⟩
  · exact op_gt_str pins s σ H _ _ v u Q I rx ry ⟨_, _, rfl, rfl, fin_val h.2 sm⟩
theorem x_ge : XOp X (compareOp .GtE) opGe := by
  rintro pins s σ H x y v u Q I rx ry ⟨dx, dy, M, r1, r2, sm, h⟩
  unfold opGe at h
  split at h <;> first | exact h.elim | skip
  all_goals rw [rep_v r1] at rx; rw [rep_v r2] at ry
  · exact op_ge pins s σ H _ _ v u Q I rx ry ⟨_, _, rfl, rfl, fin_val h.2 sm⟩
  · exact op_ge_str pins s σ H _ _ v u Q I rx ry ⟨_, _, rfl, rfl, fin_val h.2 sm⟩
theorem non_rep {K : PySem.W.Frag} {H : Hp} {d : D} {u : V} (r : RepD K H d u) : decide (u = .non) = d.isNon := by
  cases d with
  | tup ds =>
    obtain ⟨a, us, rfl, _⟩ := rep_tup r
    rfl
  | v x =>
    rw [rep_v r]
    cases x <;> rfl
theorem x_is : XOp X (compareOp .Is) opIs := by
  rintro pins s σ H x y v u Q I rx ry ⟨dx, dy, M, r1, r2, sm, h⟩
  unfold opIs at h
  split at h <;> first | exact h.elim | skip
  · rw [rep_v r2] at ry
    refine op_isN pins s σ H _ _ v u Q I rx ry ⟨rfl, ?_⟩
    rw [non_rep r1]
    exact fin_val h.2 sm
  · rw [rep_v r1] at rx; rw [rep_v r2] at ry
    exact op_isBl pins s σ H _ _ v u Q I rx ry ⟨_, _, rfl, rfl, fin_val h.2 sm⟩
theorem x_isnot : XOp X (compareOp .IsNot) opIsNot := by
  rintro pins s σ H x y v u Q I rx ry ⟨dx, dy, M, r1, r2, sm, h⟩
  unfold opIsNot at h
  split at h <;> first | exact h.elim | skip
  · rw [rep_v r2] at ry
    refine op_notN pins s σ H _ _ v u Q I rx ry ⟨rfl, ?_⟩
    rw [non_rep r1]
    exact fin_val h.2 sm
  · rw [rep_v r1] at rx; rw [rep_v r2] at ry
    exact op_notBl pins s σ H _ _ v u Q I rx ry ⟨_, _, rfl, rfl, fin_val h.2 sm⟩

theorem one_sign {a : Str} (h : a.cps.size = 1) : a = ⟨#[a.cps.getD 0 0]⟩ := by
  obtain ⟨⟨l⟩⟩ := a
  match l, h with
  | [c], _ => rfl
theorem x_in (hu : X.A.units + 200 < cLine) : XOp X (compareOp .In) opIn := by
  rintro pins s σ H x y v u Q I rx ry ⟨dx, dy, M, r1, r2, sm, h⟩
  unfold opIn at h
  split at h <;> first | exact h.elim | skip
  rename_i n b hb
  have hn := h.1
  unfold mostDeep at hn
  unfold isIn at hb
  split at hb
  · -- texts
    split at hb <;> try (cases hb; done)
    split at hb <;> cases hb
    rename_i h1
    rw [rep_v r1] at rx; rw [rep_v r2] at ry
    refine op_in_sign pins s σ H _ _ v u Q I rx ry ⟨_, _, congrArg V.str (one_sign h1), rfl, fin_val h.2 sm⟩
  · -- tuples
    split at hb <;> cases hb
    rename_i ds hp
    simp only [Bool.and_eq_true] at hp
    obtain ⟨a, us, rfl, q1, l1⟩ := rep_tup r2
    obtain ⟨as, a1⟩ := rd_of I (Dp.tup q1 (RepL.dp ds hp.1 l1)) ry
    obtain ⟨bs, b1⟩ := rd_of I (RepD.dp dx hp.2 r1) rx
    refine SeqAt.in_tuple_data a1 b1 (plain_pyL ds) (plain_py dx) (by rw [depth_pyL, depth_py]; omega) ?_
    rw [any_eqv]
    exact ⟨.bl _, H, I, rfl, fin_val h.2 sm⟩
  · -- lists, dicts
    have e := rep_v r2
    subst e
    split at hb
    · split at hb <;> cases hb
      rename_i ds hm hp
      simp only [Bool.and_eq_true] at hp
      obtain ⟨us, e1, l1⟩ := sm.lst hm
      obtain ⟨as, a1⟩ := rd_of I (Dp.lst (SqL.of e1) (RepL.dp ds hp.1 l1)) ry
      obtain ⟨bs, b1⟩ := rd_of I (RepD.dp dx hp.2 r1) rx
      refine SeqAt.in_list_data a1 b1 (plain_pyL ds) (plain_py dx) (by rw [depth_pyL, depth_py]; omega) ?_
      rw [any_eqv]
      exact ⟨.bl _, H, I, rfl, fin_val h.2 sm⟩
    · split at hb <;> cases hb
      rename_i ds hm hp
      simp only [Bool.and_eq_true] at hp
      obtain ⟨us, e1, l1⟩ := sm.seq (.inr hm)
      obtain ⟨as, a1⟩ := rd_of I (Dp.lst e1 (RepL.dp ds hp.1 l1)) ry
      obtain ⟨bs, b1⟩ := rd_of I (RepD.dp dx hp.2 r1) rx
      refine SeqAt.in_list_data a1 b1 (plain_pyL ds) (plain_py dx) (by rw [depth_pyL, depth_py]; omega) ?_
      rw [any_eqv]
      exact ⟨.bl _, H, I, rfl, fin_val h.2 sm⟩
    · split at hb <;> cases hb
      rename_i kvs hm _ k hk
      obtain ⟨us, e1, l1⟩ := sm _ _ hm
      have ex := key_rep hk r1
      subst ex
      obtain rfl : u = Value.ref _ := ry
      refine d_in (o := valV us k) (by omega) I (DGet.k e1) rx fun s' I' => ⟨.bl _, H, I', rfl, ?_⟩
      rw [l1.isSome k]
      exact fin_val h.2 sm
    · split at hb <;> cases hb
      rename_i kvs hm _ k hk
      obtain ⟨ob, us, e1, l1⟩ := sm _ _ hm
      have ex := key_rep hk r1
      subst ex
      obtain rfl : u = Value.ref _ := ry
      refine d_in (o := valV us k) (by omega) I (.inl ⟨us, k, .inr ⟨ob, e1⟩, rfl, rfl⟩) rx fun s' I' => ⟨.bl _, H, I', rfl, ?_⟩
      rw [l1.isSome k]
      exact fin_val h.2 sm
    · cases hb
  · cases hb
theorem x_notin (hu : X.A.units + 200 < cLine) : XOp X (compareOp .NotIn) opNotIn := by
  rintro pins s σ H x y v u Q I rx ry ⟨dx, dy, M, r1, r2, sm, h⟩
  unfold opNotIn at h
  split at h <;> first | exact h.elim | skip
  rename_i n b hb
  have hn := h.1
  unfold mostDeep at hn
  unfold isIn at hb
  split at hb
  · split at hb <;> try (cases hb; done)
    split at hb <;> cases hb
    rename_i h1
    rw [rep_v r1] at rx; rw [rep_v r2] at ry
    refine op_notIn_sign pins s σ H _ _ v u Q I rx ry ⟨_, _, congrArg V.str (one_sign h1), rfl, fin_val h.2 sm⟩
  · split at hb <;> cases hb
    rename_i ds hp
    simp only [Bool.and_eq_true] at hp
    obtain ⟨a, us, rfl, q1, l1⟩ := rep_tup r2
    obtain ⟨as, a1⟩ := rd_of I (Dp.tup q1 (RepL.dp ds hp.1 l1)) ry
    obtain ⟨bs, b1⟩ := rd_of I (RepD.dp dx hp.2 r1) rx
    refine SeqAt.notIn_tuple_data a1 b1 (plain_pyL ds) (plain_py dx) (by rw [depth_pyL, depth_py]; omega) ?_
    rw [any_eqv]
    exact ⟨.bl _, H, I, rfl, fin_val h.2 sm⟩
  · have e := rep_v r2
    subst e
    split at hb
    · split at hb <;> cases hb
      rename_i ds hm hp
      simp only [Bool.and_eq_true] at hp
      obtain ⟨us, e1, l1⟩ := sm.lst hm
      obtain ⟨as, a1⟩ := rd_of I (Dp.lst (SqL.of e1) (RepL.dp ds hp.1 l1)) ry
      obtain ⟨bs, b1⟩ := rd_of I (RepD.dp dx hp.2 r1) rx
      refine SeqAt.notIn_list_data a1 b1 (plain_pyL ds) (plain_py dx) (by rw [depth_pyL, depth_py]; omega) ?_
      rw [any_eqv]
      exact ⟨.bl _, H, I, rfl, fin_val h.2 sm⟩
    · split at hb <;> cases hb
      rename_i ds hm hp
      simp only [Bool.and_eq_true] at hp
      obtain ⟨us, e1, l1⟩ := sm.seq (.inr hm)
      obtain ⟨as, a1⟩ := rd_of I (Dp.lst e1 (RepL.dp ds hp.1 l1)) ry
      obtain ⟨bs, b1⟩ := rd_of I (RepD.dp dx hp.2 r1) rx
      refine SeqAt.notIn_list_data a1 b1 (plain_pyL ds) (plain_py dx) (by rw [depth_pyL, depth_py]; omega) ?_
      rw [any_eqv]
      exact ⟨.bl _, H, I, rfl, fin_val h.2 sm⟩
    · split at hb <;> cases hb
      rename_i kvs hm _ k hk
      obtain ⟨us, e1, l1⟩ := sm _ _ hm
      have ex := key_rep hk r1
      subst ex
      obtain rfl : u = Value.ref _ := ry
      refine d_notIn (o := valV us k) (by omega) I (DGet.k e1) rx fun s' I' => ⟨.bl _, H, I', rfl, ?_⟩
      rw [l1.isSome k]
      exact fin_val h.2 sm
    · split at hb <;> cases hb
      rename_i kvs hm _ k hk
      obtain ⟨ob, us, e1, l1⟩ := sm _ _ hm
      have ex := key_rep hk r1
      subst ex
      obtain rfl : u = Value.ref _ := ry
      refine d_notIn (o := valV us k) (by omega) I (.inl ⟨us, k, .inr ⟨ob, e1⟩, rfl, rfl⟩) rx fun s' I' => ⟨.bl _, H, I', rfl, ?_⟩
      rw [l1.isSome k]
      exact fin_val h.2 sm
    · cases hb
  · cases hb
end
end PL

namespace PL
open PySem PySem.Spec PyProof.Rows L2

/-! names, constants -/
def dVar (i : Nat) : DE := fun env M Q _ => match env[i]? with
  | some (some d) => Q d M
  | _ => False
def dC (d : D) : DE := fun _ M Q _ => Q d M
theorem dC_mono {d : D} : MonoE (dC d) := fun _ _ _ _ _ _ hQ _ h => hQ _ _ h
section
variable {X : Cx} {W : WX} {pos : Pos}
theorem xe_var (i : Nat) {x : Str} (hN : X.N[i]? = some x := by rfl) (hv : Vis X.env.scope x := by first | exact Or.inl rfl | exact Or.inr (Or.inl rfl) | exact Or.inr (Or.inr rfl)) (hd : (x == ("__debug__" : Str)) = false := by decide)
    (hcd : (x == ("__classdict__" : Str)) = false := by decide) : XE X W (.Name x pos) (dVar i) := by
  refine ⟨fun env M Q Q' E E' hQ hE h => ?_, PEw (pe_var hN hv hd hcd) ?_⟩
  · unfold dVar at h ⊢
    split at h
    · exact hQ _ _ h
    · exact h
  · rintro σ H Q ⟨env, M, re, s, h⟩
    unfold dVar at h
    split at h
    · rename_i d e
      obtain ⟨u, h1, h2⟩ := re.2 i d e
      exact ⟨u, h1, fin_rep h s h2⟩
    · exact h.elim
theorem xe_const {e : Expr} {x : V} (h : PE X e (tC x)) : XE X W e (dC (.v x)) := by
  refine ⟨dC_mono, PEw h ?_⟩
  rintro σ H Q ⟨env, M, re, s, h⟩
  exact fin_val h s
theorem xe_int {i j} : XE X W (.Constant (.int i) j pos) (dC (.int i)) := xe_const pe_int
theorem xe_str {x j} : XE X W (.Constant (.str x) j pos) (dC (.str x)) := xe_const pe_str
theorem xe_bl {b j} : XE X W (.Constant (.bool b) j pos) (dC (.bl b)) := xe_const pe_bl
theorem xe_non {j} : XE X W (.Constant .none j pos) (dC .non) := xe_const pe_non
theorem xe_glob {x : Str} {v : V} {u : Value} (hg : Gl X x) (hm : X.mg x = some u) (r : RelV v u) (hd : (x == ("__debug__" : Str)) = false := by decide) : XE X W (.Name x pos) (dC (.v v)) := xe_const (pe_glob hg hm r hd)
theorem xe_bltn {x : Str} {v : V} {u : Value} (hg : Gl X x) (hm : X.mg x = none) (hv : bootBuiltins x = some u) (r : RelV v u) (hn : x ≠ "__name__" := by decide) (hd : (x == ("__debug__" : Str)) = false := by decide) : XE X W (.Name x pos) (dC (.v v)) :=
  xe_const (pe_bltn hg hm hv r hn hd)
/-- a constant tuple of the module -/
theorem xe_globT {x : Str} {a : Addr} {ds : List D} (hg : Gl X x) (hm : X.mg x = some (.ref a)) (r : ∀ H, RepD X.K H (.tup ds) (.ref a)) (hd : (x == ("__debug__" : Str)) = false := by decide) : XE X W (.Name x pos) (dC (.tup ds)) := by
  refine ⟨dC_mono, PEw (pe_glob (v := .ref a) hg hm rfl hd) ?_⟩
  rintro σ H Q ⟨env, M, re, s, h⟩
  exact fin_rep h s (r H)
end

/-! one-place operations, truth -/
def truth (M : Mem) : D → Option Bool
  | .v .non => some false
  | .v (.bl b) => some b
  | .v (.int i) => some (i != 0)
  | .v (.str x) => if x.length ≤ sizeLine then some ((x.length : Int) != 0) else none
  | .tup ds => some (!ds.isEmpty)
  | .v (.ref a) => match M a with
    | some (.lst ds) => some (!ds.isEmpty)
    | some (.rol ds) => some (!ds.isEmpty)
    | some (.dk kvs) => some (!kvs.isEmpty)
    | _ => none
  | _ => none
theorem RepL.isEmpty {K : PySem.W.Frag} {H : Hp} {ds : List D} {us : List V} (h : RepL K H ds us) : us.isEmpty = ds.isEmpty := by
  have := h.length
  cases ds <;> cases us <;> simp_all
theorem RepKV.length {κ : Type} {K : PySem.W.Frag} {H : Hp} : ∀ {kvs : List (κ × D)} {us : List (κ × V)}, RepKV K H kvs us → us.length = kvs.length
  | [], _, h => by unfold RepKV at h; rw [h]; rfl
  | (k, d) :: r, _, h => by
    obtain ⟨u, t, rfl, q, z⟩ := h
    simp [RepKV.length z]
theorem RepKV.isEmpty {κ : Type} {K : PySem.W.Frag} {H : Hp} {kvs : List (κ × D)} {us : List (κ × V)} (h : RepKV K H kvs us) : us.isEmpty = kvs.isEmpty := by
  have := h.length
  cases kvs <;> cases us <;> simp_all
theorem truth_v {K : PySem.W.Frag} {H : Hp} {M : Mem} (s : Sim K H M) {d : D} {u : V} {b : Bool} (r : RepD K H d u) (h : truth M d = some b) : TruV K u H b := by
  unfold truth at h
  split at h
  · cases h; rw [rep_v r]; rfl
  · cases h; rw [rep_v r]; rfl
  · cases h; rw [rep_v r]; rfl
  · split at h <;> cases h
    rw [rep_v r]
    exact ⟨by assumption, rfl⟩
  · cases h
    obtain ⟨a, us, rfl, q, l⟩ := rep_tup r
    exact .inr (.inl ⟨us, q, by rw [l.isEmpty]⟩)
  · rw [rep_v r]
    split at h
    · cases h
      rename_i hm
      obtain ⟨us, e, l⟩ := s _ _ hm
      exact .inl ⟨us, SqL.of e, by rw [l.isEmpty]⟩
    · cases h
      rename_i hm
      obtain ⟨o, us, e, l⟩ := s _ _ hm
      exact .inl ⟨us, .inl (.inr ⟨o, e⟩), by rw [l.isEmpty]⟩
    · cases h
      rename_i hm
      obtain ⟨us, e, l⟩ := s _ _ hm
      exact .inr (.inr ⟨us, e, by rw [l.isEmpty]⟩)
    · cases h
  · cases h

def dTruth (t : DE) : DT := fun env M Q E => t env M (fun d M1 => match truth M1 d with
  | some b => Q b M1
  | none => False) E
theorem dTruth_mono {t : DE} (h : MonoE t) : MonoT (dTruth t) := fun env M Q Q' E E' hQ hE => h env M _ _ _ _ (fun d M1 => by
  show (match truth M1 d with | some b => Q b M1 | none => False) → (match truth M1 d with | some b => Q' b M1 | none => False)
  cases truth M1 d with
  | none => exact id
  | some b => exact hQ b M1) hE
def dAnd (t u : DT) : DT := fun env M Q E => t env M (fun b M1 => if b = true then u env M1 Q E else Q false M1) E
def dOr (t u : DT) : DT := fun env M Q E => t env M (fun b M1 => if b = true then Q true M1 else u env M1 Q E) E
def dNot (t : DT) : DT := fun env M Q E => t env M (fun b M1 => Q (!b) M1) E
def dIf (t : DT) (ta tb : DE) : DE := fun env M Q E => t env M (fun b M1 => if b = true then ta env M1 Q E else tb env M1 Q E) E
def dAndV (ta tb : DE) : DE := fun env M Q E => ta env M (fun d M1 => match truth M1 d with
  | some true => tb env M1 Q E
  | some false => Q d M1
  | none => False) E
def dOrV (ta tb : DE) : DE := fun env M Q E => ta env M (fun d M1 => match truth M1 d with
  | some true => Q d M1
  | some false => tb env M1 Q E
  | none => False) E
def dNotV (ta : DE) : DE := fun env M Q E => ta env M (fun d M1 => match truth M1 d with
  | some b => Q (.bl (!b)) M1
  | none => False) E
theorem dAnd_mono {t u : DT} (h : MonoT t) (g : MonoT u) : MonoT (dAnd t u) := fun env M Q Q' E E' hQ hE => h env M _ _ _ _ (fun b M1 => by
  cases b with
  | true => rw [if_pos rfl, if_pos rfl]; exact g env M1 _ _ _ _ hQ hE
  | false => rw [if_neg Bool.false_ne_true, if_neg Bool.false_ne_true]; exact hQ false M1) hE
theorem dOr_mono {t u : DT} (h : MonoT t) (g : MonoT u) : MonoT (dOr t u) := fun env M Q Q' E E' hQ hE => h env M _ _ _ _ (fun b M1 => by
  cases b with
  | true => rw [if_pos rfl, if_pos rfl]; exact hQ true M1
  | false => rw [if_neg Bool.false_ne_true, if_neg Bool.false_ne_true]; exact g env M1 _ _ _ _ hQ hE) hE
theorem dNot_mono {t : DT} (h : MonoT t) : MonoT (dNot t) := fun env M Q Q' E E' hQ hE => h env M _ _ _ _ (fun b M1 => hQ (!b) M1) hE
theorem dIf_mono {t : DT} {ta tb : DE} (h : MonoT t) (ha : MonoE ta) (hb : MonoE tb) : MonoE (dIf t ta tb) := fun env M Q Q' E E' hQ hE => h env M _ _ _ _ (fun b M1 => by
  cases b with
  | true => rw [if_pos rfl, if_pos rfl]; exact ha env M1 _ _ _ _ hQ hE
  | false => rw [if_neg Bool.false_ne_true, if_neg Bool.false_ne_true]; exact hb env M1 _ _ _ _ hQ hE) hE
theorem dAndV_mono {ta tb : DE} (ha : MonoE ta) (hb : MonoE tb) : MonoE (dAndV ta tb) := fun env M Q Q' E E' hQ hE => ha env M _ _ _ _ (fun d M1 => by
  show (match truth M1 d with | some true => tb env M1 Q E | some false => Q d M1 | none => False) → (match truth M1 d with | some true => tb env M1 Q' E' | some false => Q' d M1 | none => False)
  cases truth M1 d with
  | none => exact id
  | some b => cases b with
    | true => exact hb env M1 _ _ _ _ hQ hE
    | false => exact hQ d M1) hE
theorem dOrV_mono {ta tb : DE} (ha : MonoE ta) (hb : MonoE tb) : MonoE (dOrV ta tb) := fun env M Q Q' E E' hQ hE => ha env M _ _ _ _ (fun d M1 => by
  show (match truth M1 d with | some true => Q d M1 | some false => tb env M1 Q E | none => False) → (match truth M1 d with | some true => Q' d M1 | some false => tb env M1 Q' E' | none => False)
  cases truth M1 d with
  | none => exact id
  | some b => cases b with
    | true => exact hQ d M1
    | false => exact hb env M1 _ _ _ _ hQ hE) hE
theorem dNotV_mono {ta : DE} (ha : MonoE ta) : MonoE (dNotV ta) := fun env M Q Q' E E' hQ hE => ha env M _ _ _ _ (fun d M1 => by
  show (match truth M1 d with | some b => Q (.bl (!b)) M1 | none => False) → (match truth M1 d with | some b => Q' (.bl (!b)) M1 | none => False)
  cases truth M1 d with
  | none => exact id
  | some b => exact hQ _ M1) hE

section
variable {X : Cx} {W : WX} {a b c : Expr} {rest : List Expr} {ta tb : DE} {t u : DT} {pos : Pos}
/-- a test by its value's truth -/
theorem xt_val (h : XE X W a ta) (he : ∀ whole, isTrue a X.env whole = (do let v ← whole; standAt a.pos; holding [v] (truthy v)) := by intro _; rfl) : XT X W a (dTruth ta) := by
  refine ⟨dTruth_mono h.mono, PTw (pt_truth h.pe he) ?_⟩
  rintro σ H Q ⟨env, M, re, s, q⟩
  refine stepE h.mono re s q (fun d M1 u H1 e1 s1 re1 r1 h1 => ?_) fun _ _ _ z => z
  show ∃ k, _
  split at h1
  · rename_i b hb
    exact ⟨b, truth_v s1 r1 hb, h1 H1 e1 s1⟩
  · exact h1.elim
theorem xt_cmp {op : CmpOp} {r : DOp2} (ho : XOp X (compareOp op) r) (ha : XE X W a ta) (hb : XE X W b tb) (hm : behindInMarks op b = false)
    (hB : ∀ x y M Q, (r x y M).run M Q → (r x y M).run M fun d M' => (∃ k, d = .bl k) ∧ Q d M') : XT X W (.Compare a [op] [b] pos) (dTruth (dBin r ta tb)) := by
  refine ⟨dTruth_mono (dBin_mono ha.mono hb.mono), PTw (pt_cmpR ho ha.pe hb.pe hm) ?_⟩
  rintro σ H Q ⟨env, M, re, s, q⟩
  have q' : dBin r ta tb env M (fun d M1 => (∃ k, d = D.bl k) ∧ match truth M1 d with
      | some b => ∀ H', Ext X.K H H' → Sim X.K H' M1 → Q b H'
      | none => False) (upX X.K W H σ) := ha.mono env M _ _ _ _ (fun x M1 h1 => hb.mono env M1 _ _ _ _ (fun y M2 h2 => hB _ _ _ _ h2) (fun _ _ _ z => z) h1) (fun _ _ _ z => z) q
  show tOp _ _ _ _ _ _
  refine bin_up ha hb (fun _ _ _ _ h => h) σ H _ ⟨env, M, re, s, dBin_mono ha.mono hb.mono env M _ _ _ _ (fun d M1 h1 u H1 e1 s1 r1 => ?_) (fun _ _ _ z => z) q'⟩
  obtain ⟨⟨k, rfl⟩, h1⟩ := h1
  rw [rep_v r1]
  exact ⟨k, rfl, h1 H1 e1 s1⟩
theorem bl_eq : ∀ x y M Q, (opEq x y M).run M Q → (opEq x y M).run M fun d M' => (∃ k, d = .bl k) ∧ Q d M' := fun x y M Q h => by
  unfold opEq at h ⊢
  split at h
  · exact ⟨h.1, ⟨_, rfl⟩, h.2⟩
  · exact h.elim
theorem bl_ne : ∀ x y M Q, (opNe x y M).run M Q → (opNe x y M).run M fun d M' => (∃ k, d = .bl k) ∧ Q d M' := fun x y M Q h => by
  unfold opNe at h ⊢
  split at h
  · exact ⟨h.1, ⟨_, rfl⟩, h.2⟩
  · exact h.elim
theorem bl_lt : ∀ x y M Q, (opLt x y M).run M Q → (opLt x y M).run M fun d M' => (∃ k, d = .bl k) ∧ Q d M' := fun x y M Q h => by
  unfold opLt at h ⊢
  split at h <;> first | exact h.elim | exact ⟨h.1, ⟨_, rfl⟩, h.2⟩
theorem bl_le : ∀ x y M Q, (opLe x y M).run M Q → (opLe x y M).run M fun d M' => (∃ k, d = .bl k) ∧ Q d M' := fun x y M Q h => by
  unfold opLe at h ⊢
  split at h <;> first | exact h.elim | exact ⟨h.1, ⟨_, rfl⟩, h.2⟩
theorem bl_gt : ∀ x y M Q, (opGt x y M).run M Q → (opGt x y M).run M fun d M' => (∃ k, d = .bl k) ∧ Q d M' := fun x y M Q h => by
  unfold opGt at h ⊢
  split at h <;> first | exact h.elim | exact ⟨h.1, ⟨_, rfl⟩, h.2⟩
theorem bl_ge : ∀ x y M Q, (opGe x y M).run M Q → (opGe x y M).run M fun d M' => (∃ k, d = .bl k) ∧ Q d M' := fun x y M Q h => by
  unfold opGe at h ⊢
  split at h <;> first | exact h.elim | exact ⟨h.1, ⟨_, rfl⟩, h.2⟩
theorem bl_is : ∀ x y M Q, (opIs x y M).run M Q → (opIs x y M).run M fun d M' => (∃ k, d = .bl k) ∧ Q d M' := fun x y M Q h => by
  unfold opIs at h ⊢
  split at h <;> first | exact h.elim | exact ⟨h.1, ⟨_, rfl⟩, h.2⟩
theorem bl_isnot : ∀ x y M Q, (opIsNot x y M).run M Q → (opIsNot x y M).run M fun d M' => (∃ k, d = .bl k) ∧ Q d M' := fun x y M Q h => by
  unfold opIsNot at h ⊢
  split at h <;> first | exact h.elim | exact ⟨h.1, ⟨_, rfl⟩, h.2⟩
theorem bl_in : ∀ x y M Q, (opIn x y M).run M Q → (opIn x y M).run M fun d M' => (∃ k, d = .bl k) ∧ Q d M' := fun x y M Q h => by
  unfold opIn at h ⊢
  split at h
  · exact ⟨h.1, ⟨_, rfl⟩, h.2⟩
  · exact h.elim
theorem bl_notin : ∀ x y M Q, (opNotIn x y M).run M Q → (opNotIn x y M).run M fun d M' => (∃ k, d = .bl k) ∧ Q d M' := fun x y M Q h => by
  unfold opNotIn at h ⊢
  split at h
  · exact ⟨h.1, ⟨_, rfl⟩, h.2⟩
  · exact h.elim
theorem stepB {K : PySem.W.Frag} {t : DT} {σ : L2.St} {H : Hp} {env : DEnv} {M : Mem} {Q : Bool → Hp → Prop} (re : RepE K H env σ) (s : Sim K H M) (h : t env M (fun b M' => ∀ H', Ext K H H' → Sim K H' M' → Q b H') (upX K W H σ)) : liftT K W t σ H Q := ⟨env, M, re, s, h⟩
theorem xt_wh (h : XW X W a t) : XT X W a t := ⟨h.mono, h.pw.pt⟩
theorem xw_and1 (h : XT X W a t) : XW X W (.BoolOp .And [a] pos) t := ⟨h.mono, pw_and1 h.pt⟩
theorem xw_or1 (h : XT X W a t) : XW X W (.BoolOp .Or [a] pos) t := ⟨h.mono, pw_or1 h.pt⟩
theorem upT_mono {K : PySem.W.Frag} {H H1 : Hp} {Q : Bool → Hp → Prop} (e : Ext K H H1) : ∀ b M1, (∀ H', Ext K H H' → Sim K H' M1 → Q b H') → ∀ H', Ext K H1 H' → Sim K H' M1 → Q b H' := fun b M1 q H' e' s => q H' (e.trans e') s
theorem xw_and (ha : XT X W a t) (hb : XW X W (.BoolOp .And (b :: rest) pos) u) : XW X W (.BoolOp .And (a :: b :: rest) pos) (dAnd t u) := by
  refine ⟨dAnd_mono ha.mono hb.mono, PWw (pw_and ha.pt hb.pw) ?_⟩
  rintro σ H Q ⟨env, M, re, s, h⟩
  refine stepT ha.mono re s h (fun c M1 H1 e1 s1 re1 h1 => ?_) fun _ _ _ z => z
  cases c with
  | true =>
    rw [if_pos rfl] at h1 ⊢
    exact stepB re1 s1 (hb.mono _ _ _ _ _ _ (upT_mono e1) (upX_mono e1) h1)
  | false =>
    rw [if_neg Bool.false_ne_true] at h1 ⊢
    exact h1 H1 e1 s1
theorem xw_or (ha : XT X W a t) (hb : XW X W (.BoolOp .Or (b :: rest) pos) u) : XW X W (.BoolOp .Or (a :: b :: rest) pos) (dOr t u) := by
  refine ⟨dOr_mono ha.mono hb.mono, PWw (pw_or ha.pt hb.pw) ?_⟩
  rintro σ H Q ⟨env, M, re, s, h⟩
  refine stepT ha.mono re s h (fun c M1 H1 e1 s1 re1 h1 => ?_) fun _ _ _ z => z
  cases c with
  | true =>
    rw [if_pos rfl] at h1 ⊢
    exact h1 H1 e1 s1
  | false =>
    rw [if_neg Bool.false_ne_true] at h1 ⊢
    exact stepB re1 s1 (hb.mono _ _ _ _ _ _ (upT_mono e1) (upX_mono e1) h1)
theorem xt_not (ha : XT X W a t) : XT X W (.UnaryOp .Not a pos) (dNot t) := by
  refine ⟨dNot_mono ha.mono, PTw (pt_not ha.pt) ?_⟩
  rintro σ H Q ⟨env, M, re, s, h⟩
  exact stepT ha.mono re s h (fun c M1 H1 e1 s1 re1 h1 => h1 H1 e1 s1) fun _ _ _ z => z
theorem xe_if (hc : XT X W c t) (ha : XE X W a ta) (hb : XE X W b tb) : XE X W (.IfExp c a b pos) (dIf t ta tb) := by
  refine ⟨dIf_mono hc.mono ha.mono hb.mono, PEw (pe_ifExp hc.pt ha.pe hb.pe) ?_⟩
  rintro σ H Q ⟨env, M, re, s, h⟩
  refine stepT hc.mono re s h (fun c M1 H1 e1 s1 re1 h1 => ?_) fun _ _ _ z => z
  cases c with
  | true =>
    rw [if_pos rfl] at h1 ⊢
    exact ⟨env, M1, re1, s1, ha.mono _ _ _ _ _ _ (upK_mono e1) (upX_mono e1) h1⟩
  | false =>
    rw [if_neg Bool.false_ne_true] at h1 ⊢
    exact ⟨env, M1, re1, s1, hb.mono _ _ _ _ _ _ (upK_mono e1) (upX_mono e1) h1⟩
theorem xe_one {op} (h : XE X W a ta) : XE X W (.BoolOp op [a] pos) ta := ⟨h.mono, pe_one h.pe⟩
theorem xe_and (ha : XE X W a ta) (hb : XE X W (.BoolOp .And (b :: rest) pos) tb) : XE X W (.BoolOp .And (a :: b :: rest) pos) (dAndV ta tb) := by
  refine ⟨dAndV_mono ha.mono hb.mono, PEw (pe_andT ha.pe hb.pe) ?_⟩
  rintro σ H Q ⟨env, M, re, s, h⟩
  refine stepE ha.mono re s h (fun d M1 u H1 e1 s1 re1 r1 h1 => ?_) fun _ _ _ z => z
  split at h1
  · rename_i hb'
    refine ⟨true, truth_v s1 r1 hb', ?_⟩
    rw [if_pos rfl]
    exact ⟨env, M1, re1, s1, hb.mono _ _ _ _ _ _ (upK_mono e1) (upX_mono e1) h1⟩
  · rename_i hb'
    refine ⟨false, truth_v s1 r1 hb', ?_⟩
    rw [if_neg Bool.false_ne_true]
    exact h1 u H1 e1 s1 r1
  · exact h1.elim
theorem xe_or (ha : XE X W a ta) (hb : XE X W (.BoolOp .Or (b :: rest) pos) tb) : XE X W (.BoolOp .Or (a :: b :: rest) pos) (dOrV ta tb) := by
  refine ⟨dOrV_mono ha.mono hb.mono, PEw (pe_orT ha.pe hb.pe) ?_⟩
  rintro σ H Q ⟨env, M, re, s, h⟩
  refine stepE ha.mono re s h (fun d M1 u H1 e1 s1 re1 r1 h1 => ?_) fun _ _ _ z => z
  split at h1
  · rename_i hb'
    refine ⟨true, truth_v s1 r1 hb', ?_⟩
    rw [if_pos rfl]
    exact h1 u H1 e1 s1 r1
  · rename_i hb'
    refine ⟨false, truth_v s1 r1 hb', ?_⟩
    rw [if_neg Bool.false_ne_true]
    exact ⟨env, M1, re1, s1, hb.mono _ _ _ _ _ _ (upK_mono e1) (upX_mono e1) h1⟩
  · exact h1.elim
theorem xe_not (ha : XE X W a ta) : XE X W (.UnaryOp .Not a pos) (dNotV ta) := by
  refine ⟨dNotV_mono ha.mono, PEw (pe_notT ha.pe) ?_⟩
  rintro σ H Q ⟨env, M, re, s, h⟩
  refine stepE ha.mono re s h (fun d M1 u H1 e1 s1 re1 r1 h1 => ?_) fun _ _ _ z => z
  split at h1
  · rename_i b hb'
    exact ⟨b, truth_v s1 r1 hb', fin_val (fun u H' e s' r => h1 u H' (e1.trans e) s' r) s1⟩
  · exact h1.elim
end

/-! -x -/
def dNeg (ta : DE) : DE := fun env M Q E => ta env M (fun d M1 => match d with
  | .v (.int i) => Q (.int (-i)) M1
  | _ => False) E
theorem xe_neg {X : Cx} {W : WX} {a : Expr} {ta : DE} {pos : Pos} (ha : XE X W a ta) : XE X W (.UnaryOp .USub a pos) (dNeg ta) := by
  refine ⟨fun env M Q Q' E E' hQ hE => ha.mono env M _ _ _ _ (fun d M1 => ?_) hE, PEw (pe_un un_neg ha.pe) ?_⟩
  · cases d with
    | tup _ => exact id
    | v x => cases x <;> first | exact id | exact hQ _ _
  · rintro σ H Q ⟨env, M, re, s, h⟩
    refine stepE ha.mono re s h (fun d M1 u H1 e1 s1 re1 r1 h1 => ?_) fun _ _ _ z => z
    split at h1
    · rw [rep_v r1]
      exact ⟨_, rfl, fin_val (fun u H' e s' r => h1 u H' (e1.trans e) s' r) s1⟩
    · exact h1.elim

/-! argument lists, displays -/
def dNil : DA := fun _ M Q _ => Q [] M
def dCons (ta : DE) (tr : DA) : DA := fun env M Q E => ta env M (fun d M1 => tr env M1 (fun ds M2 => Q (d :: ds) M2) E) E
theorem dCons_mono {ta : DE} {tr : DA} (h : MonoE ta) (g : MonoA tr) : MonoA (dCons ta tr) := fun env M Q Q' E E' hQ hE =>
  h env M _ _ _ _ (fun d M1 => g env M1 _ _ _ _ (fun ds M2 => hQ (d :: ds) M2) hE) hE
theorem upA_mono {K : PySem.W.Frag} {H H1 : Hp} {Q : List V → Hp → Prop} (e : Ext K H H1) : ∀ ds M1, (∀ us H', Ext K H H' → Sim K H' M1 → RepL K H' ds us → Q us H') → ∀ us H', Ext K H1 H' → Sim K H' M1 → RepL K H' ds us → Q us H' :=
  fun ds M1 q us H' e' s r => q us H' (e.trans e') s r
section
variable {X : Cx} {W : WX} {e : Expr} {es : List Expr} {te : DE} {t : DA} {pos : Pos}
theorem xa_nil : XA X W [] dNil := by
  refine ⟨fun _ _ _ _ _ _ hQ _ h => hQ _ _ h, PAw pa_nil ?_⟩
  rintro σ H Q ⟨env, M, re, s, h⟩
  exact h [] H Ext.refl s .nil
theorem xa_cons (ha : XE X W e te) (hr : XA X W es t) (hs : starEach (e :: es) X.env = (false, eval e X.env) :: starEach es X.env := by rfl) : XA X W (e :: es) (dCons te t) := by
  refine ⟨dCons_mono ha.mono hr.mono, PAw (pa_cons ha.pe hr.pa hs) ?_⟩
  rintro σ H Q ⟨env, M, re, s, h⟩
  refine stepE ha.mono re s h (fun d M1 u H1 e1 s1 re1 r1 h1 => ?_) fun _ _ _ z => z
  refine stepA hr.mono re1 s1 h1 (fun ds M2 us H2 e2 s2 re2 r2 h2 => ?_) (upX_mono e1)
  exact h2 (u :: us) H2 (e1.trans e2) s2 (.cons (RepD.mono e2 _ r1) r2)
def dTup (n : Nat) (t : DA) : DE := fun env M Q E => t env M (fun ds M1 => ds.length = n ∧ Q (.tup ds) M1) E
def dLst (n : Nat) (t : DA) : DE := fun env M Q E => t env M (fun ds M1 => ds.length = n ∧ ∀ p, M1 p = none → Q (.ob p) (mupd M1 p (.lst ds))) E
theorem xe_tup {x1} {n : Nat} (h : XA X W es t) (hn : n ≤ sizeLine := by decide) : XE X W (.Tuple es x1 pos) (dTup n t) := by
  refine ⟨fun env M Q Q' E E' hQ hE => h.mono env M _ _ _ _ (fun ds M1 q => ⟨q.1, hQ _ _ q.2⟩) hE, PEw (pe_tup h.pa) ?_⟩
  rintro σ H Q ⟨env, M, re, s, q⟩
  refine stepA h.mono re s q (fun ds M1 us H1 e1 s1 re1 r1 h1 => ?_) fun _ _ _ z => z
  exact ⟨by rw [r1.length, h1.1]; exact hn, fun p hp => fin_tup (upK_mono e1 _ _ h1.2) s1 hp r1⟩
theorem xe_lst {n : Nat} (h : XA X W es t) (hn : n ≤ sizeLine := by decide) : XE X W (.List es pos) (dLst n t) := by
  refine ⟨fun env M Q Q' E E' hQ hE => h.mono env M _ _ _ _ (fun ds M1 q => ⟨q.1, fun p hp => hQ _ _ (q.2 p hp)⟩) hE, PEw (pe_lst h.pa) ?_⟩
  rintro σ H Q ⟨env, M, re, s, q⟩
  refine stepA h.mono re s q (fun ds M1 us H1 e1 s1 re1 r1 h1 => ?_) fun _ _ _ z => z
  exact ⟨by rw [r1.length, h1.1]; exact hn, fun p hp => fin_lst (fun p hp => upK_mono e1 _ _ (h1.2 p hp)) s1 hp r1⟩
end

/-! subscripts -/
def opIx : DOp2
  | .tup ds, .v (.int i), _ => match atI ds i with
    | some d => .val True d
    | none => .bad
  | .v (.str z), .v (.int i), _ => match atI z.cps.toList i with
    | some c => .val (z.length ≤ sizeLine) (.str ⟨#[c]⟩)
    | none => .bad
  | .v (.ref a), y, M => match M a with
    | some (.lst ds) => match y with
      | .v (.int i) => match atI ds i with
        | some d => .val True d
        | none => .bad
      | _ => .bad
    | some (.rol ds) => match y with
      | .v (.int i) => match atI ds i with
        | some d => .val True d
        | none => .bad
      | _ => .bad
    | some (.dk kvs) => match y.key with
      | some k => match look kvs k with
        | some d => .val True d
        | none => .bad
      | none => .bad
    | some (.rdk kvs) => match y.key with
      | some k => match look kvs k with
        | some d => .val True d
        | none => .bad
      | none => .bad
    | _ => .bad
  | _, _, _ => .bad
theorem RepL.atI {K : PySem.W.Frag} {H : Hp} {ds : List D} {us : List V} {i : Int} {d : D} (r : RepL K H ds us) (h : L2.atI ds i = some d) : ∃ u, L2.atI us i = some u ∧ RepD K H d u := by
  unfold L2.atI at h ⊢
  rw [r.length]
  cases q : ixN ds.length i with
  | none => rw [q] at h; cases h
  | some j =>
    rw [q] at h
    exact r.get h
section
variable {X : Cx}
theorem ix_dict (hu : X.A.units + 200 < cLine) : IxR X (fun x y H Q => ∃ a kvs k v, x = .ref a ∧ Rd H a (.dK kvs) ∧ y = kV k ∧ valV kvs k = some v ∧ Q v H) := by
  intro value slice pins s σ H x y v u Q I rx ry h hs
  obtain ⟨a, kvs, k, w', rfl, e, rfl, ev, q⟩ := h
  obtain rfl : v = Value.ref a := rx
  have g : DGet H a (kV k) (some w') := .inl ⟨kvs, k, e, rfl, ev.symm⟩
  exact tail_any (dict_typeIs I g) PySem.F.slot_dict_getitem.lookup (d_getItem (by omega) I g ry fun w2 s3 I3 rw' => ⟨w', H, I3, rw', q⟩) hs
theorem x_ix (hu : X.A.units + 200 < cLine) : IxR X (upR2 X.K opIx) := by
  rintro value slice pins s σ H x y v u Q I rx ry ⟨dx, dy, M, r1, r2, sm, h⟩ hs
  unfold opIx at h
  split at h <;> first | exact h.elim | skip
  · split at h <;> first | exact h.elim | skip
    rename_i d hd
    obtain ⟨a, us, rfl, q1, l1⟩ := rep_tup r1
    obtain ⟨w', e1, e2⟩ := l1.atI hd
    rw [rep_v r2] at ry
    exact ix_tup value slice pins s σ H _ _ v u Q I rx ry ⟨_, _, _, _, rfl, rfl, q1, e1, fin_rep h.2 sm e2⟩ hs
  · split at h <;> first | exact h.elim | skip
    rename_i c hc
    rw [rep_v r1] at rx; rw [rep_v r2] at ry
    exact ix_str value slice pins s σ H _ _ v u Q I rx ry ⟨_, _, _, rfl, rfl, h.1, hc, fin_val h.2 sm⟩ hs
  · rw [rep_v r1] at rx
    split at h <;> first | exact h.elim | skip
    · rename_i ds hm
      split at h <;> first | exact h.elim | skip
      split at h <;> first | exact h.elim | skip
      rename_i d hd
      obtain ⟨us, q1, l1⟩ := sm.seq (.inl hm)
      obtain ⟨w', e1, e2⟩ := l1.atI hd
      rw [rep_v r2] at ry
      exact ix_list value slice pins s σ H _ _ v u Q I rx ry ⟨_, _, _, _, rfl, rfl, q1, e1, fin_rep h.2 sm e2⟩ hs
    · rename_i ds hm
      split at h <;> first | exact h.elim | skip
      split at h <;> first | exact h.elim | skip
      rename_i d hd
      obtain ⟨us, q1, l1⟩ := sm.seq (.inr hm)
      obtain ⟨w', e1, e2⟩ := l1.atI hd
      rw [rep_v r2] at ry
      exact ix_list value slice pins s σ H _ _ v u Q I rx ry ⟨_, _, _, _, rfl, rfl, q1, e1, fin_rep h.2 sm e2⟩ hs
    · rename_i kvs hm
      split at h <;> first | exact h.elim | skip
      rename_i k hk
      split at h <;> first | exact h.elim | skip
      rename_i d hd
      obtain ⟨us, q1, l1⟩ := sm _ _ hm
      have hl := l1.look k
      rw [hd] at hl
      have ey := key_rep hk r2
      subst ey
      cases hv : valV us k with
      | none => rw [hv] at hl; exact hl.elim
      | some w' =>
        rw [hv] at hl
        exact ix_dict hu value slice pins s σ H _ _ v u Q I rx ry ⟨_, _, _, _, rfl, .inl q1, rfl, hv, fin_rep h.2 sm hl⟩ hs
    · rename_i kvs hm
      split at h <;> first | exact h.elim | skip
      rename_i k hk
      split at h <;> first | exact h.elim | skip
      rename_i d hd
      obtain ⟨ob, us, q1, l1⟩ := sm _ _ hm
      have hl := l1.look k
      rw [hd] at hl
      have ey := key_rep hk r2
      subst ey
      cases hv : valV us k with
      | none => rw [hv] at hl; exact hl.elim
      | some w' =>
        rw [hv] at hl
        exact ix_dict hu value slice pins s σ H _ _ v u Q I rx ry ⟨_, _, _, _, rfl, .inr ⟨ob, q1⟩, rfl, hv, fin_rep h.2 sm hl⟩ hs
theorem xe_ix {W : WX} {a b : Expr} {ta tb : DE} {pos : Pos} (hu : X.A.units + 200 < cLine) (ha : XE X W a ta) (hb : XE X W b tb) (hs : PlainIx b := by intro _ _; rfl) : XE X W (.Subscript a b pos) (dBin opIx ta tb) :=
  ⟨dBin_mono ha.mono hb.mono, PEw (pe_ix (x_ix hu) ha.pe hb.pe hs) (bin_up ha hb fun _ _ _ _ h => h)⟩
end

/-! slices -/
abbrev DO := DEnv → Mem → (Option Int → Mem → Prop) → DX → Prop
def dNoPart : DO := fun _ M Q _ => Q none M
def dPart (t : DE) : DO := fun env M Q E => t env M (fun d M1 => match d with
  | .v (.int i) => Q (some i) M1
  | _ => False) E
def MonoO (t : DO) : Prop := ∀ env M (Q Q' : Option Int → Mem → Prop) (E E' : DX), (∀ d M, Q d M → Q' d M) → (∀ c f M, E c f M → E' c f M) → t env M Q E → t env M Q' E'
def liftO (K : PySem.W.Frag) (W : WX) (t : DO) : TO := fun σ H Q => ∃ env M, RepE K H env σ ∧ Sim K H M ∧ t env M (fun b M' => ∀ H', Ext K H H' → Sim K H' M' → Q b H') (upX K W H σ)
structure XO (X : Cx) (W : WX) (e : Option Expr) (t : DO) : Prop where
  mono : MonoO t
  po : PO X e (liftO X.K W t)
theorem POw {X : Cx} {e : Option Expr} {t t' : TO} (h : PO X e t) (w : ∀ σ H Q, t' σ H Q → t σ H Q) : PO X e t' := ⟨fun pins s σ H Q I q => h.run pins s σ H Q I (w σ H Q q)⟩
def cutD {α : Type} (xs : List α) (lo hi : Option Int) : List α := (xs.drop (HT.sIx xs.length 0 lo)).take (HT.sIx xs.length xs.length hi - HT.sIx xs.length 0 lo)
theorem RepL.cut {K : PySem.W.Frag} {H : Hp} {ds : List D} {us : List V} (r : RepL K H ds us) (lo hi : Option Int) : RepL K H (cutD ds lo hi) (cutV us lo hi) := by
  unfold cutD cutV
  rw [r.length]
  exact (r.drop _).take _
def opSl : D → Option Int → Option Int → Mem → Res
  | .tup ds, lo, hi, _ => .val True (.tup (cutD ds lo hi))
  | .v (.str z), lo, hi, _ => .val (z.length ≤ sizeLine) (.str (cutS z lo hi))
  | .v (.ref a), lo, hi, M => match M a with
    | some (.lst ds) => .new True (.lst (cutD ds lo hi))
    | some (.rol ds) => .new True (.lst (cutD ds lo hi))
    | _ => .bad
  | _, _, _, _ => .bad
def dSl (ta : DE) (tl th : DO) : DE := fun env M Q E => ta env M (fun x M1 => tl env M1 (fun l M2 => th env M2 (fun u M3 => (opSl x l u M3).run M3 Q) E) E) E
section
variable {X : Cx} {W : WX} {e : Expr} {lo hi : Option Expr} {te : DE} {tl th : DO} {pos p2 : Pos}
theorem xo_none : XO X W none dNoPart := by
  refine ⟨fun _ _ _ _ _ _ hQ _ h => hQ _ _ h, POw po_none ?_⟩
  rintro σ H Q ⟨env, M, re, s, h⟩
  exact h H Ext.refl s
theorem xo_some (h : XE X W e te) : XO X W (some e) (dPart te) := by
  refine ⟨fun env M Q Q' E E' hQ hE => h.mono env M _ _ _ _ (fun d M1 => ?_) hE, POw (po_some h.pe) ?_⟩
  · cases d with
    | tup _ => exact id
    | v x => cases x <;> first | exact id | exact hQ _ _
  · rintro σ H Q ⟨env, M, re, s, q⟩
    refine stepE h.mono re s q (fun d M1 u H1 e1 s1 re1 r1 h1 => ?_) fun _ _ _ z => z
    split at h1
    · rw [rep_v r1]
      exact ⟨_, rfl, h1 H1 e1 s1⟩
    · exact h1.elim
theorem stepO {K : PySem.W.Frag} {t : DO} (m : MonoO t) {σ : L2.St} {H : Hp} {env : DEnv} {M : Mem} {P : Option Int → Hp → Prop} {Q : Option Int → Mem → Prop} {E : DX} (re : RepE K H env σ) (s : Sim K H M) (h : t env M Q E)
    (hq : ∀ d M1 H1, Ext K H H1 → Sim K H1 M1 → RepE K H1 env σ → Q d M1 → P d H1) (he : ∀ c f M1, E c f M1 → upX K W H σ c f M1) : liftO K W t σ H P :=
  ⟨env, M, re, s, m env M _ _ _ _ (fun d M1 q H1 e1 s1 => hq d M1 H1 e1 s1 (re.mono e1) q) he h⟩
theorem x_sl : SlR X (fun x lo hi H Q => ∃ dx M, RepD X.K H dx x ∧ Sim X.K H M ∧ (opSl dx lo hi M).run M (upK X.K H Q)) := by
  rintro pins s σ H x v vl vu lo hi sl Q I rx hs pl pu ⟨dx, M, r1, sm, h⟩
  unfold opSl at h
  split at h <;> first | exact h.elim | skip
  · rename_i ds
    obtain ⟨a, us, rfl, q1, l1⟩ := rep_tup r1
    refine sl_tupA pins s σ H _ v vl vu _ _ sl Q I rx hs pl pu ⟨a, us, rfl, q1, fun hw => ?_, fun _ p hp => fin_tup h.2 sm hp (l1.cut _ _)⟩
    refine fin_rep h.2 sm ?_
    have e : cutD ds lo hi = ds := by
      unfold cutD
      rw [← l1.length, hw.1, hw.2, l1.length]
      simp
    rw [e]
    exact r1
  · rw [rep_v r1] at rx
    exact sl_str pins s σ H _ v vl vu _ _ sl Q I rx hs pl pu ⟨_, rfl, h.1, fin_val h.2 sm⟩
  · rw [rep_v r1] at rx
    split at h <;> first | exact h.elim | skip
    · rename_i hm
      obtain ⟨us, q1, l1⟩ := sm.seq (.inl hm)
      exact sl_list pins s σ H _ v vl vu _ _ sl Q I rx hs pl pu ⟨_, us, rfl, q1, fun p hp => fin_lst h.2 sm hp (l1.cut _ _)⟩
    · rename_i hm
      obtain ⟨us, q1, l1⟩ := sm.seq (.inr hm)
      exact sl_list pins s σ H _ v vl vu _ _ sl Q I rx hs pl pu ⟨_, us, rfl, q1, fun p hp => fin_lst h.2 sm hp (l1.cut _ _)⟩
theorem xe_sl (he : XE X W e te) (hl : XO X W lo tl) (hh : XO X W hi th) : XE X W (.Subscript e (.Slice lo hi none p2) pos) (dSl te tl th) := by
  refine ⟨fun env M Q Q' E E' hQ hE => he.mono env M _ _ _ _ (fun d M1 => hl.mono env M1 _ _ _ _ (fun l M2 => hh.mono env M2 _ _ _ _ (fun u M3 => Res.mono hQ) hE) hE) hE, PEw (pe_slice x_sl he.pe hl.po hh.po) ?_⟩
  rintro σ H Q ⟨env, M, re, s, h⟩
  refine stepE he.mono re s h (fun d M1 u H1 e1 s1 re1 r1 h1 => ?_) fun _ _ _ z => z
  refine stepO hl.mono re1 s1 h1 (fun l M2 H2 e2 s2 re2 h2 => ?_) (upX_mono e1)
  refine stepO hh.mono re2 s2 h2 (fun h M3 H3 e3 s3 re3 h3 => ?_) (upX_mono (e1.trans e2))
  exact ⟨d, M3, RepD.mono (e2.trans e3) _ r1, s3, Res.mono (upK_mono ((e1.trans e2).trans e3)) h3⟩
/-- xs[::-1] of a list -/
def dRev (te : DE) : DE := fun env M Q E => te env M (fun d M1 => match d with
  | .v (.ref a) => match M1 a with
    | some (.lst ds) => ∀ p, M1 p = none → Q (.ob p) (mupd M1 p (.lst ds.reverse))
    | _ => False
  | _ => False) E
theorem RepL.reverse {K : PySem.W.Frag} {H : Hp} : ∀ {ds : List D} {us : List V}, RepL K H ds us → RepL K H ds.reverse us.reverse
  | [], _, h => by unfold RepL at h; subst h; exact .nil
  | d :: ds, _, h => by
    unfold RepL at h
    obtain ⟨u, r, rfl, q, t⟩ := h
    rw [List.reverse_cons, List.reverse_cons]
    exact RepL.append (RepL.reverse t) (.cons q .nil)
theorem xe_rev {k : Nat} {p1 p2 p3 : Pos} (he : XE X W e te) : XE X W (.Subscript e (.Slice none none (some (.UnaryOp .USub (.Constant (.int 1) k p1) p2)) p3) pos) (dRev te) := by
  refine ⟨fun env M Q Q' E E' hQ hE => he.mono env M _ _ _ _ (fun d M1 => ?_) hE, PEw (pe_revL he.pe) ?_⟩
  · cases d with
    | tup _ => exact id
    | v x => cases x with
      | ref a =>
        dsimp only
        cases M1 a with
        | none => exact id
        | some o => cases o <;> first | exact id | exact fun h p hp => hQ _ _ (h p hp)
      | _ => exact id
  · rintro σ H Q ⟨env, M, re, s, h⟩
    refine stepE he.mono re s h (fun d M1 u H1 e1 s1 re1 r1 h1 => ?_) fun _ _ _ z => z
    split at h1 <;> first | exact h1.elim | skip
    split at h1 <;> first | exact h1.elim | skip
    rename_i ds hm
    obtain ⟨us, q1, l1⟩ := s1.lst hm
    rw [rep_v r1]
    exact ⟨_, us, rfl, SqL.of q1, fun p hp => fin_lst (fun p hp => upK_mono e1 _ _ (h1 p hp)) s1 hp l1.reverse⟩
end
end PL

namespace PL
open PySem PySem.Spec PyProof.Rows L2

/-! built-ins by values -/
abbrev DCall := List D → Mem → Res
def upCall (K : PySem.W.Frag) (r : DCall) : List V → Hp → VK → Prop := fun xs H Q => ∃ ds M, RepL K H ds xs ∧ Sim K H M ∧ (r ds M).run M (upK K H Q)
def dCB (r : DCall) (t : DA) : DE := fun env M Q E => t env M (fun ds M1 => (r ds M1).run M1 Q) E
theorem dCB_mono {r : DCall} {t : DA} (h : MonoA t) : MonoE (dCB r t) := fun env M Q Q' E E' hQ hE => h env M _ _ _ _ (fun ds M1 => Res.mono hQ) hE
section
variable {X : Cx} {W : WX} {x : Str} {p pos : Pos} {e : Expr} {es : List Expr} {t : DA} {id T : String} {r : DCall}
theorem cb_up (ha : XA X W es t) : ∀ σ H Q, liftE X.K W (dCB r t) σ H Q → tCB (upCall X.K r) (liftA X.K W t) σ H Q := by
  rintro σ H Q ⟨env, M, re, s, h⟩
  refine stepA ha.mono re s h (fun ds M1 us H1 e1 s1 re1 r1 h1 => ?_) fun _ _ _ z => z
  exact ⟨ds, M1, r1, s1, Res.mono (upK_mono e1) h1⟩
theorem xe_callB (hc : CallR X (.builtin id) (upCall X.K r)) (hg : Gl X x) (hm : X.mg x = none) (hv : bootBuiltins x = some (.builtin id)) (ha : XA X W (e :: es) t) (hn : x ≠ "__name__" := by decide) (hdb : (x == ("__debug__" : Str)) = false := by decide)
    (he : starEach (e :: es) X.env = (false, eval e X.env) :: starEach es X.env := by rfl) (hpl : (backTo pos (starEach es X.env)).any (·.1) = false := by rfl) : XE X W (.Call (.Name x p) (e :: es) [] pos) (dCB r t) :=
  ⟨dCB_mono ha.mono, PEw (pe_callB hc hg hm hv ha.pa hn hdb he hpl) (cb_up ha)⟩
theorem xe_callTy (hc : CallR X (.type T) (upCall X.K r)) (hg : Gl X x) (hm : X.mg x = none) (hv : bootBuiltins x = some (.type T)) (ha : XA X W (e :: es) t) (hn : x ≠ "__name__" := by decide) (hdb : (x == ("__debug__" : Str)) = false := by decide)
    (he : starEach (e :: es) X.env = (false, eval e X.env) :: starEach es X.env := by rfl) (hpl : (backTo pos (starEach es X.env)).any (·.1) = false := by rfl) : XE X W (.Call (.Name x p) (e :: es) [] pos) (dCB r t) :=
  ⟨dCB_mono ha.mono, PEw (pe_callTy hc hg hm hv ha.pa hn hdb he hpl) (cb_up ha)⟩
end
theorem rl1 {K : PySem.W.Frag} {H : Hp} {d : D} {us : List V} (h : RepL K H [d] us) : ∃ u, us = [u] ∧ RepD K H d u := by
  unfold RepL at h
  obtain ⟨u, r, rfl, q, t⟩ := h
  unfold RepL at t
  exact ⟨u, by rw [t], q⟩
theorem rl2 {K : PySem.W.Frag} {H : Hp} {d e : D} {us : List V} (h : RepL K H [d, e] us) : ∃ u v, us = [u, v] ∧ RepD K H d u ∧ RepD K H e v := by
  unfold RepL at h
  obtain ⟨u, r, rfl, q, t⟩ := h
  obtain ⟨v, rfl, q2⟩ := rl1 t
  exact ⟨u, v, rfl, q, q2⟩
def bLen : DCall
  | [.v (.str z)], _ => .val (z.length ≤ sizeLine) (.int z.length)
  | [.tup ds], _ => .val True (.int ds.length)
  | [.v (.ref a)], M => match M a with
    | some (.lst ds) => .val True (.int ds.length)
    | some (.rol ds) => .val True (.int ds.length)
    | some (.dk kvs) => .val True (.int kvs.length)
    | _ => .bad
  | _, _ => .bad
def bAbs : DCall
  | [.v (.int i)], _ => .val True (.int (if i < 0 then -i else i))
  | _, _ => .bad
def bInt : DCall
  | [.v (.int i)], _ => .val True (.int i)
  | [.v (.bl b)], _ => .val True (.int (if b then 1 else 0))
  | [.v (.str z)], _ => match intText? z with
    | some n => .val (z.length ≤ 640) (.int n)
    | none => .bad
  | _, _ => .bad
def bStr : DCall
  | [.v (.int i)], _ => .val (i.natAbs.log2 < 1920) (.str (Str.ofString (toString i)))
  | _, _ => .bad
def bOrd : DCall
  | [.v (.str z)], _ => .val (z.length = 1) (.int (z.cps.getD 0 0 : Nat))
  | _, _ => .bad
def bTuple : DCall
  | [.tup ds], _ => .val True (.tup ds)
  | [.v (.ref a)], M => match M a with
    | some (.lst ds) => .val True (.tup ds)
    | some (.rol ds) => .val True (.tup ds)
    | _ => .bad
  | _, _ => .bad
def bList : DCall
  | [.tup ds], _ => .new True (.lst ds)
  | [.v (.ref a)], M => match M a with
    | some (.lst ds) => .new True (.lst ds)
    | some (.rol ds) => .new True (.lst ds)
    | _ => .bad
  | _, _ => .bad
def bDivmod : DCall
  | [.v (.int i), .v (.int j)], _ => .val (CDivP i j) (.tup [.int (i / j), .int (i % j)])
  | _, _ => .bad
def bMax2 : DCall
  | [.v (.int i), .v (.int j)], _ => .val True (.int (if j > i then j else i))
  | _, _ => .bad
def bMin2 : DCall
  | [.v (.int i), .v (.int j)], _ => .val True (.int (if j < i then j else i))
  | _, _ => .bad
def bools : List D → Option (List Bool)
  | [] => some []
  | .v (.bl b) :: r => (bools r).map (b :: ·)
  | _ :: _ => none
theorem bools_eq : ∀ {ds : List D} {bs : List Bool}, bools ds = some bs → ds = bs.map D.bl
  | [], bs, h => by simp [bools] at h; subst h; rfl
  | .v (.bl b) :: r, bs, h => by
    simp only [bools, Option.map_eq_some_iff] at h
    obtain ⟨cs, h1, rfl⟩ := h
    rw [bools_eq h1]; rfl
  | .tup _ :: _, _, h => by simp [bools] at h
  | .v .non :: _, _, h => by simp [bools] at h
  | .v (.int _) :: _, _, h => by simp [bools] at h
  | .v (.str _) :: _, _, h => by simp [bools] at h
  | .v (.byt _) :: _, _, h => by simp [bools] at h
  | .v (.flt _) :: _, _, h => by simp [bools] at h
  | .v (.ref _) :: _, _, h => by simp [bools] at h
  | .v (.ty _) :: _, _, h => by simp [bools] at h
theorem bools_map : ∀ bs : List Bool, bools (bs.map D.bl) = some bs
  | [] => rfl
  | b :: bs => by show (bools (bs.map D.bl)).map _ = _; rw [bools_map bs]; rfl
theorem RepL.bls {K : PySem.W.Frag} {H : Hp} : ∀ {bs : List Bool} {us : List V}, RepL K H (bs.map D.bl) us → us = bs.map V.bl
  | [], _, h => by unfold RepL at h; simpa using h
  | n :: ns, _, h => by
    simp only [List.map_cons] at h; unfold RepL at h
    obtain ⟨u, r, rfl, q, t⟩ := h
    rw [RepL.bls t, rep_v q]; rfl
def bAll : DCall
  | [.v (.ref a)], M => match M a with
    | some (.lst ds) => match bools ds with
      | some bs => .val True (.bl (bs.all id))
      | none => .bad
    | _ => .bad
  | _, _ => .bad
def bAny : DCall
  | [.v (.ref a)], M => match M a with
    | some (.lst ds) => match bools ds with
      | some bs => .val True (.bl (bs.any id))
      | none => .bad
    | _ => .bad
  | _, _ => .bad
/-- the type's name of plain data, lists, dicts -/
def tyN (M : Mem) : D → Option String
  | .v .non => some "NoneType"
  | .v (.bl _) => some "bool"
  | .v (.int _) => some "int"
  | .v (.str _) => some "str"
  | .tup _ => some "tuple"
  | .v (.ref a) => match M a with
    | some (.lst _) => some "list"
    | some (.rol _) => some "list"
    | some (.dk _) => some "dict"
    | _ => none
  | _ => none
def isi (a b : String) : Bool := (a == b) || (a == "bool" && b == "int")
def bIsi : DCall
  | [d, .v (.ty n)], M => match tyN M d with
    | some a => .val (n = "tuple" ∨ n = "str" ∨ n = "int" ∨ n = "bool" ∨ n = "list") (.bl (isi a n))
    | none => .bad
  | _, _ => .bad

section
variable {X : Cx}
theorem c_len : CallR X (.builtin "len") (upCall X.K bLen) := by
  rintro pins s σ H xs us Q I r ⟨ds, M, rl, sm, h⟩
  unfold bLen at h
  split at h <;> first | exact h.elim | skip
  · obtain ⟨u, rfl, q⟩ := rl1 rl
    rw [rep_v q] at r
    exact call_len pins s σ H _ us Q I r ⟨_, _, rfl, ⟨h.1, rfl⟩, fin_val h.2 sm⟩
  · obtain ⟨u, rfl, q⟩ := rl1 rl
    obtain ⟨a, ws, rfl, q1, l1⟩ := rep_tup q
    refine call_len_seq pins s σ H _ us Q I r ⟨_, _, rfl, .inr q1, ?_⟩
    rw [l1.length]
    exact fin_val h.2 sm
  · obtain ⟨u, rfl, q⟩ := rl1 rl
    rw [rep_v q] at r
    split at h <;> first | exact h.elim | skip
    · rename_i hm
      obtain ⟨ws, q1, l1⟩ := sm.seq (.inl hm)
      refine call_len_seq pins s σ H _ us Q I r ⟨_, _, rfl, .inl q1, ?_⟩
      rw [l1.length]
      exact fin_val h.2 sm
    · rename_i hm
      obtain ⟨ws, q1, l1⟩ := sm.seq (.inr hm)
      refine call_len_seq pins s σ H _ us Q I r ⟨_, _, rfl, .inl q1, ?_⟩
      rw [l1.length]
      exact fin_val h.2 sm
    · rename_i hm
      obtain ⟨ws, q1, l1⟩ := sm _ _ hm
      obtain ⟨u', rfl, ru⟩ := vals1 r
      obtain rfl : u' = Value.ref _ := ru
      refine d_len I (.inl q1) fun t s' I' => ⟨.int _, H, I', ⟨t, rfl⟩, ?_⟩
      rw [l1.length]
      exact fin_val h.2 sm
theorem c_abs : CallR X (.builtin "abs") (upCall X.K bAbs) := by
  rintro pins s σ H xs us Q I r ⟨ds, M, rl, sm, h⟩
  unfold bAbs at h
  split at h <;> first | exact h.elim | skip
  obtain ⟨u, rfl, q⟩ := rl1 rl
  rw [rep_v q] at r
  exact call_abs pins s σ H _ us Q I r ⟨_, rfl, fin_val h.2 sm⟩
theorem c_int : CallR X (.type "int") (upCall X.K bInt) := by
  rintro pins s σ H xs us Q I r ⟨ds, M, rl, sm, h⟩
  unfold bInt at h
  split at h <;> first | exact h.elim | skip
  · obtain ⟨u, rfl, q⟩ := rl1 rl
    rw [rep_v q] at r
    exact call_int1 pins s σ H _ us Q I r (.inl ⟨_, rfl, fin_val h.2 sm⟩)
  · obtain ⟨u, rfl, q⟩ := rl1 rl
    rw [rep_v q] at r
    exact call_int1 pins s σ H _ us Q I r (.inr ⟨_, rfl, fin_val h.2 sm⟩)
  · obtain ⟨u, rfl, q⟩ := rl1 rl
    rw [rep_v q] at r
    split at h <;> first | exact h.elim | skip
    rename_i hn
    exact call_int_str pins s σ H _ us Q I r ⟨_, _, rfl, hn, h.1, fin_val h.2 sm⟩
theorem c_str : CallR X (.type "str") (upCall X.K bStr) := by
  rintro pins s σ H xs us Q I r ⟨ds, M, rl, sm, h⟩
  unfold bStr at h
  split at h <;> first | exact h.elim | skip
  obtain ⟨u, rfl, q⟩ := rl1 rl
  rw [rep_v q] at r
  exact call_str_int pins s σ H _ us Q I r ⟨_, rfl, h.1, fin_val h.2 sm⟩
theorem c_ord : CallR X (.builtin "ord") (upCall X.K bOrd) := by
  rintro pins s σ H xs us Q I r ⟨ds, M, rl, sm, h⟩
  unfold bOrd at h
  split at h <;> first | exact h.elim | skip
  obtain ⟨u, rfl, q⟩ := rl1 rl
  rw [rep_v q] at r
  exact call_ord pins s σ H _ us Q I r ⟨_, rfl, h.1, fin_val h.2 sm⟩
theorem c_tuple : CallR X (.type "tuple") (upCall X.K bTuple) := by
  rintro pins s σ H xs us Q I r ⟨ds, M, rl, sm, h⟩
  unfold bTuple at h
  split at h <;> first | exact h.elim | skip
  · obtain ⟨u, rfl, q⟩ := rl1 rl
    obtain ⟨a, ws, rfl, q1, l1⟩ := rep_tup q
    exact call_tuple_of pins s σ H _ us Q I r ⟨_, _, rfl, .inr ⟨q1, fin_rep h.2 sm q⟩⟩
  · obtain ⟨u, rfl, q⟩ := rl1 rl
    rw [rep_v q] at r
    split at h <;> first | exact h.elim | skip
    · rename_i hm
      obtain ⟨ws, q1, l1⟩ := sm.seq (.inl hm)
      exact call_tuple_of pins s σ H _ us Q I r ⟨_, _, rfl, .inl ⟨q1, fun l hl => fin_tup h.2 sm hl l1⟩⟩
    · rename_i hm
      obtain ⟨ws, q1, l1⟩ := sm.seq (.inr hm)
      exact call_tuple_of pins s σ H _ us Q I r ⟨_, _, rfl, .inl ⟨q1, fun l hl => fin_tup h.2 sm hl l1⟩⟩
theorem c_list : CallR X (.type "list") (upCall X.K bList) := by
  rintro pins s σ H xs us Q I r ⟨ds, M, rl, sm, h⟩
  unfold bList at h
  split at h <;> first | exact h.elim | skip
  · obtain ⟨u, rfl, q⟩ := rl1 rl
    obtain ⟨a, ws, rfl, q1, l1⟩ := rep_tup q
    exact call_list_of pins s σ H _ us Q I r ⟨_, _, rfl, .inr q1, fun l hl => fin_lst h.2 sm hl l1⟩
  · obtain ⟨u, rfl, q⟩ := rl1 rl
    rw [rep_v q] at r
    split at h <;> first | exact h.elim | skip
    · rename_i hm
      obtain ⟨ws, q1, l1⟩ := sm.seq (.inl hm)
      exact call_list_of pins s σ H _ us Q I r ⟨_, _, rfl, .inl q1, fun l hl => fin_lst h.2 sm hl l1⟩
    · rename_i hm
      obtain ⟨ws, q1, l1⟩ := sm.seq (.inr hm)
      exact call_list_of pins s σ H _ us Q I r ⟨_, _, rfl, .inl q1, fun l hl => fin_lst h.2 sm hl l1⟩
theorem c_divmod : CallR X (.builtin "divmod") (upCall X.K bDivmod) := by
  rintro pins s σ H xs us Q I r ⟨ds, M, rl, sm, h⟩
  unfold bDivmod at h
  split at h <;> first | exact h.elim | skip
  obtain ⟨u, v, rfl, q1, q2⟩ := rl2 rl
  rw [rep_v q1, rep_v q2] at r
  exact call_divmodW pins s σ H _ us Q I r ⟨_, _, rfl, h.1, fun p hp => fin_tup h.2 sm hp (.cons rep_of (.cons rep_of .nil))⟩
theorem c_max2 (hc : X.calm = true) : CallR X (.builtin "max") (upCall X.K bMax2) := by
  rintro pins s σ H xs us Q I r ⟨ds, M, rl, sm, h⟩
  unfold bMax2 at h
  split at h <;> first | exact h.elim | skip
  obtain ⟨u, v, rfl, q1, q2⟩ := rl2 rl
  rw [rep_v q1, rep_v q2] at r
  exact call_max2 hc pins s σ H _ us Q I r ⟨_, _, rfl, fin_val h.2 sm⟩
theorem c_min2 (hc : X.calm = true) : CallR X (.builtin "min") (upCall X.K bMin2) := by
  rintro pins s σ H xs us Q I r ⟨ds, M, rl, sm, h⟩
  unfold bMin2 at h
  split at h <;> first | exact h.elim | skip
  obtain ⟨u, v, rfl, q1, q2⟩ := rl2 rl
  rw [rep_v q1, rep_v q2] at r
  exact call_min2 hc pins s σ H _ us Q I r ⟨_, _, rfl, fin_val h.2 sm⟩
theorem c_all (hc : X.calm = true) : CallR X (.builtin "all") (upCall X.K bAll) := by
  rintro pins s σ H xs us Q I r ⟨ds, M, rl, sm, h⟩
  unfold bAll at h
  split at h <;> first | exact h.elim | skip
  split at h <;> first | exact h.elim | skip
  split at h <;> first | exact h.elim | skip
  rename_i hm _ bs hb
  obtain ⟨u, rfl, q⟩ := rl1 rl
  rw [rep_v q] at r
  obtain ⟨ws, q1, l1⟩ := sm.seq (.inl hm)
  rw [bools_eq hb] at l1
  rw [l1.bls] at q1
  exact cr_all hc pins s σ H _ us Q I r ⟨_, _, rfl, q1, fin_val h.2 sm⟩
theorem c_any (hc : X.calm = true) : CallR X (.builtin "any") (upCall X.K bAny) := by
  rintro pins s σ H xs us Q I r ⟨ds, M, rl, sm, h⟩
  unfold bAny at h
  split at h <;> first | exact h.elim | skip
  split at h <;> first | exact h.elim | skip
  split at h <;> first | exact h.elim | skip
  rename_i hm _ bs hb
  obtain ⟨u, rfl, q⟩ := rl1 rl
  rw [rep_v q] at r
  obtain ⟨ws, q1, l1⟩ := sm.seq (.inl hm)
  rw [bools_eq hb] at l1
  rw [l1.bls] at q1
  exact cr_any hc pins s σ H _ us Q I r ⟨_, _, rfl, q1, fin_val h.2 sm⟩
theorem tyN_x {K : PySem.W.Frag} {H : Hp} {M : Mem} (s : Sim K H M) {d : D} {u : V} {a : String} (r : RepD K H d u) (h : tyN M d = some a) : TyX K H u (.type a) := by
  unfold tyN at h
  split at h
  · cases h; rw [rep_v r]; exact .base .non
  · cases h; rw [rep_v r]; exact .base (.bl _)
  · cases h; rw [rep_v r]; exact .base (.int _)
  · cases h; rw [rep_v r]; exact .base (.str _)
  · cases h
    obtain ⟨b, us, rfl, q, l⟩ := rep_tup r
    rcases q with (q | ⟨o, q⟩) | ⟨o, its, n, q, c, _⟩
    · exact .base (.tup q)
    · exact .fTuple q
    · exact .kTuple q c
  · rw [rep_v r]
    split at h
    · cases h
      rename_i hm
      obtain ⟨us, e, l⟩ := s _ _ hm
      exact .base (.lst e)
    · cases h
      rename_i hm
      obtain ⟨o, us, e, l⟩ := s _ _ hm
      exact .base (.frz e)
    · cases h
      rename_i hm
      obtain ⟨us, e, l⟩ := s _ _ hm
      exact .base (.dK e)
    · cases h
  · cases h
theorem kit_isi {a n : String} (ha : a = "NoneType" ∨ a = "bool" ∨ a = "int" ∨ a = "str" ∨ a = "tuple" ∨ a = "list" ∨ a = "dict") (hn : n = "tuple" ∨ n = "str" ∨ n = "int" ∨ n = "bool" ∨ n = "list") : kitB a n = some (isi a n) := by
  rcases ha with rfl | rfl | rfl | rfl | rfl | rfl | rfl <;> rcases hn with rfl | rfl | rfl | rfl | rfl <;> decide +kernel
theorem tyN_of {M : Mem} {d : D} {a : String} (h : tyN M d = some a) : a = "NoneType" ∨ a = "bool" ∨ a = "int" ∨ a = "str" ∨ a = "tuple" ∨ a = "list" ∨ a = "dict" := by
  unfold tyN at h
  split at h <;> first | (split at h <;> (cases h <;> simp)) | (cases h <;> simp)
theorem c_isi : CallR X (.builtin "isinstance") (upCall X.K bIsi) := by
  rintro pins s σ H xs us Q I r ⟨ds, M, rl, sm, h⟩
  unfold bIsi at h
  split at h <;> first | exact h.elim | skip
  split at h <;> first | exact h.elim | skip
  rename_i d n a hb
  obtain ⟨u, v, rfl, q1, q2⟩ := rl2 rl
  rw [rep_v q2] at r
  exact call_isi pins s σ H _ us Q I r ⟨_, _, _, _, _, rfl, .ty _, tyN_x sm q1 hb, kit_ty (kit_isi (tyN_of hb) h.1), fin_val h.2 sm⟩
end

/-! methods of built-in types -/
abbrev DMeth := D → List D → Mem → Res
def upMeth (K : PySem.W.Frag) (r : DMeth) : V → List V → Hp → VK → Prop := fun x xs H Q => ∃ d ds M, RepD K H d x ∧ RepL K H ds xs ∧ Sim K H M ∧ (r d ds M).run M (upK K H Q)
def isTy (T : String) (d : D) (M : Mem) : Prop := match d with
  | .v (.str _) => T = "str"
  | .v (.ref a) => match M a with
    | some (.lst _) => T = "list"
    | some (.dk _) => T = "dict"
    | _ => False
  | _ => False
def dBM (T : String) (r : DMeth) (to : DE) (t : DA) : DE := fun env M Q E => to env M (fun x M1 => isTy T x M1 ∧ t env M1 (fun ds M2 => (r x ds M2).run M2 Q) E) E
theorem isTy_v {K : PySem.W.Frag} {H : Hp} {M : Mem} {T : String} {d : D} {u : V} (s : Sim K H M) (r : RepD K H d u) (h : isTy T d M) : tyV K T u H := by
  unfold isTy at h
  split at h
  · rw [rep_v r]; exact h
  · rw [rep_v r]
    split at h
    · rename_i hm
      obtain ⟨us, e, l⟩ := s _ _ hm
      exact .inl ⟨h, us, SqL.of e⟩
    · rename_i hm
      obtain ⟨us, e, l⟩ := s _ _ hm
      exact .inr (.inr (.inl ⟨h, .inl ⟨us, e⟩⟩))
    · exact h.elim
  · exact h.elim
section
variable {X : Cx} {W : WX} {o e : Expr} {es : List Expr} {name : Str} {apos cpos : Pos} {to : DE} {t : DA} {T id : String} {r : DMeth}
theorem xe_bm (pa : PlainAttrs T) (slot : Slot T name id) (hty : typeOf (.builtin id) = pure (.type "method_descriptor")) (hm : MtR X id (upMeth X.K r)) (ho : XE X W o to) (ha : XA X W (e :: es) t)
    (hbase : attributeBase o name X.env (eval o X.env) = eval o X.env := by rfl)
    (hfew : ((backTo cpos (starEach (e :: es) X.env)).all (fun x => !x.1) && (backToKw cpos (keywordEach [] X.env)).all (fun x => x.1.isSome)
      && decide ((e :: es).length + ([] : List Keyword).length + (if ([] : List Keyword).isEmpty then 0 else 1) < 30)) = true := by rfl)
    (hline : (apos.endLine == cpos.line) = true := by rfl) (hs : starEach (e :: es) X.env = (false, eval e X.env) :: starEach es X.env := by rfl) (hplain : (backTo cpos (starEach es X.env)).any (·.1) = false := by rfl) :
    XE X W (.Call (.Attribute o name apos) (e :: es) [] cpos) (dBM T r to t) := by
  refine ⟨fun env M Q Q' E E' hQ hE => ho.mono env M _ _ _ _ (fun d M1 h => ⟨h.1, ha.mono env M1 _ _ _ _ (fun ds M2 => Res.mono hQ) hE h.2⟩) hE, PEw (pe_bm pa slot hty hm ho.pe ha.pa hbase hfew hline hs hplain) ?_⟩
  rintro σ H Q ⟨env, M, re, s, h⟩
  refine stepE ho.mono re s h (fun d M1 u H1 e1 s1 re1 r1 h1 => ⟨isTy_v s1 r1 h1.1, ?_⟩) fun _ _ _ z => z
  refine stepA ha.mono re1 s1 h1.2 (fun ds M2 us H2 e2 s2 re2 r2 h2 => ?_) (upX_mono e1)
  exact ⟨d, ds, M2, RepD.mono e2 _ r1, r2, s2, Res.mono (upK_mono (e1.trans e2)) h2⟩
theorem xe_bm0 (pa : PlainAttrs T) (slot : Slot T name id) (hty : typeOf (.builtin id) = pure (.type "method_descriptor")) (hm : MtR X id (upMeth X.K r)) (ho : XE X W o to)
    (hbase : attributeBase o name X.env (eval o X.env) = eval o X.env := by rfl) (hline : (apos.endLine == cpos.line) = true := by rfl) :
    XE X W (.Call (.Attribute o name apos) [] [] cpos) (dBM T r to dNil) := by
  refine ⟨fun env M Q Q' E E' hQ hE => ho.mono env M _ _ _ _ (fun d M1 h => ⟨h.1, Res.mono hQ h.2⟩) hE, PEw (pe_bm0 pa slot hty hm ho.pe hbase hline) ?_⟩
  rintro σ H Q ⟨env, M, re, s, h⟩
  refine stepE ho.mono re s h (fun d M1 u H1 e1 s1 re1 r1 h1 => ⟨isTy_v s1 r1 h1.1, ?_⟩) fun _ _ _ z => z
  exact ⟨d, [], M1, r1, .nil, s1, Res.mono (upK_mono e1) h1.2⟩
end
def mAppend : DMeth
  | .v (.ref a), [d], M => match M a with
    | some (.lst ds) => .put (ds.length < sizeLine) a (.lst (ds ++ [d])) .non
    | _ => .bad
  | _, _, _ => .bad
def mExtend : DMeth
  | .v (.ref a), [.v (.ref b)], M => match M a, M b with
    | some (.lst ds), some (.lst es) => .put (ds.length + es.length ≤ sizeLine) a (.lst (ds ++ es)) .non
    | _, _ => .bad
  | _, _, _ => .bad
def mPop : DMeth
  | .v (.ref a), [], M => match M a with
    | some (.lst ds) => match ds[ds.length - 1]? with
      | some d => .put True a (.lst ds.dropLast) d
      | none => .bad
    | _ => .bad
  | _, _, _ => .bad
def strsOf : List D → Option (List Str)
  | [] => some []
  | .v (.str b) :: r => (strsOf r).map (b :: ·)
  | _ :: _ => none
theorem strsOf_eq : ∀ {ds : List D} {bs : List Str}, strsOf ds = some bs → ds = bs.map D.str
  | [], bs, h => by simp [strsOf] at h; subst h; rfl
  | .v (.str b) :: r, bs, h => by
    simp only [strsOf, Option.map_eq_some_iff] at h
    obtain ⟨cs, h1, rfl⟩ := h
    rw [strsOf_eq h1]; rfl
  | .tup _ :: _, _, h => by simp [strsOf] at h
  | .v .non :: _, _, h => by simp [strsOf] at h
  | .v (.int _) :: _, _, h => by simp [strsOf] at h
  | .v (.bl _) :: _, _, h => by simp [strsOf] at h
  | .v (.byt _) :: _, _, h => by simp [strsOf] at h
  | .v (.flt _) :: _, _, h => by simp [strsOf] at h
  | .v (.ref _) :: _, _, h => by simp [strsOf] at h
  | .v (.ty _) :: _, _, h => by simp [strsOf] at h
theorem strsOf_map : ∀ bs : List Str, strsOf (bs.map D.str) = some bs
  | [] => rfl
  | b :: bs => by show (strsOf (bs.map D.str)).map _ = _; rw [strsOf_map bs]; rfl
theorem RepL.strs {K : PySem.W.Frag} {H : Hp} : ∀ {bs : List Str} {us : List V}, RepL K H (bs.map D.str) us → us = bs.map V.str
  | [], _, h => by unfold RepL at h; simpa using h
  | n :: ns, _, h => by
    simp only [List.map_cons] at h; unfold RepL at h
    obtain ⟨u, r, rfl, q, t⟩ := h
    rw [RepL.strs t, rep_v q]; rfl
theorem RepL.of_strs {K : PySem.W.Frag} {H : Hp} : ∀ {ns : List Str}, RepL K H (ns.map D.str) (ns.map V.str)
  | [] => .nil
  | n :: ns => .cons rep_of RepL.of_strs
theorem RepL.dropLast {K : PySem.W.Frag} {H : Hp} {ds : List D} {us : List V} (h : RepL K H ds us) : RepL K H ds.dropLast us.dropLast := by
  rw [List.dropLast_eq_take, List.dropLast_eq_take, h.length]
  exact h.take _
section
variable {X : Cx}
theorem m_append : MtR X "list.append" (upMeth X.K mAppend) := by
  rintro pins s σ H x xs v us Q I rx rxs ⟨d, ds, M, r1, rl, sm, h⟩
  unfold mAppend at h
  split at h <;> first | exact h.elim | skip
  split at h <;> first | exact h.elim | skip
  rename_i hm
  obtain ⟨u, rfl, q⟩ := rl1 rl
  rw [rep_v r1] at rx
  obtain ⟨ws, e1, l1⟩ := sm.lst hm
  exact mt_append pins s σ H _ _ v us Q I rx rxs ⟨_, ws, u, rfl, rfl, e1, by rw [l1.length]; exact h.1,
    fin_put h.2 sm e1 True.intro (repO_lst (Ext.mut e1 True.intro) (RepL.append l1 (.cons q .nil))) rep_of⟩
theorem m_extend : MtR X "list.extend" (upMeth X.K mExtend) := by
  rintro pins s σ H x xs v us Q I rx rxs ⟨d, ds, M, r1, rl, sm, h⟩
  unfold mExtend at h
  split at h <;> first | exact h.elim | skip
  split at h <;> first | exact h.elim | skip
  rename_i hm1 hm2
  obtain ⟨u, rfl, q⟩ := rl1 rl
  rw [rep_v r1] at rx
  rw [rep_v q] at rxs
  obtain ⟨ws, e1, l1⟩ := sm.lst hm1
  obtain ⟨zs, e2, l2⟩ := sm.lst hm2
  exact mt_extend pins s σ H _ _ v us Q I rx rxs ⟨_, _, ws, zs, rfl, rfl, e1, e2, by rw [l1.length, l2.length]; exact h.1,
    fin_put h.2 sm e1 True.intro (repO_lst (Ext.mut e1 True.intro) (RepL.append l1 l2)) rep_of⟩
theorem m_pop : MtR X "list.pop" (upMeth X.K mPop) := by
  rintro pins s σ H x xs v us Q I rx rxs ⟨d, ds, M, r1, rl, sm, h⟩
  unfold mPop at h
  split at h <;> first | exact h.elim | skip
  split at h <;> first | exact h.elim | skip
  split at h <;> first | exact h.elim | skip
  rename_i hm _ d' hd
  unfold RepL at rl
  subst rl
  rw [rep_v r1] at rx
  obtain ⟨ws, e1, l1⟩ := sm.lst hm
  obtain ⟨w', h1, h2⟩ := l1.get hd
  exact mt_pop pins s σ H _ _ v us Q I rx rxs ⟨_, ws, w', rfl, rfl, e1, by rw [l1.length]; exact h1,
    fin_put h.2 sm e1 True.intro (repO_lst (Ext.mut e1 True.intro) l1.dropLast) h2⟩
end
end PL

namespace PL
open PySem PySem.Spec PyProof.Rows L2

/-! promises -/
abbrev DSp := List D → Mem → DK → DX → Prop
def MonoSp (sp : DSp) : Prop := ∀ ds M (Q Q' : DK) (E E' : DX), (∀ d M, Q d M → Q' d M) → (∀ c f M, E c f M → E' c f M) → sp ds M Q E → sp ds M Q' E'
def upXK (K : PySem.W.Frag) (H : Hp) (E : XK) : DX := fun c fs M' => ∀ d H', Ext K H H' → Sim K H' M' → RepX K H' d fs → E c d H'
def liftSp (K : PySem.W.Frag) (sp : DSp) : Sp := fun vs H Q E => ∃ ds M, RepL K H ds vs ∧ Sim K H M ∧ sp ds M (upK K H Q) (upXK K H E)
structure Fn (P : Program) (w : World) (K : PySem.W.Frag) (mg : Str → Option Value) (base : Heap) (k : Nat) (x : Str) (sp : DSp) (dvs : List D) : Prop where
  mono : MonoSp sp
  ex : ∃ (f : Addr) (fd : FuncData) (ps : List Str) (ds : List Value) (vds : List V), FnOk P w K mg base (L2.CX P w) k f fd ps (liftSp K sp) ∧ mg x = some (.ref f) ∧ PySem.W.keepIn K (.ref f) = true ∧ Binds K fd ps ds ∧ Vals vds ds ∧ ∀ H, RepL K H dvs vds
theorem Fn.up {P : Program} {w : World} {K : PySem.W.Frag} {mg : Str → Option Value} {base : Heap} {j k : Nat} {x : Str} {sp : DSp} {dvs : List D} (F : Fn P w K mg base j x sp dvs) (h : j ≤ k) : Fn P w K mg base k x sp dvs := by
  obtain ⟨m, f, fd, ps, ds, vds, F, r⟩ := F
  exact ⟨m, f, fd, ps, ds, vds, F.mono h, r⟩
def dCall (sp : DSp) (dvs : List D) (t : DA) : DE := fun env M Q E => t env M (fun ds M1 => sp (ds ++ dvs) M1 Q E) E
theorem dCall_mono {sp : DSp} {dvs : List D} {t : DA} (hs : MonoSp sp) (h : MonoA t) : MonoE (dCall sp dvs t) := fun env M Q Q' E E' hQ hE => h env M _ _ _ _ (fun ds M1 => hs _ _ _ _ _ _ hQ hE) hE
theorem upXK_mono {K : PySem.W.Frag} {H H1 : Hp} {E : XK} (e : Ext K H H1) : ∀ c f M1, upXK K H E c f M1 → upXK K H1 E c f M1 := fun c f M1 q d H' e' s r => q d H' (e.trans e') s r
section
variable {X : Cx} {W : WX} {k : Nat} {x : Str} {sp : DSp} {dvs : List D} {e : Expr} {es : List Expr} {t : DA} {p pos : Pos}
theorem xe_call (F : Fn X.prog X.w X.K X.mg X.base k x sp dvs) (hr : Room k X.A) (tk : Takes X W) (hg : Gl X x) (ha : XA X W (e :: es) t) (hdb : (x == ("__debug__" : Str)) = false := by decide)
    (he : starEach (e :: es) X.env = (false, eval e X.env) :: starEach es X.env := by rfl) (hpl : (backTo pos (starEach es X.env)).any (·.1) = false := by rfl) : XE X W (.Call (.Name x p) (e :: es) [] pos) (dCall sp dvs t) := by
  obtain ⟨m, f, fd, ps, ds, vds, F, hm, hk, hb, hd, rd⟩ := F
  refine ⟨dCall_mono m ha.mono, PEw (pe_callSD (E := WE W) F hr hg hm hk hb hd (passAt tk) ha.pa hdb he hpl) ?_⟩
  rintro σ H Q ⟨env, M, re, s, h⟩
  refine stepA ha.mono re s h (fun as M1 us H1 e1 s1 re1 r1 h1 => ?_) fun _ _ _ z => z
  exact ⟨as ++ dvs, M1, RepL.append r1 (rd H1), s1, m _ _ _ _ _ _ (upK_mono e1) (upX_mono e1) h1⟩
theorem xe_call0 (F : Fn X.prog X.w X.K X.mg X.base k x sp dvs) (hr : Room k X.A) (tk : Takes X W) (hg : Gl X x) (hdb : (x == ("__debug__" : Str)) = false := by decide) : XE X W (.Call (.Name x p) [] [] pos) (dCall sp dvs dNil) := by
  obtain ⟨m, f, fd, ps, ds, vds, F, hm, hk, hb, hd, rd⟩ := F
  refine ⟨dCall_mono m (fun _ _ _ _ _ _ hQ _ h => hQ _ _ h), ⟨fun pins s σ H Q I h => ?_⟩⟩
  obtain ⟨env, M, re, sm, h⟩ := h
  refine wpAny_Call_Name_kw (ld_glob I hg hm ?_ hdb)
  exact PySem.W.callWith_K0 I.kIn hk (run_fnSD (E := WE W) (us := []) F hr hb hd (passAt tk σ) I .nil ⟨dvs, M, rd H, sm, h⟩)
/-- a local name that holds a def -/
def dCallL (i : Nat) (S : Addr → Option DSp) (t : DA) : DE := fun env M Q E => match env[i]? with
  | some (some (.v (.ref f))) => match S f with
    | some sp => t env M (fun ds M1 => sp ds M1 Q E) E
    | none => False
  | _ => False
theorem xe_callL {i : Nat} {S : Addr → Option DSp} (A : ∀ f sp, S f = some sp → MonoSp sp ∧ ∃ (fd : FuncData) (ps : List Str), FnOk X.prog X.w X.K X.mg X.base (L2.CX X.prog X.w) k f fd ps (liftSp X.K sp) ∧ PySem.W.keepIn X.K (.ref f) = true ∧ Binds X.K fd ps [])
    (hr : Room k X.A) (tk : Takes X W) (hN : X.N[i]? = some x) (hv : Vis X.env.scope x) (ha : XA X W (e :: es) t) (hdb : (x == ("__debug__" : Str)) = false := by decide) (hcd : (x == ("__classdict__" : Str)) = false := by decide)
    (he : starEach (e :: es) X.env = (false, eval e X.env) :: starEach es X.env := by rfl) (hpl : (backTo pos (starEach es X.env)).any (·.1) = false := by rfl) : XE X W (.Call (.Name x p) (e :: es) [] pos) (dCallL i S t) := by
  refine ⟨fun env M Q Q' E E' hQ hE h => ?_, ⟨fun pins s σ H Q I h => ?_⟩⟩
  · unfold dCallL at h ⊢
    split at h <;> first | exact h.elim | skip
    split at h <;> first | exact h.elim | skip
    rename_i f _ _ sp hS
    exact ha.mono env M _ _ _ _ (fun ds M1 => (A f sp hS).1 _ _ _ _ _ _ hQ hE) hE h
  · obtain ⟨env, M, re, sm, h⟩ := h
    unfold dCallL at h
    split at h <;> first | exact h.elim | skip
    rename_i f hi
    split at h <;> first | exact h.elim | skip
    rename_i sp hS
    obtain ⟨m, fd, ps, F, hk, hb⟩ := A f sp hS
    obtain ⟨u, h1, h2⟩ := re.2 i _ hi
    have eu := rep_v h2
    subst eu
    refine wpAny_Call_Name_kw (thn ((pe_var (pos := p) hN hv hdb hcd).run pins s σ H (fun v H1 => v = .ref f ∧ H1 = H) I ⟨.ref f, h1, rfl, rfl⟩) fun u s1 ⟨v, H1, I1, r1, q1⟩ => ?_)
    obtain ⟨rfl, rfl⟩ := q1
    cases r1
    have q : liftA X.K W t σ H1 fun vs H2 => liftSp X.K sp (vs ++ []) H2 Q (WE W σ) := stepA ha.mono re sm h (fun as M1 us H2 e1 s2 re1 r2 h3 => by
      rw [List.append_nil]
      exact ⟨as, M1, r2, s2, m _ _ _ _ _ _ (upK_mono e1) (upX_mono e1) h3⟩) fun _ _ _ z => z
    refine PySem.W.callWith_K (h₀ := X.base) I.ok.mod.kin hk (thn (ha.pa.run pos pins s1 σ _ _ I1 q) fun us s2 ⟨vs, H2, I2, r, q2⟩ => ⟨I2.kIn, ?_⟩) he hpl
    exact run_fnSD (E := WE W) F hr hb .nil (passAt tk σ) I2 r q2
end

/-! patterns of targets -/
inductive Pat where
  | nm (i : Nat)
  | tp (ps : List Pat)
def seqOf (M : Mem) : D → Option (List D)
  | .tup ds => some ds
  | .v (.ref a) => match M a with
    | some (.lst ds) => some ds
    | _ => none
  | _ => none
mutual
def Pat.bind (M : Mem) : Pat → D → DEnv → Option DEnv
  | .nm i, d, env => some (env.set i (some d))
  | .tp ps, d, env => match seqOf M d with
    | some ds => bindL M ps ds env
    | none => none
def bindL (M : Mem) : List Pat → List D → DEnv → Option DEnv
  | [], [], env => some env
  | p :: ps, d :: ds, env => match p.bind M d env with
    | some env1 => bindL M ps ds env1
    | none => none
  | _, _, _ => none
end
mutual
def Pat.tg (K : PySem.W.Frag) : Pat → TG
  | .nm i => gName i
  | .tp ps => fun v σ H Q => gTup K ps.length (tgs K ps) v σ H Q ∨ gLst K ps.length (tgs K ps) v σ H Q
def tgs (K : PySem.W.Frag) : List Pat → TGs
  | [] => gNil
  | p :: ps => gCons (p.tg K) (tgs K ps)
end
mutual
def Pat.slots : Pat → List Nat
  | .nm i => [i]
  | .tp ps => slotsL ps
def slotsL : List Pat → List Nat
  | [] => []
  | p :: ps => p.slots ++ slotsL ps
end
theorem wipe_set {i : Nat} {x : V} : ∀ {vs : List Nat} {σ : L2.St}, i ∈ vs → wipe (σ.set i (some x)) vs = wipe σ vs
  | v :: vs, σ, h => by
    show (wipe (σ.set i (some x)) vs).set v none = (wipe σ vs).set v none
    by_cases hm : i ∈ vs
    · rw [wipe_set hm]
    · have e : i = v := by
        rcases List.mem_cons.mp h with e | e
        · exact e
        · exact absurd e hm
      subst e
      have comm : ∀ (vs : List Nat) (σ : L2.St), i ∉ vs → wipe (σ.set i (some x)) vs = (wipe σ vs).set i (some x) := by
        intro vs
        induction vs with
        | nil => intro σ _; rfl
        | cons w ws ih =>
          intro σ hn
          show (wipe (σ.set i (some x)) ws).set w none = ((wipe σ ws).set w none).set i (some x)
          rw [ih σ (fun z => hn (List.mem_cons_of_mem _ z)), List.set_comm _ _ (fun z => hn (by rw [z]; exact List.mem_cons_self))]
      rw [comm vs σ hm, List.set_set]
mutual
theorem Pat.rep {K : PySem.W.Frag} {H : Hp} {M : Mem} (s : Sim K H M) (vs : List Nat) : ∀ (p : Pat) {d : D} {v : V} {env env' : DEnv} {σ : L2.St}, RepD K H d v → RepE K H env σ → p.bind M d env = some env' → (∀ i ∈ p.slots, i ∈ vs) →
    ∃ σ', RepE K H env' σ' ∧ wipe σ' vs = wipe σ vs ∧ ∀ Q : L2.St → Hp → Prop, Q σ' H → p.tg K v σ H Q
  | .nm i, d, v, env, env', σ, r, re, h, hs => by
    simp only [Pat.bind, Option.some.injEq] at h
    subst h
    exact ⟨σ.set i (some v), re.set r i, wipe_set (hs i (by simp [Pat.slots])), fun Q q => q⟩
  | .tp ps, d, v, env, env', σ, r, re, h, hs => by
    unfold Pat.bind at h
    split at h
    · rename_i ds hd
      unfold seqOf at hd
      split at hd
      · cases hd
        obtain ⟨a, us, rfl, q, l⟩ := rep_tup r
        obtain ⟨σ', h1, h2, h3⟩ := Pat.repL s vs ps l re h (by simpa [Pat.slots] using hs)
        refine ⟨σ', h1, h2, fun Q q' => .inl ⟨a, us, rfl, q, ?_, h3.2 Q q'⟩⟩
        exact h3.1
      · split at hd <;> cases hd
        rename_i hm
        obtain ⟨us, e, l⟩ := s.lst hm
        rw [rep_v r]
        obtain ⟨σ', h1, h2, h3⟩ := Pat.repL s vs ps l re h (by simpa [Pat.slots] using hs)
        exact ⟨σ', h1, h2, fun Q q' => .inr ⟨_, us, rfl, SqL.of e, h3.1, h3.2 Q q'⟩⟩
      · cases hd
    · cases h
theorem Pat.repL {K : PySem.W.Frag} {H : Hp} {M : Mem} (s : Sim K H M) (vs : List Nat) : ∀ (ps : List Pat) {ds : List D} {us : List V} {env env' : DEnv} {σ : L2.St}, RepL K H ds us → RepE K H env σ → bindL M ps ds env = some env' → (∀ i ∈ slotsL ps, i ∈ vs) →
    ∃ σ', RepE K H env' σ' ∧ wipe σ' vs = wipe σ vs ∧ us.length = ps.length ∧ ∀ Q : L2.St → Hp → Prop, Q σ' H → tgs K ps us σ H Q
  | [], [], us, env, env', σ, r, re, h, hs => by
    simp only [bindL, Option.some.injEq] at h
    subst h
    unfold RepL at r
    subst r
    exact ⟨σ, re, rfl, rfl, fun Q q => ⟨rfl, q⟩⟩
  | p :: ps, d :: ds, us, env, env', σ, r, re, h, hs => by
    unfold bindL at h
    split at h
    · rename_i env1 hb
      unfold RepL at r
      obtain ⟨u, t, rfl, q, l⟩ := r
      obtain ⟨σ1, h1, h2, h3⟩ := Pat.rep s vs p q re hb (fun i hi => hs i (by simp [slotsL, hi]))
      obtain ⟨σ2, g1, g2, g3, g4⟩ := Pat.repL s vs ps l h1 h (fun i hi => hs i (by simp [slotsL, hi]))
      exact ⟨σ2, g1, g2.trans h2, by simp [g3], fun Q q' => ⟨u, t, rfl, h3 _ (g4 Q q')⟩⟩
    · cases h
  | [], _ :: _, _, _, _, _, _, _, h, _ => by simp [bindL] at h
  | _ :: _, [], _, _, _, _, _, _, h, _ => by simp [bindL] at h
end
section
variable {X : Cx} {pos : Pos}
theorem xg_name (i : Nat) {x : Str} (hN : X.N.Nodup) (hi : X.N[i]? = some x := by rfl) (hx : Loc X.env.scope x := by first | exact .inl rfl | exact .inr rfl) (hf : X.fn x = true ∨ X.env.scope.names.lookup x = some .local := by first | exact .inl rfl | exact .inr rfl) : PG X (.Name x pos) ((Pat.nm i).tg X.K) := by
  unfold Pat.tg
  exact pg_name hN hi hx hf
theorem xgs_nil : PGs X [] (tgs X.K []) := by unfold tgs; exact pgs_nil
theorem xgs_cons {e : Expr} {es : List Expr} {p : Pat} {ps : List Pat} (h1 : PG X e (p.tg X.K)) (h2 : PGs X es (tgs X.K ps)) (hs : (assignEach (e :: es) X.env).map (·.2) = assign e X.env :: (assignEach es X.env).map (·.2) := by rfl) : PGs X (e :: es) (tgs X.K (p :: ps)) := by
  unfold tgs
  exact pgs_cons h1 h2 hs
theorem xg_tup {es : List Expr} {k : Nat} {ps : List Pat} (hc : X.calm = true) (h : PGs X es (tgs X.K ps)) (hn : (assignEach es X.env).length = ps.length := by rfl) (hst : (assignEach es X.env).findIdx? (·.1) = none := by rfl) : PG X (.Tuple es k pos) ((Pat.tp ps).tg X.K) := by
  unfold Pat.tg
  refine ⟨fun pins s σ H v u Q I r hw => ?_⟩
  rcases hw with hw | hw
  · exact (pg_tup hc h hn hst).run pins s σ H v u Q I r hw
  · exact (pg_lst hc h hn hst).run pins s σ H v u Q I r hw
end

/-! statements -/
def dNext : DS := fun D env M => D.nx env M
def dSeq (t u : DS) : DS := fun D env M => t { D with nx := u D } env M
def dDrop (te : DE) : DS := fun D env M => te env M (fun _ M1 => D.nx env M1) (fun c f M1 => D.ex c f env M1)
def dRet (te : DE) : DS := fun D env M => te env M D.rt (fun c f M1 => D.ex c f env M1)
def dRetN : DS := fun D env M => D.rt .non M
def dIfS (tc : DT) (t u : DS) : DS := fun D env M => tc env M (fun b M1 => if b = true then t D env M1 else u D env M1) (fun c f M1 => D.ex c f env M1)
def dAsg (te : DE) (p : Pat) : DS := fun D env M => te env M (fun d M1 => match p.bind M1 d env with
  | some env1 => D.nx env1 M1
  | none => False) (fun c f M1 => D.ex c f env M1)
def dBrk : DS := fun D env M => D.bk env M
def dCont : DS := fun D env M => D.ct env M
theorem ends_ex {K : PySem.W.Frag} {W : WX} {H : Hp} {D : Ends} {env : DEnv} {σ : L2.St} (re : RepE K H env σ) : ∀ c f M1, (upEnds K W H D).ex c f env M1 → upX K W H σ c f M1 := fun c f M1 q d H' e s r => q d σ H' e s (re.mono e) r
theorem upN_mono {K : PySem.W.Frag} {H H1 : Hp} {Q : L2.St → Hp → Prop} (e : Ext K H H1) : ∀ env M1, upN K H Q env M1 → upN K H1 Q env M1 := fun c M1 q σ' H' e' s r => q σ' H' (e.trans e') s r
theorem upEnds_le {K : PySem.W.Frag} {W : WX} {H H1 : Hp} {D : Ends} (e : Ext K H H1) : (upEnds K W H D).Le (upEnds K W H1 D) :=
  ⟨upN_mono e, upK_mono e, upN_mono e, upN_mono e, fun c f env M1 q d σ' H' e' s r x => q d σ' H' (e.trans e') s r x⟩
theorem DEnds.Le.refl {D : DEnds} : D.Le D := ⟨fun _ _ h => h, fun _ _ h => h, fun _ _ h => h, fun _ _ h => h, fun _ _ _ _ h => h⟩
section
variable {X : Cx} {W : WX} {st : Stmt} {rest : List Stmt} {t u : DS} {e c : Expr} {te : DE} {tc : DT} {pos : Pos}
theorem xss_nil : XSs X W [] dNext := by
  refine ⟨fun D D' env M l h => l.nx _ _ h, PSsw pss_nil ?_⟩
  rintro D σ H ⟨env, M, re, s, h⟩
  exact h σ H Ext.refl s re
theorem dSeq_mono {t u : DS} (ht : MonoS t) (hu : MonoS u) : MonoS (dSeq t u) := fun D D' env M l => ht _ _ _ _ ⟨fun e M => hu _ _ _ _ l, l.rt, l.bk, l.ct, l.ex⟩
theorem xss_cons (h1 : XS X W st t) (h2 : XSs X W rest u) : XSs X W (st :: rest) (dSeq t u) := by
  refine ⟨dSeq_mono h1.mono h2.mono, PSsw (pss_cons h1.ps h2.ps) ?_⟩
  rintro D σ H ⟨env, M, re, s, h⟩
  refine ⟨env, M, re, s, h1.mono { upEnds X.K W H D with nx := u (upEnds X.K W H D) } _ _ _ ⟨fun env1 M1 q σ1 H1 e1 s1 re1 => ?_, fun _ _ q => q, fun _ _ q => q, fun _ _ q => q, fun _ _ _ _ q => q⟩ h⟩
  exact ⟨env1, M1, re1, s1, h2.mono _ _ _ _ (upEnds_le e1) q⟩
theorem xss_one (h1 : XS X W st t) : XSs X W [st] t := ⟨h1.mono, pss_one h1.ps⟩
theorem xs_pass : XS X W (.Pass pos) dNext := by
  refine ⟨fun D D' env M l h => l.nx _ _ h, PSw ps_pass ?_⟩
  rintro D σ H ⟨env, M, re, s, h⟩
  exact h σ H Ext.refl s re
theorem xs_break : XS X W (.Break pos) dBrk := by
  refine ⟨fun D D' env M l h => l.bk _ _ h, PSw ps_break ?_⟩
  rintro D σ H ⟨env, M, re, s, h⟩
  exact h σ H Ext.refl s re
theorem xs_continue : XS X W (.Continue pos) dCont := by
  refine ⟨fun D D' env M l h => l.ct _ _ h, PSw ps_continue ?_⟩
  rintro D σ H ⟨env, M, re, s, h⟩
  exact h σ H Ext.refl s re
theorem xs_expr (he : XE X W e te) (hs : swapsWith e none pos.line X.env = pure false := by rfl) : XS X W (.Expr e pos) (dDrop te) := by
  refine ⟨fun D D' env M l h => he.mono _ _ _ _ _ _ (fun _ M1 => l.nx _ M1) (fun c f M1 => l.ex c f _ M1) h, PSw (ps_expr he.pe hs) ?_⟩
  rintro D σ H ⟨env, M, re, s, h⟩
  exact stepE he.mono re s h (fun d M1 u H1 e1 s1 re1 r1 q => q σ H1 e1 s1 re1) (ends_ex re)
theorem xs_ret (he : XE X W e te) : XS X W (.Return (some e) pos) (dRet te) := by
  refine ⟨fun D D' env M l h => he.mono _ _ _ _ _ _ (fun d M1 => l.rt d M1) (fun c f M1 => l.ex c f _ M1) h, PSw (ps_ret he.pe) ?_⟩
  rintro D σ H ⟨env, M, re, s, h⟩
  exact stepE he.mono re s h (fun d M1 u H1 e1 s1 re1 r1 q => q u H1 e1 s1 r1) (ends_ex re)
theorem xs_retN : XS X W (.Return none pos) dRetN := by
  refine ⟨fun D D' env M l h => l.rt _ _ h, PSw ps_retN ?_⟩
  rintro D σ H ⟨env, M, re, s, h⟩
  exact h .non H Ext.refl s rep_of
theorem xs_if {a b : List Stmt} (hc : XT X W c tc) (ha : XSs X W a t) (hb : XSs X W b u) : XS X W (.If c a b pos) (dIfS tc t u) := by
  refine ⟨fun D D' env M l h => hc.mono _ _ _ _ _ _ (fun b M1 => ?_) (fun c f M1 => l.ex c f _ M1) h, PSw (ps_if hc.pt ha.ps hb.ps) ?_⟩
  · cases b with
    | true => rw [if_pos rfl, if_pos rfl]; exact ha.mono _ _ _ _ l
    | false => rw [if_neg Bool.false_ne_true, if_neg Bool.false_ne_true]; exact hb.mono _ _ _ _ l
  · rintro D σ H ⟨env, M, re, s, h⟩
    refine stepT hc.mono re s h (fun b M1 H1 e1 s1 re1 q => ?_) (ends_ex re)
    cases b with
    | true =>
      rw [if_pos rfl] at q ⊢
      exact ⟨env, M1, re1, s1, ha.mono _ _ _ _ (upEnds_le e1) q⟩
    | false =>
      rw [if_neg Bool.false_ne_true] at q ⊢
      exact ⟨env, M1, re1, s1, hb.mono _ _ _ _ (upEnds_le e1) q⟩
theorem bind_mono {p : Pat} {M1 : Mem} {d : D} {env : DEnv} {N N' : DEnv → Mem → Prop} (h : ∀ e M, N e M → N' e M) : (match p.bind M1 d env with | some env1 => N env1 M1 | none => False) → (match p.bind M1 d env with | some env1 => N' env1 M1 | none => False) := by
  cases p.bind M1 d env with
  | none => exact id
  | some e => exact h e M1
theorem asg_up (he : XE X W e te) (p : Pat) : ∀ D σ H, liftS X.K W (dAsg te p) D σ H → tAsg (liftE X.K W te) (p.tg X.K) D σ H := by
  rintro D σ H ⟨env, M, re, s, h⟩
  refine stepE he.mono re s h (fun d M1 u H1 e1 s1 re1 r1 q => ?_) (ends_ex re)
  split at q
  · rename_i env1 hb
    obtain ⟨σ', h1, _, h3⟩ := Pat.rep s1 p.slots p r1 re1 hb (fun _ h => h)
    exact h3 _ (q σ' H1 e1 s1 h1)
  · exact q.elim
theorem dAsg_mono (he : MonoE te) {p : Pat} : MonoS (dAsg te p) := fun D D' env M l h => he _ _ _ _ _ _ (fun d M1 => bind_mono l.nx) (fun c f M1 => l.ex c f _ M1) h
theorem xs_asg {tg : Expr} {p : Pat} (he : XE X W e te) (hg : PG X tg (p.tg X.K)) (hs : swapsWithSole [tg] e pos.line X.env = pure false := by rfl) (hw : swappedStores [tg] e X.env = pure none := by rfl)
    (h1 : (assignEach [tg] X.env).map (·.2) = [assign tg X.env] := by rfl) : XS X W (.Assign [tg] e pos) (dAsg te p) := ⟨dAsg_mono he.mono, PSw (ps_asg he.pe hg hs hw h1) (asg_up he p)⟩
theorem xs_set (i : Nat) {x : Str} {pos' : Pos} (hN : X.N.Nodup) (he : XE X W e te) (hi : X.N[i]? = some x := by rfl) (hx : Loc X.env.scope x := by first | exact .inl rfl | exact .inr rfl)
    (hs : swapsWith e (some (.Name x pos')) pos.line X.env = pure false := by rfl) (hf : X.fn x = true ∨ X.env.scope.names.lookup x = some .local := by first | exact .inl rfl | exact .inr rfl) : XS X W (.Assign [.Name x pos'] e pos) (dAsg te (.nm i)) := by
  refine ⟨dAsg_mono he.mono, PSw (ps_set hN hi hx he.pe hs hf) fun D σ H h => ?_⟩
  have := asg_up he (.nm i) D σ H h
  unfold Pat.tg at this
  exact this
/-- x op= e -/
def dAug (i : Nat) (r : DOp2) (te : DE) : DS := fun D env M => match env[i]? with
  | some (some x) => te env M (fun y M1 => (r x y M1).run M1 (fun z M2 => D.nx (env.set i (some z)) M2)) (fun c f M1 => D.ex c f env M1)
  | _ => False
theorem xs_aug (i : Nat) {x : Str} {op : Operator} {r : DOp2} {pos' : Pos} (hN : X.N.Nodup) (ho : XOp X (inplaceOp op) r) (he : XE X W e te) (hi : X.N[i]? = some x := by rfl) (hx : Loc X.env.scope x := by first | exact .inl rfl | exact .inr rfl)
    (hf : X.fn x = true ∨ X.env.scope.names.lookup x = some .local := by first | exact .inl rfl | exact .inr rfl) : XS X W (.AugAssign (.Name x pos') op e pos) (dAug i r te) := by
  refine ⟨fun D D' env M l h => ?_, PSw (ps_aug (ti := upR2 X.K r) hN hi hx he.pe ?_ hf) ?_⟩
  · unfold dAug at h ⊢
    split at h <;> first | exact h.elim | skip
    exact he.mono _ _ _ _ _ _ (fun y M1 => Res.mono fun z M2 => l.nx _ M2) (fun c f M1 => l.ex c f _ M1) h
  · intro pins s σ H x y v u Q I rx ry q
    exact ho pins s σ H x y v u Q I rx ry q
  · rintro D σ H ⟨env, M, re, s, h⟩
    unfold dAug at h
    split at h <;> first | exact h.elim | skip
    rename_i d hd
    obtain ⟨v, h1, h2⟩ := re.2 i d hd
    refine ⟨v, h1, stepE he.mono re s h (fun y M1 u H1 e1 s1 re1 r1 q => ?_) (ends_ex re)⟩
    exact ⟨d, y, M1, RepD.mono e1 _ h2, r1, s1, Res.mono (fun z M2 q2 u2 H2 e2 s2 r2 => q2 _ H2 (e1.trans e2) s2 (re1.mono e2 |>.set r2 i)) q⟩
theorem x_iadd : XOp X (inplaceOp .Add) (fun x y M => match x, y with | .v (.int i), .v (.int j) => .val True (.int (i + j)) | .v (.str a), .v (.str b) => .val (a.length + b.length ≤ sizeLine) (.str (a ++ b)) | _, _ => .bad) := by
  rintro pins s σ H x y v u Q I rx ry ⟨dx, dy, M, r1, r2, sm, h⟩
  dsimp only at h
  split at h <;> first | exact h.elim | skip
  all_goals rw [rep_v r1] at rx; rw [rep_v r2] at ry
  · exact iop_add pins s σ H _ _ v u Q I rx ry ⟨_, _, rfl, rfl, fin_val h.2 sm⟩
  · exact iop_add_str pins s σ H _ _ v u Q I rx ry ⟨_, _, rfl, rfl, h.1, fin_val h.2 sm⟩
theorem x_isub : XOp X (inplaceOp .Sub) opSub := by
  rintro pins s σ H x y v u Q I rx ry ⟨dx, dy, M, r1, r2, sm, h⟩
  unfold opSub at h
  split at h <;> first | exact h.elim | skip
  rw [rep_v r1] at rx; rw [rep_v r2] at ry
  exact iop_sub pins s σ H _ _ v u Q I rx ry ⟨_, _, rfl, rfl, fin_val h.2 sm⟩
end
def opIadd : DOp2 := fun x y M => match x, y with | .v (.int i), .v (.int j) => .val True (.int (i + j)) | .v (.str a), .v (.str b) => .val (a.length + b.length ≤ sizeLine) (.str (a ++ b)) | _, _ => .bad

/-! o[i] = v -/
def putD {κ : Type} [DecidableEq κ] (kvs : List (κ × D)) (k : κ) (d : D) : List (κ × D) := if (kvs.any fun kv => decide (kv.1 = k)) = true then kvs.map (fun kv => if kv.1 = k then (kv.1, d) else kv) else kvs ++ [(k, d)]
theorem RepKV.put {κ : Type} [DecidableEq κ] {K : PySem.W.Frag} {H : Hp} {k : κ} {d : D} {u : V} (q : RepD K H d u) {kvs : List (κ × D)} {us : List (κ × V)} (h : RepKV K H kvs us) : RepKV K H (putD kvs k d) (putK us k u) := by
  have a : ∀ {kvs : List (κ × D)} {us : List (κ × V)}, RepKV K H kvs us → (us.any fun kv => decide (kv.1 = k)) = (kvs.any fun kv => decide (kv.1 = k)) := by
    intro kvs
    induction kvs with
    | nil => intro us h; unfold RepKV at h; rw [h]; rfl
    | cons p r ih =>
      intro us h
      obtain ⟨u', t, rfl, _, z⟩ := h
      simp [List.any_cons, ih z]
  have b : ∀ {kvs : List (κ × D)} {us : List (κ × V)}, RepKV K H kvs us → RepKV K H (kvs.map fun kv => if kv.1 = k then (kv.1, d) else kv) (us.map fun kv => if kv.1 = k then (kv.1, u) else kv) := by
    intro kvs
    induction kvs with
    | nil => intro us h; unfold RepKV at h; rw [h]; rfl
    | cons p r ih =>
      intro us h
      obtain ⟨k', d'⟩ := p
      obtain ⟨u', t, rfl, q', z⟩ := h
      by_cases e : k' = k
      · simp only [List.map_cons, e, if_true]
        exact ⟨u, _, rfl, q, ih z⟩
      · simp only [List.map_cons, e, if_false]
        exact ⟨u', _, rfl, q', ih z⟩
  have c : ∀ {kvs : List (κ × D)} {us : List (κ × V)}, RepKV K H kvs us → RepKV K H (kvs ++ [(k, d)]) (us ++ [(k, u)]) := by
    intro kvs
    induction kvs with
    | nil => intro us h; unfold RepKV at h; rw [h]; exact ⟨u, [], rfl, q, rfl⟩
    | cons p r ih =>
      intro us h
      obtain ⟨k', d'⟩ := p
      obtain ⟨u', t, rfl, q', z⟩ := h
      exact ⟨u', _, rfl, q', ih z⟩
  unfold putD putK
  rw [a h]
  split
  · exact b h
  · exact c h
/-- o i v -/
def opPut : D → D → D → Mem → Res
  | .v (.ref a), y, z, M => match M a with
    | some (.lst ds) => match y with
      | .v (.int i) => match ixN ds.length i with
        | some j => .put True a (.lst (ds.set j z)) .non
        | none => .bad
      | _ => .bad
    | some (.dk kvs) => match y.key with
      | some k => .put (kvs.length < sizeLine) a (.dk (putD kvs k z)) .non
      | none => .bad
    | _ => .bad
  | _, _, _, _ => .bad
def dPut (te to ti : DE) : DS := fun D env M => te env M (fun z M1 => to env M1 (fun o M2 => ti env M2 (fun i M3 => (opPut o i z M3).run M3 (fun _ M4 => D.nx env M4)) (fun c f M' => D.ex c f env M')) (fun c f M' => D.ex c f env M')) (fun c f M' => D.ex c f env M')
section
variable {X : Cx} {W : WX} {o i e : Expr} {to ti te : DE} {pos pos' : Pos}
theorem x_put (hu : X.A.units + 200 < cLine) : PSet X (fun o i v H Q => ∃ d1 di dv M, RepD X.K H d1 o ∧ RepD X.K H di i ∧ RepD X.K H dv v ∧ Sim X.K H M ∧ (opPut d1 di dv M).run M (fun _ M' => ∀ H', Ext X.K H H' → Sim X.K H' M' → Q H')) := by
  rintro pins s σ H o i v ov iv u Q I ro ri rv ⟨d1, d2, d3, M, r1, r2, r3, sm, h⟩
  unfold opPut at h
  split at h <;> first | exact h.elim | skip
  have e1 := rep_v r1
  subst e1
  have ro2 := ro
  obtain rfl : ov = Value.ref _ := ro
  split at h <;> first | exact h.elim | skip
  · split at h <;> first | exact h.elim | skip
    split at h <;> first | exact h.elim | skip
    rename_i hm _ k _ j hj
    rw [rep_v r2] at ri
    obtain ⟨ws, e1, l1⟩ := sm.lst hm
    refine set_list pins s σ H _ _ v _ iv u Q I ro2 ri rv ⟨_, ws, _, j, rfl, rfl, e1, by rw [l1.length]; exact hj, ?_⟩
    exact h.2 _ (Ext.mut e1 True.intro) (sm.put e1 True.intro (repO_lst (Ext.mut e1 True.intro) (RepL.set r3 j l1)))
  · split at h <;> first | exact h.elim | skip
    rename_i kvs hm _ k hk
    obtain ⟨ws, e1, l1⟩ := sm _ _ hm
    have ei := key_rep hk r2
    subst ei
    refine d_setItem (by omega) I (DPut.k e1 (by rw [l1.length]; exact h.1)) ri rv fun s' I' => ⟨_, I', ?_⟩
    have ex := Ext.mut (K := X.K) (o' := .dK (putK ws k v)) e1 True.intro
    exact h.2 _ ex (sm.put e1 True.intro ⟨_, upd_same, RepKV.mono ex (RepKV.put r3 l1)⟩)
theorem xs_put (hu : X.A.units + 200 < cLine) (he : XE X W e te) (ho : XE X W o to) (hi : XE X W i ti) (hs : swapsWithSole [.Subscript o i pos'] e pos.line X.env = pure false := by rfl) (hw : swappedStores [.Subscript o i pos'] e X.env = pure none := by rfl)
    (h1 : (assignEach [.Subscript o i pos'] X.env).map (·.2) = [assign (.Subscript o i pos') X.env] := by rfl)
    (ha : ∀ v, assign (.Subscript o i pos') X.env v = (do let ov ← holding [v] (eval o X.env); let iv ← holding [v, ov] (eval i X.env); standAt pos'; holding [v, ov, iv] (setItem ov iv v); release [v, ov, iv] []) := by intro _; rfl) :
    XS X W (.Assign [.Subscript o i pos'] e pos) (dPut te to ti) := by
  refine ⟨fun D D' env M l h => he.mono _ _ _ _ _ _ (fun z M1 => ho.mono _ _ _ _ _ _ (fun o M2 => hi.mono _ _ _ _ _ _ (fun i M3 => Res.mono fun _ M4 => l.nx _ M4) (fun c f M' => l.ex c f _ M')) (fun c f M' => l.ex c f _ M')) (fun c f M' => l.ex c f _ M') h,
    PSw (ps_asg he.pe (pg_sub ho.pe hi.pe (x_put hu) ha) hs hw h1) ?_⟩
  rintro D σ H ⟨env, M, re, s, h⟩
  refine stepE he.mono re s h (fun z M1 u H1 e1 s1 re1 r1 h1 => ?_) (ends_ex re)
  refine stepE ho.mono re1 s1 h1 (fun o M2 u2 H2 e2 s2 re2 r2 h2 => ?_) fun c f M' q => upX_mono e1 c f M' (ends_ex re c f M' q)
  refine stepE hi.mono re2 s2 h2 (fun i M3 u3 H3 e3 s3 re3 r3 h3 => ?_) fun c f M' q => upX_mono (e1.trans e2) c f M' (ends_ex re c f M' q)
  exact ⟨o, i, z, M3, RepD.mono e3 _ r2, r3, RepD.mono (e2.trans e3) _ r1, s3, Res.mono (fun _ M4 q H' e4 s4 => q σ H' (((e1.trans e2).trans e3).trans e4) s4 (re3.mono e4)) h3⟩
end
end PL

namespace PL
open PySem PySem.Spec PyProof.Rows L2

/-! what is walked: items; what must stand while it is walked -/
structure DIt where
  items : List D
  keep : Mem → Prop
abbrev DI := DEnv → Mem → (DIt → Mem → Prop) → DX → Prop
def MonoI (t : DI) : Prop := ∀ env M (Q Q' : DIt → Mem → Prop) (E E' : DX), (∀ d M, Q d M → Q' d M) → (∀ c f M, E c f M → E' c f M) → t env M Q E → t env M Q' E'
structure ItRep (K : PySem.W.Frag) (H0 : Hp) (J' : It) (J : DIt) : Prop where
  go : ∀ i H M, Ext K H0 H → Sim K H M → J.keep M → i < J.items.length → J'.go i H
  yld : ∀ i H M x H', Ext K H0 H → Sim K H M → J.keep M → i < J.items.length → J'.yld i H x H' → ∃ d, J.items[i]? = some d ∧ RepD K H' d x ∧ Ext K H H' ∧ Sim K H' M
  stop : ∀ H M, Ext K H0 H → Sim K H M → J.keep M → J'.stop J.items.length H
def liftI (K : PySem.W.Frag) (W : WX) (t : DI) : TI := fun σ H R => ∃ env M, RepE K H env σ ∧ Sim K H M ∧ t env M (fun J M' => ∀ J' H', Ext K H H' → Sim K H' M' → ItRep K H' J' J → R J' H') (upX K W H σ)
structure XI (X : Cx) (W : WX) (tg e : Expr) (t : DI) : Prop where
  mono : MonoI t
  pi : PI X tg e (liftI X.K W t)
theorem PIw {X : Cx} {tg e : Expr} {t t' : TI} (h : PI X tg e t) (w : ∀ σ H Q, t' σ H Q → t σ H Q) : PI X tg e t' := ⟨fun pins s σ H Q I q => h.run pins s σ H Q I (w σ H Q q)⟩

theorem rep_list {K : PySem.W.Frag} {H0 : Hp} {a : Addr} {ds : List D} : ItRep K H0 (Itl K a) ⟨ds, fun M => M a = some (.lst ds) ∨ M a = some (.rol ds)⟩ where
  go := fun i H M _ s k hi => by
    obtain ⟨us, q, l⟩ := s.seq k
    have hl : i < us.length := by rw [l.length]; exact hi
    exact ⟨us, us[i], q, by simp [hl]⟩
  yld := fun i H M x H' _ s k _ y => by
    obtain ⟨us, q, l⟩ := s.seq k
    obtain ⟨rfl, y⟩ := y
    obtain ⟨d, h1, h2⟩ := l.get' (y us q)
    exact ⟨d, h1, h2, Ext.refl, s⟩
  stop := fun H M _ s k => by
    obtain ⟨us, q, l⟩ := s.seq k
    exact ⟨us, q, by rw [l.length]; exact Nat.le_refl _⟩
theorem rep_tupI {K : PySem.W.Frag} {H0 : Hp} {a : Addr} {ds : List D} {us : List V} (q : SqT K H0 a us) (l : RepL K H0 ds us) : ItRep K H0 (Itt K a) ⟨ds, fun _ => True⟩ where
  go := fun i H M e s k hi => by
    have hl : i < us.length := by rw [l.length]; exact hi
    exact ⟨us, us[i], e _ _ q, by simp [hl]⟩
  yld := fun i H M x H' e s k _ y => by
    obtain ⟨rfl, y⟩ := y
    obtain ⟨d, h1, h2⟩ := (RepL.mono e ds l).get' (y us (e _ _ q))
    exact ⟨d, h1, h2, Ext.refl, s⟩
  stop := fun H M e s k => ⟨us, e _ _ q, by rw [l.length]; exact Nat.le_refl _⟩

def rg (lo : Int) (n : Nat) : List D := (List.range n).map fun i => D.int (lo + (i : Nat))
theorem rg_length (lo : Int) (n : Nat) : (rg lo n).length = n := by simp [rg]
theorem rep_range {K : PySem.W.Frag} {H0 : Hp} {lo : Int} {n : Nat} : ItRep K H0 (Itr lo n) ⟨rg lo n, fun _ => True⟩ where
  go := fun i H M e s k hi => by rw [rg_length] at hi; exact hi
  yld := fun i H M x H' e s k hi y => by
    obtain ⟨rfl, rfl⟩ := y
    rw [rg_length] at hi
    exact ⟨.int (lo + (i : Nat)), by simp [rg, hi], rep_of, Ext.refl, s⟩
  stop := fun H M e s k => by rw [rg_length]; exact Nat.le_refl n
def signs (x : Str) : List D := x.cps.toList.map fun c => D.str ⟨#[c]⟩
theorem rep_str {K : PySem.W.Frag} {H0 : Hp} {x : Str} : ItRep K H0 (Its x) ⟨signs x, fun _ => True⟩ where
  go := fun i H M e s k hi => by
    have : (signs x).length = x.cps.size := by simp [signs]
    show i < x.cps.size
    rw [← this]
    exact hi
  yld := fun i H M v H' e s k hi y => by
    obtain ⟨rfl, c, hc, rfl⟩ := y
    refine ⟨.str ⟨#[c]⟩, ?_, rep_of, Ext.refl, s⟩
    simp [signs, List.getElem?_map, hc]
  stop := fun H M e s k => by
    have : (signs x).length = x.cps.size := by simp [signs]
    rw [this]
    exact Nat.le_refl _

/-! for over a list, a tuple, a text -/
def dWalk (te : DE) : DI := fun env M R E => te env M (fun d M1 => match d with
  | .tup ds => R ⟨ds, fun _ => True⟩ M1
  | .v (.str x) => R ⟨signs x, fun _ => True⟩ M1
  | .v (.ref a) => match M1 a with
    | some (.lst ds) => R ⟨ds, fun M => M a = some (.lst ds) ∨ M a = some (.rol ds)⟩ M1
    | some (.rol ds) => R ⟨ds, fun M => M a = some (.lst ds) ∨ M a = some (.rol ds)⟩ M1
    | _ => False
  | _ => False) E
section
variable {X : Cx} {W : WX} {tg e : Expr} {te : DE} {pos p : Pos}
theorem iter_list {pins : List (Addr × Obj)} {σ : L2.St} {H : Hp} {s : Shared} {a : Addr} {us : List V} {R : It → Hp → Prop} (I : Inv X pins σ H s) (h : SqL X.K H a us) (q : R (Itl X.K a) H) : wpAny (model X.prog X.w) X.A (pyIter (.ref a)) (PIE X pins σ tg R) X.xe s := by
  obtain ⟨its, rv, p, hz⟩ := I.list h
  exact wpAny_pyIter_list p.isList (pi_one (tk := s.toks) I _ (turn_list a _) ⟨_, Heap.get?_push_size _ rfl, rfl, rfl⟩ q)
theorem iter_tup {pins : List (Addr × Obj)} {σ : L2.St} {H : Hp} {s : Shared} {a : Addr} {us : List V} {R : It → Hp → Prop} (I : Inv X pins σ H s) (h : SqT X.K H a us) (q : R (Itt X.K a) H) : wpAny (model X.prog X.w) X.A (pyIter (.ref a)) (PIE X pins σ tg R) X.xe s := by
  obtain ⟨its, rv, p, hz⟩ := I.tuple h
  exact wpAny_pyIter_tuple (show s.heap.IsTuple a its.toArray from p) (pi_one (tk := s.toks) I _ (turn_tuple a _) ⟨_, Heap.get?_push_size _ rfl, rfl, rfl⟩ q)
theorem iter_str {pins : List (Addr × Obj)} {σ : L2.St} {H : Hp} {s : Shared} {x : Str} {t : Tok} {R : It → Hp → Prop} (I : Inv X pins σ H s) (q : R (Its x) H) : wpAny (model X.prog X.w) X.A (pyIter (.str x t)) (PIE X pins σ tg R) X.xe s := by
  cases hx : x.cps.all (· < 128) with
  | false => exact wpAny_pyIter_wide hx (pi_one (tk := s.toks) I _ (turn_str _ x t "str_iterator" (.inr rfl)) ⟨_, Heap.get?_push_size _ rfl, rfl, rfl⟩ q)
  | true => exact wpAny_pyIter_ascii hx (pi_one (tk := s.toks) I _ (turn_str _ x t "str_ascii_iterator" (.inl rfl)) ⟨_, Heap.get?_push_size _ rfl, rfl, rfl⟩ q)
theorem xi_walk (he : XE X W e te) : XI X W tg e (dWalk te) := by
  refine ⟨fun env M Q Q' E E' hQ hE => he.mono env M _ _ _ _ (fun d M1 => ?_) hE, ⟨fun pins s σ H R I h => ?_⟩⟩
  · cases d with
    | tup ds => exact hQ _ _
    | v x => cases x with
      | str z => exact hQ _ _
      | ref a =>
        dsimp only
        cases M1 a with
        | none => exact id
        | some o => cases o <;> first | exact id | exact hQ _ _
      | _ => exact id
  · obtain ⟨env, M, re, sm, h⟩ := h
    have q : liftE X.K W te σ H fun u H1 => (∃ a us, u = .ref a ∧ SqL X.K H1 a us ∧ R (Itl X.K a) H1) ∨ (∃ a us, u = .ref a ∧ SqT X.K H1 a us ∧ R (Itt X.K a) H1) ∨ ∃ x, u = .str x ∧ R (Its x) H1 := by
      refine stepE he.mono re sm h (fun d M1 u H1 e1 s1 re1 r1 q => ?_) fun _ _ _ z => z
      split at q
      · obtain ⟨a, us, rfl, q1, l1⟩ := rep_tup r1
        exact .inr (.inl ⟨a, us, rfl, q1, q _ H1 e1 s1 (rep_tupI q1 l1)⟩)
      · exact .inr (.inr ⟨_, rep_v r1, q _ H1 e1 s1 rep_str⟩)
      · split at q <;> first | exact q.elim | skip
        · rename_i hm
          obtain ⟨us, q1, l1⟩ := s1.seq (.inl hm)
          exact .inl ⟨_, us, rep_v r1, q1, q _ H1 e1 s1 rep_list⟩
        · rename_i hm
          obtain ⟨us, q1, l1⟩ := s1.seq (.inr hm)
          exact .inl ⟨_, us, rep_v r1, q1, q _ H1 e1 s1 rep_list⟩
      · exact q.elim
    refine thn (he.pe.run pins s σ H _ I q) fun v s1 ⟨u, H1, I1, r1, q1⟩ => ?_
    rcases q1 with ⟨a, us, rfl, q2, q3⟩ | ⟨a, us, rfl, q2, q3⟩ | ⟨x, rfl, q3⟩
    · obtain rfl : v = Value.ref a := r1
      exact iter_list I1 q2 q3
    · obtain rfl : v = Value.ref a := r1
      exact iter_tup I1 q2 q3
    · obtain ⟨t, rfl⟩ := r1
      exact iter_str I1 q3
def dRange1 (ta : DA) : DI := fun env M R E => ta env M (fun ds M1 => match ds with
  | [.v (.int j)] => (-(2 ^ 62) ≤ j ∧ j < 2 ^ 62) ∧ R ⟨rg 0 j.toNat, fun _ => True⟩ M1
  | _ => False) E
def dRange2 (ta : DA) : DI := fun env M R E => ta env M (fun ds M1 => match ds with
  | [.v (.int i), .v (.int j)] => (-(2 ^ 62) ≤ i ∧ i < 2 ^ 62 ∧ -(2 ^ 62) ≤ j ∧ j < 2 ^ 62) ∧ R ⟨rg i (j - i).toNat, fun _ => True⟩ M1
  | _ => False) E
variable {a b : Expr} {ta : DA}
theorem ran1_mono : ∀ (ds : List D) (M1 : Mem) {Q Q' : DIt → Mem → Prop} (_ : ∀ d M, Q d M → Q' d M), (match ds with
  | [.v (.int j)] => (-(2 ^ 62) ≤ j ∧ j < 2 ^ 62) ∧ Q ⟨rg 0 j.toNat, fun _ => True⟩ M1
  | _ => False) → (match ds with
  | [.v (.int j)] => (-(2 ^ 62) ≤ j ∧ j < 2 ^ 62) ∧ Q' ⟨rg 0 j.toNat, fun _ => True⟩ M1
  | _ => False)
  | [], _, _, _, _ => id
  | [.tup _], _, _, _, _ => id
  | [.v x], _, _, _, hQ => by cases x <;> first | exact id | exact fun h => ⟨h.1, hQ _ _ h.2⟩
  | .v x :: _ :: _, _, _, _, hQ => by cases x <;> exact id
  | .tup _ :: _ :: _, _, _, _, _ => id
theorem xi_range1 (hg : Gl X "range") (hm : X.mg "range" = none) (ha : XA X W [a] ta) (hs : starEach [a] X.env = [(false, eval a X.env)] := by rfl) : XI X W tg (.Call (.Name "range" p) [a] [] pos) (dRange1 ta) := by
  refine ⟨fun env M Q Q' E E' hQ hE => ha.mono env M _ _ _ _ (fun ds M1 => ran1_mono ds M1 hQ) hE, PIw (pi_range1 hg hm ha.pa hs) ?_⟩
  rintro σ H R ⟨env, M, re, s, h⟩
  refine stepA ha.mono re s h (fun ds M1 us H1 e1 s1 re1 r1 q => ?_) fun _ _ _ z => z
  split at q <;> first | exact q.elim | skip
  obtain ⟨u, rfl, q1⟩ := rl1 r1
  rw [rep_v q1]
  exact ⟨_, rfl, q.1.1, q.1.2, q.2 _ H1 e1 s1 rep_range⟩
theorem xi_range2 (hg : Gl X "range") (hm : X.mg "range" = none) (ha : XA X W [a, b] ta) (hs : starEach [a, b] X.env = [(false, eval a X.env), (false, eval b X.env)] := by rfl) (hs2 : starEach [b] X.env = [(false, eval b X.env)] := by rfl) :
    XI X W tg (.Call (.Name "range" p) [a, b] [] pos) (dRange2 ta) := by
  refine ⟨fun env M Q Q' E E' hQ hE h => ?_, PIw (pi_range2 hg hm ha.pa hs hs2) ?_⟩
  · refine ha.mono env M _ _ _ _ (fun ds M1 q => ?_) hE h
    split at q <;> first | exact q.elim | exact ⟨q.1, hQ _ _ q.2⟩
  rintro σ H R ⟨env, M, re, s, h⟩
  refine stepA ha.mono re s h (fun ds M1 us H1 e1 s1 re1 r1 q => ?_) fun _ _ _ z => z
  split at q <;> first | exact q.elim | skip
  obtain ⟨u, v, rfl, q1, q2⟩ := rl2 r1
  rw [rep_v q1, rep_v q2]
  exact ⟨_, _, rfl, q.1, q.2 _ H1 e1 s1 rep_range⟩
end

/-! the for statement: a recursion over the items -/
def dLoop (keep : Mem → Prop) (p : Pat) (tb : DS) (Z : DEnds) : List D → DEnv → Mem → Prop
  | [], env, M => keep M ∧ Z.nx env M
  | x :: r, env, M => keep M ∧ match p.bind M x env with
    | some env1 => tb { Z with nx := dLoop keep p tb Z r, ct := dLoop keep p tb Z r, bk := Z.nx } env1 M
    | none => False
def dFor (ti : DI) (p : Pat) (tb : DS) : DS := fun D env M => ti env M (fun J M1 => dLoop J.keep p tb D J.items env M1) (fun c f M1 => D.ex c f env M1)
theorem dLoop_mono {keep : Mem → Prop} {p : Pat} {tb : DS} (hb : MonoS tb) {Z Z' : DEnds} (l : Z.Le Z') : ∀ (xs : List D) (env : DEnv) (M : Mem), dLoop keep p tb Z xs env M → dLoop keep p tb Z' xs env M
  | [], env, M, h => ⟨h.1, l.nx _ _ h.2⟩
  | x :: r, env, M, h => by
    refine ⟨h.1, ?_⟩
    have h2 := h.2
    split
    · rename_i env1 hb1
      rw [hb1] at h2
      exact hb { Z with nx := dLoop keep p tb Z r, ct := dLoop keep p tb Z r, bk := Z.nx } _ _ _ ⟨dLoop_mono hb l r, l.rt, l.nx, dLoop_mono hb l r, l.ex⟩ h2
    · rename_i hb1
      rw [hb1] at h2
      exact h2
section
variable {X : Cx} {W : WX} {tg iter c : Expr} {body : List Stmt} {ti : DI} {p : Pat} {tb : DS} {tc : DT} {pos : Pos}
theorem xs_for (hp : PassesOwn (model X.prog X.w) X.A X.env X.xe) (hc : X.calm = true) (hi : XI X W tg iter ti) (hg : PG X tg (p.tg X.K)) (hb : XSs X W body tb) (hs : ∀ x, foldedSetIterable iter X.env x = pure x := by intro _; rfl) :
    XS X W (.For tg iter body [] pos) (dFor ti p tb) := by
  refine ⟨fun D D' env M l h => hi.mono _ _ _ _ _ _ (fun J M1 => dLoop_mono hb.mono l _ _ _) (fun c f M1 => l.ex c f _ M1) h, PSw (ps_for hp hc hi.pi hg hb.ps hs) ?_⟩
  rintro D σ H ⟨env, M, re, s, h⟩
  refine ⟨env, M, re, s, hi.mono _ _ _ _ _ _ (fun J M1 q J' H1 e1 s1 ir => ?_) (ends_ex re) h⟩
  refine ⟨fun i m σ' H' => m = J.items.length - i ∧ i ≤ J.items.length ∧ Ext X.K H1 H' ∧ ∃ env M, RepE X.K H' env σ' ∧ Sim X.K H' M ∧ dLoop J.keep p tb (upEnds X.K W H D) (J.items.drop i) env M,
    ⟨J.items.length, by simp, Nat.zero_le _, Ext.refl, env, M1, re.mono e1, s1, by simpa using q⟩, ?_⟩
  rintro i m σ2 H2 ⟨rfl, hi2, e2, env2, M2, re2, s2, q2⟩
  by_cases hlt : i < J.items.length
  · rw [List.drop_eq_getElem_cons hlt] at q2
    obtain ⟨kp, q2⟩ := q2
    refine .inr ⟨ir.go i H2 M2 e2 s2 kp hlt, fun σ' H' => Ext X.K H1 H' ∧ ∃ env M, RepE X.K H' env σ' ∧ Sim X.K H' M ∧ dLoop J.keep p tb (upEnds X.K W H D) (J.items.drop (i + 1)) env M, fun σ' H' n => ⟨_, by omega, rfl, hlt, n⟩, fun x H3 y => ?_⟩
    obtain ⟨d, hd, r3, e3, s3⟩ := ir.yld i H2 M2 x H3 e2 s2 kp hlt y
    rw [List.getElem?_eq_getElem hlt] at hd
    obtain rfl := Option.some.inj hd
    split at q2
    · rename_i env3 hb3
      obtain ⟨σ3, h1, _, h3⟩ := Pat.rep s3 p.slots p r3 (re2.mono e3) hb3 (fun _ h => h)
      refine h3 _ ⟨env3, M2, h1, s3, hb.mono _ _ _ _ ⟨?_, ?_, ?_, ?_, ?_⟩ q2⟩
      · exact fun env4 M4 n σ4 H4 e4 s4 re4 => ⟨(e2.trans e3).trans e4, env4, M4, re4, s4, n⟩
      · exact upK_mono ((e1.trans e2).trans e3)
      · exact upN_mono ((e1.trans e2).trans e3)
      · exact fun env4 M4 n σ4 H4 e4 s4 re4 => ⟨(e2.trans e3).trans e4, env4, M4, re4, s4, n⟩
      · exact fun c f env4 M4 n d σ4 H4 e4 s4 re4 x4 => n d σ4 H4 (((e1.trans e2).trans e3).trans e4) s4 re4 x4
    · exact q2.elim
  · have e : i = J.items.length := by omega
    subst e
    rw [List.drop_length] at q2
    exact .inl ⟨ir.stop H2 M2 e2 s2 q2.1, q2.2 σ2 H2 (e1.trans e2) s2 re2⟩

/-! while: some number of turns is enough -/
def dWhileN (tc : DT) (tb : DS) (D : DEnds) : Nat → DEnv → Mem → Prop
  | 0, _, _ => False
  | n + 1, env, M => tc env M (fun b M1 => if b = true then tb { D with nx := dWhileN tc tb D n, ct := dWhileN tc tb D n, bk := D.nx } env M1 else D.nx env M1) (fun c f M1 => D.ex c f env M1)
def dWhile (tc : DT) (tb : DS) : DS := fun D env M => ∃ n, dWhileN tc tb D n env M
theorem dWhileN_mono {tc : DT} {tb : DS} (hc : MonoT tc) (hb : MonoS tb) {D D' : DEnds} (l : D.Le D') : ∀ (n : Nat) (env : DEnv) (M : Mem), dWhileN tc tb D n env M → dWhileN tc tb D' n env M
  | 0, _, _, h => h
  | n + 1, env, M, h => by
    refine hc _ _ _ _ _ _ (fun b M1 => ?_) (fun c f M1 => l.ex c f _ M1) h
    cases b with
    | true => rw [if_pos rfl, if_pos rfl]; exact hb _ _ _ _ ⟨dWhileN_mono hc hb l n, l.rt, l.nx, dWhileN_mono hc hb l n, l.ex⟩
    | false => rw [if_neg Bool.false_ne_true, if_neg Bool.false_ne_true]; exact l.nx _ _
theorem xs_while (hp : PassesOwn (model X.prog X.w) X.A X.env X.xe) (hc : XT X W c tc) (hb : XSs X W body tb) : XS X W (.While c body [] pos) (dWhile tc tb) := by
  refine ⟨fun D D' env M l h => h.imp fun n => dWhileN_mono hc.mono hb.mono l n env M, PSw (ps_while hp hc.pt hb.ps) ?_⟩
  rintro D σ H ⟨env, M, re, s, n, h⟩
  refine ⟨fun m σ' H' => Ext X.K H H' ∧ ∃ env M, RepE X.K H' env σ' ∧ Sim X.K H' M ∧ dWhileN tc tb (upEnds X.K W H D) m env M, ⟨n, Ext.refl, env, M, re, s, h⟩, ?_⟩
  rintro m σ1 H1 ⟨e1, env1, M1, re1, s1, h1⟩
  match m, h1 with
  | m + 1, h1 =>
    refine stepT hc.mono re1 s1 h1 (fun b M2 H2 e2 s2 re2 q => ?_) fun c f M' z d H' e s' r => z d σ1 H' (e1.trans e) s' (re1.mono e) r
    cases b with
    | true =>
      rw [if_pos rfl] at q ⊢
      refine ⟨fun σ' H' => Ext X.K H H' ∧ ∃ env M, RepE X.K H' env σ' ∧ Sim X.K H' M ∧ dWhileN tc tb (upEnds X.K W H D) m env M, fun σ' H' z => ⟨m, Nat.lt_succ_self _, z⟩, env1, M2, re2, s2, hb.mono _ _ _ _ ⟨?_, ?_, ?_, ?_, ?_⟩ q⟩
      · exact fun env4 M4 n σ4 H4 e4 s4 re4 => ⟨(e1.trans e2).trans e4, env4, M4, re4, s4, n⟩
      · exact upK_mono (e1.trans e2)
      · exact upN_mono (e1.trans e2)
      · exact fun env4 M4 n σ4 H4 e4 s4 re4 => ⟨(e1.trans e2).trans e4, env4, M4, re4, s4, n⟩
      · exact fun c f env4 M4 n d σ4 H4 e4 s4 re4 x4 => n d σ4 H4 ((e1.trans e2).trans e4) s4 re4 x4
    | false =>
      rw [if_neg Bool.false_ne_true] at q ⊢
      exact q σ1 H2 (e1.trans e2) s2 re2
end
end PL

namespace PL
open PySem PySem.Spec PyProof.Rows L2

/-! list comprehensions -/
def wipeD (env : DEnv) : List Nat → DEnv
  | [] => env
  | v :: vs => (wipeD env vs).set v none
theorem RepE.clear {K : PySem.W.Frag} {H : Hp} {env : DEnv} {σ : L2.St} (r : RepE K H env σ) (v : Nat) : RepE K H (env.set v none) (σ.set v none) := by
  refine ⟨by simp [r.1], fun i d q => ?_⟩
  by_cases hj : v = i
  · subst hj
    by_cases hi : v < env.length
    · rw [List.getElem?_set_self hi] at q; cases q
    · rw [List.getElem?_eq_none (by simpa using hi)] at q; cases q
  · rw [List.getElem?_set_ne hj] at q ⊢
    exact r.2 i d q
theorem RepE.wipe {K : PySem.W.Frag} {H : Hp} {env : DEnv} {σ : L2.St} (r : RepE K H env σ) : ∀ vs : List Nat, RepE K H (wipeD env vs) (L2.wipe σ vs)
  | [] => r
  | v :: vs => (r.wipe vs).clear v
theorem wipe_wipe {σ : L2.St} : ∀ vs : List Nat, L2.wipe (L2.wipe σ vs) vs = L2.wipe σ vs := by
  have comm : ∀ (vs : List Nat) (σ : L2.St) (v : Nat), L2.wipe (σ.set v none) vs = (L2.wipe σ vs).set v none := by
    intro vs
    induction vs with
    | nil => intro σ v; rfl
    | cons w ws ih =>
      intro σ v
      show (L2.wipe (σ.set v none) ws).set w none = ((L2.wipe σ ws).set w none).set v none
      rw [ih]
      by_cases e : v = w
      · subst e; rfl
      · rw [List.set_comm _ _ e]
  intro vs
  induction vs with
  | nil => rfl
  | cons v vs ih =>
    show (L2.wipe ((L2.wipe σ vs).set v none) vs).set v none = (L2.wipe σ vs).set v none
    rw [comm, ih, List.set_set]
abbrev noX : DX := fun _ _ _ => False
/-- a: the new list; the items, what is made so far -/
def dLcGo (keep : Mem → Prop) (p : Pat) (tt : DT) (te : DE) (env : DEnv) (a : Addr) (Q : DK) : List D → List D → Mem → Prop
  | [], acc, M => keep M ∧ M a = some (.lst acc) ∧ Q (.ob a) M
  | x :: r, acc, M => keep M ∧ match p.bind M x env with
    | some env1 => tt env1 M (fun b M2 => if b = true then te env1 M2 (fun y M3 => M3 a = some (.lst acc) ∧ acc.length < sizeLine ∧ dLcGo keep p tt te env a Q r (acc ++ [y]) (mupd M3 a (.lst (acc ++ [y])))) noX else dLcGo keep p tt te env a Q r acc M2) noX
    | none => False
def dLc (ti : DI) (p : Pat) (tt : DT) (te : DE) (vs : List Nat) : DE := fun env M Q E => ti env M (fun J M1 => ∀ a, M1 a = none → dLcGo J.keep p tt te (wipeD env vs) a Q J.items [] (mupd M1 a (.lst []))) E
def dYes : DT := fun _ M Q _ => Q true M
theorem dYes_mono : MonoT dYes := fun _ _ _ _ _ _ hQ _ h => hQ _ _ h
theorem dLcGo_mono {keep : Mem → Prop} {p : Pat} {tt : DT} {te : DE} (ht : MonoT tt) (he : MonoE te) {env : DEnv} {a : Addr} {Q Q' : DK} (hQ : ∀ d M, Q d M → Q' d M) : ∀ (xs acc : List D) (M : Mem), dLcGo keep p tt te env a Q xs acc M → dLcGo keep p tt te env a Q' xs acc M
  | [], acc, M, h => ⟨h.1, h.2.1, hQ _ _ h.2.2⟩
  | x :: r, acc, M, h => by
    refine ⟨h.1, ?_⟩
    have h2 := h.2
    split
    · rename_i env1 hb1
      rw [hb1] at h2
      refine ht _ _ _ _ _ _ (fun b M2 => ?_) (fun _ _ _ z => z) h2
      cases b with
      | true =>
        rw [if_pos rfl, if_pos rfl]
        exact he _ _ _ _ _ _ (fun y M3 z => ⟨z.1, z.2.1, dLcGo_mono ht he hQ r _ _ z.2.2⟩) (fun _ _ _ z => z)
      | false =>
        rw [if_neg Bool.false_ne_true, if_neg Bool.false_ne_true]
        exact dLcGo_mono ht he hQ r _ _
    · rename_i hb1
      rw [hb1] at h2
      exact h2
abbrev W0 : WX := fun _ _ _ _ => False
structure XTs (X : Cx) (W : WX) (es : List Expr) (t : DT) : Prop where
  mono : MonoT t
  pts : PTs X es (liftT X.K W t)
theorem xts_nil {X : Cx} {W : WX} : XTs X W [] dYes := by
  refine ⟨dYes_mono, ⟨fun pins s σ H Q I h => ?_⟩⟩
  obtain ⟨env, M, re, sm, h⟩ := h
  exact pts_nil.run pins s σ H Q I (h H Ext.refl sm)
theorem xts_one {X : Cx} {W : WX} {c : Expr} {t : DT} (h : XT X W c t) : XTs X W [c] t := ⟨h.mono, pts_one h.pt⟩

section
variable {X : Cx} {W : WX} {elt tg iter : Expr} {ifs : List Expr} {scope : Scope} {own : List (Str × Nat)} {pos : Pos} {ti : DI} {p : Pat} {tt : DT} {te : DE}
theorem lc_up (hi : XI X W tg iter ti) (mt : MonoT tt) (me : MonoE te) (vs : List Nat) (hv : ∀ i ∈ p.slots, i ∈ vs) : ∀ σ H Q, liftE X.K W (dLc ti p tt te vs) σ H Q → tLc (liftI X.K W ti) (p.tg X.K) (liftT X.K W0 tt) (liftE X.K W0 te) vs σ H Q := by
  rintro σ H Q ⟨env, M, re, s, h⟩
  refine ⟨env, M, re, s, hi.mono _ _ _ _ _ _ (fun J M1 q J' H1 e1 s1 ir => ?_) (fun _ _ _ z => z) h⟩
  intro a ha
  have q := q a (s1.free ha)
  have sA : Sim X.K (upd H1 a (.lst [])) (mupd M1 a (.lst [])) := s1.new ha (repO_lst (Ext.new ha) .nil)
  have eA : Ext X.K H1 (upd H1 a (.lst [])) := Ext.new ha
  refine ⟨fun i m H' => m = J.items.length - i ∧ i ≤ J.items.length ∧ Ext X.K H1 H' ∧ ∃ M acc, Sim X.K H' M ∧ dLcGo J.keep p tt te (wipeD env vs) a (upK X.K H Q) (J.items.drop i) acc M,
    ⟨J.items.length, by simp, Nat.zero_le _, eA, _, [], sA, by simpa using q⟩, ?_⟩
  rintro i m H2 ⟨rfl, hi2, e2, M2, acc, s2, q2⟩
  by_cases hlt : i < J.items.length
  · rw [List.drop_eq_getElem_cons hlt] at q2
    obtain ⟨kp, q2⟩ := q2
    refine .inr ⟨ir.go i H2 M2 e2 s2 kp hlt, fun H' => Ext X.K H1 H' ∧ ∃ M acc, Sim X.K H' M ∧ dLcGo J.keep p tt te (wipeD env vs) a (upK X.K H Q) (J.items.drop (i + 1)) acc M, fun H' n => ⟨_, by omega, rfl, hlt, n⟩, fun x H3 y => ?_⟩
    obtain ⟨d, hd, r3, e3, s3⟩ := ir.yld i H2 M2 x H3 e2 s2 kp hlt y
    rw [List.getElem?_eq_getElem hlt] at hd
    obtain rfl := Option.some.inj hd
    split at q2
    · rename_i env3 hb3
      have re3 : RepE X.K H3 (wipeD env vs) (L2.wipe σ vs) := (re.mono ((e1.trans e2).trans e3)).wipe vs
      obtain ⟨σ3, h1, hw, h3⟩ := Pat.rep s3 vs p r3 re3 hb3 hv
      refine h3 _ ⟨hw.trans (wipe_wipe vs), ?_⟩
      refine stepT mt h1 s3 q2 (fun b M4 H4 e4 s4 re4 q4 => ?_) fun _ _ _ z => z.elim
      cases b with
      | true =>
        rw [if_pos rfl] at q4 ⊢
        refine stepE me re4 s4 q4 (fun y M5 u H5 e5 s5 re5 r5 q5 => ?_) fun _ _ _ z => z.elim
        obtain ⟨ma5, lz, q5⟩ := q5
        obtain ⟨us, h5, l5⟩ := s5.lst ma5
        have ex : Ext X.K H5 (upd H5 a (.lst (us ++ [u]))) := Ext.mut h5 True.intro
        refine ⟨us, h5, by rw [l5.length]; exact lz, (((e2.trans e3).trans e4).trans e5).trans ex, _, _, s5.put h5 True.intro (repO_lst ex (RepL.append l5 (.cons r5 .nil))), q5⟩
      | false =>
        rw [if_neg Bool.false_ne_true] at q4 ⊢
        exact ⟨(e2.trans e3).trans e4, M4, acc, s4, q4⟩
    · exact q2.elim
  · have e : i = J.items.length := by omega
    subst e
    rw [List.drop_length] at q2
    exact .inl ⟨ir.stop H2 M2 e2 s2 q2.1, q2.2.2 (.ref a) H2 (e1.trans e2) s2 rep_of⟩
theorem dLc_mono {vs : List Nat} (hi : MonoI ti) (mt : MonoT tt) (me : MonoE te) : MonoE (dLc ti p tt te vs) := fun env M Q Q' E E' hQ hE => hi _ _ _ _ _ _ (fun J M1 q a ha => dLcGo_mono mt me hQ _ _ _ (q a ha)) hE
abbrev BlkAll (X : Cx) (scope : Scope) (P : Cx → Prop) : Prop := ∀ (s : Shared) (H : Hp) (C : Addr) (cl : List (Str × Addr)) (fp : List Addr), P (X.blk s H scope (compEnvC scope cl C X.env) fp)
theorem xe_lc (hc : X.calm = true) (hN : X.N.Nodup) (hi : XI X W tg iter ti) (ok : BlkOk X.N X.env.scope scope own) (hg : BlkAll X scope fun Y => PG Y tg (p.tg X.K)) (ht : BlkAll X scope fun Y => XTs Y W0 ifs tt) (he : BlkAll X scope fun Y => XE Y W0 elt te)
    (hv : p.slots.all (fun i => decide (i ∈ own.map (·.2))) = true := by decide) (hs : ∀ x, foldedSetIterable iter X.env x = pure x := by intro _; rfl) : XE X W (.ListComp elt [⟨tg, iter, ifs, 0⟩] scope pos) (dLc ti p tt te (own.map (·.2))) := by
  have mt := (ht X.s_0 X.H_0 0 [] []).mono
  have me := (he X.s_0 X.H_0 0 [] []).mono
  refine ⟨dLc_mono hi.mono mt me, PEw (pe_lc (g := p.tg X.K) (tt := liftT X.K W0 tt) (te := liftE X.K W0 te) hc hN hi.pi ok hg (fun s H C cl fp => (ht s H C cl fp).pts) (fun s H C cl fp => (he s H C cl fp).pe) hs) (lc_up hi mt me _ fun i h => ?_)⟩
  exact of_decide_eq_true (List.all_eq_true.mp hv i h)
theorem xs_setLc (i : Nat) {y : Str} {py : Pos} {spos : Pos} (hc : X.calm = true) (hN : X.N.Nodup) (hyl : X.env.scope.names.lookup y = some .local) (hsw : swapsWith (.ListComp elt [⟨tg, iter, ifs, 0⟩] scope pos) (some (.Name y py)) spos.line X.env = pure true)
    (hi : XI X W tg iter ti) (ok : BlkOk X.N X.env.scope scope own) (hg : BlkAll X scope fun Y => PG Y tg (p.tg X.K)) (ht : BlkAll X scope fun Y => XTs Y W0 ifs tt) (he : BlkAll X scope fun Y => XE Y W0 elt te)
    (hy : X.N[i]? = some y := by rfl) (hv : p.slots.all (fun i => decide (i ∈ own.map (·.2))) = true := by decide) (hs : ∀ x, foldedSetIterable iter X.env x = pure x := by intro _; rfl) :
    XS X W (.Assign [.Name y py] (.ListComp elt [⟨tg, iter, ifs, 0⟩] scope pos) spos) (dAsg (dLc ti p tt te (own.map (·.2))) (.nm i)) := by
  have mt := (ht X.s_0 X.H_0 0 [] []).mono
  have me := (he X.s_0 X.H_0 0 [] []).mono
  have ml := dLc_mono (p := p) (vs := own.map (·.2)) hi.mono mt me
  refine ⟨dAsg_mono ml, PSw (ps_setLc (g := p.tg X.K) (tt := liftT X.K W0 tt) (te := liftE X.K W0 te) hc hN hy hyl hsw hi.pi ok hg (fun s H C cl fp => (ht s H C cl fp).pts) (fun s H C cl fp => (he s H C cl fp).pe) hs) ?_⟩
  rintro D σ H ⟨env, M, re, s, h⟩
  refine lc_up hi mt me _ (fun i h => of_decide_eq_true (List.all_eq_true.mp hv i h)) σ H _ (stepE ml re s h (fun d M1 u H1 e1 s1 re1 r1 q => ?_) (ends_ex re))
  exact q (σ.set i (some u)) H1 e1 s1 (re1.set r1 i)
end
end PL

namespace PL
open PySem PySem.Spec PyProof.Rows L2

/-! a def's body -/
abbrev bx (P : Program) (w : World) (K : PySem.W.Frag) (mg : Str → Option Value) (base : Heap) (N : List Str) (qual : Str) (st : Stmt) (f : Addr) (cdv : Value) (A : Around) (outer : List Env) (s : Shared) (H : Hp) (E : XK) : Cx :=
  cxOf (L2.CX P w) P w K mg base N qual (defScope st) f cdv A outer s H E
abbrev bW (E : XK) : WX := fun cls d _ H => E cls d H
theorem bx_takes {P : Program} {w : World} {K : PySem.W.Frag} {mg : Str → Option Value} {base : Heap} {N : List Str} {qual : Str} {st : Stmt} {f : Addr} {cdv : Value} {A : Around} {outer : List Env} {s : Shared} {H : Hp} {E : XK} : Takes (bx P w K mg base N qual st f cdv A outer s H E) (bW E) := takes_of rfl rfl rfl rfl
theorem bx_passes {P : Program} {w : World} {K : PySem.W.Frag} {mg : Str → Option Value} {base : Heap} {N : List Str} {qual : Str} {st : Stmt} {f : Addr} {cdv : Value} {A : Around} {outer : List Env} {s : Shared} {H : Hp} {E : XK} :
    PassesOwn (model (bx P w K mg base N qual st f cdv A outer s H E).prog (bx P w K mg base N qual st f cdv A outer s H E).w) (bx P w K mg base N qual st f cdv A outer s H E).A (bx P w K mg base N qual st f cdv A outer s H E).env (bx P w K mg base N qual st f cdv A outer s H E).xe := passes_of rfl
def startD (N : List Str) (ds : List D) : DEnv := ds.map some ++ List.replicate (N.length - ds.length) none
theorem rep_start {K : PySem.W.Frag} {H : Hp} {N : List Str} {ds : List D} {vs : List V} (r : RepL K H ds vs) : RepE K H (startD N ds) (L2.start N vs) := by
  refine ⟨by simp [startD, L2.start, r.length], fun i d h => ?_⟩
  have hi : i < ds.length := by
    by_cases hi : i < ds.length
    · exact hi
    · unfold startD at h
      rw [List.getElem?_append_right (by simpa using hi), List.getElem?_replicate] at h
      split at h <;> cases h
  unfold startD at h
  rw [List.getElem?_append_left (by simpa using hi), List.getElem?_map] at h
  cases e : ds[i]? with
  | none => rw [e] at h; cases h
  | some d' =>
    rw [e] at h
    cases h
    obtain ⟨u, h1, h2⟩ := r.get e
    refine ⟨u, ?_, h2⟩
    unfold L2.start
    rw [List.getElem?_append_left (by simpa [r.length] using hi), List.getElem?_map, h1]
    rfl
def retEnds (Q : DK) (E : DX) : DEnds := { nx := fun _ M' => Q .non M', rt := Q, ex := fun c fs _ M' => E c fs M' }
theorem fn_ok {P : Program} {w : World} {K : PySem.W.Frag} {mg : Str → Option Value} {base : Heap} {x qual : Str} {st : Stmt} {f : Addr} {fd : FuncData} {N ps : List Str} {k : Nat} {sp : DSp} (F : Fun K x qual st f fd) (S : FnScope N ps (defScope st))
    (len : ∀ ds M Q E, sp ds M Q E → ds.length = ps.length)
    (hb : ∃ t : DS, (∀ cdv A outer s H E, Room k (A.deeper (envOfC qual (defScope st) s.heap.objs.size f cdv)) → XSs (bx P w K mg base N qual st f cdv A outer s H E) (bW E) (defBody st) t) ∧
      ∀ ds M Q E, sp ds M Q E → t (retEnds Q E) (startD N ds) M) : FnOk P w K mg base (L2.CX P w) (k + 1) f fd ps (liftSp K sp) := by
  obtain ⟨t, ht, hq⟩ := hb
  refine F.okX S (fun vs H Q E h => ?_) (fun cdv A outer s H vs Q E hr h => ?_)
  · obtain ⟨ds, M, r, _, h⟩ := h
    rw [r.length]
    exact len _ _ _ _ h
  · obtain ⟨ds, M, r, sm, h⟩ := h
    refine ⟨_, (ht cdv A outer s H E hr).ps, startD N ds, M, rep_start r, sm, (ht cdv A outer s H E hr).mono _ _ _ _ ⟨?_, ?_, ?_, ?_, ?_⟩ (hq _ _ _ _ h)⟩
    · exact fun e M' q σ' H' e' s' _ => q .non H' e' s' rep_of
    · exact fun d M' q => q
    · exact fun e M' q => q.elim
    · exact fun e M' q => q.elim
    · exact fun c fs e M' q d σ' H' e' s' _ x => q d H' e' s' x
theorem _root_.L2.Room.u200 {k : Nat} {A : Around} (r : Room k A) : A.units + 200 < cLine := by have := r.un; omega
theorem mkFn {P : Program} {w : World} {K : PySem.W.Frag} {mg : Str → Option Value} {base : Heap} {x : Str} {f : Addr} {fd : FuncData} {ps : List Str} {k : Nat} {sp : DSp} (m : MonoSp sp) (F : FnOk P w K mg base (L2.CX P w) k f fd ps (liftSp K sp)) (hm : mg x = some (.ref f))
    (hk : PySem.W.keepIn K (.ref f) = true) (hb : Binds K fd ps []) : Fn P w K mg base k x sp [] := ⟨m, f, fd, ps, [], [], F, hm, hk, hb, .nil, fun _ => .nil⟩

theorem xe_globE {X : Cx} {W : WX} {x : Str} {v : V} {pos : Pos} (hg : Gl X x) (h : ∃ u, X.mg x = some u ∧ RelV v u) (hd : (x == ("__debug__" : Str)) = false := by decide) : XE X W (.Name x pos) (dC (.v v)) := by
  obtain ⟨u, hm, r⟩ := h
  exact xe_glob hg hm r hd

/-! raise -/
def dRaise (c : Value) (fs : List (Str × D)) : DS := fun Z env M => Z.ex c fs env M
section
variable {X : Cx} {W : WX} {pos : Pos}
theorem xs_raise0 {C : Addr} {e : Expr} (hc : X.calm = true) (tk : Takes X W) (h : PMk X e (fun _ H Q => Q (.ref C) none H)) : XS X W (.Raise (some e) none pos) (dRaise (.ref C) []) := by
  refine ⟨fun D D' env M l h => l.ex _ _ _ _ h, PSw (ps_raise hc tk h) ?_⟩
  rintro D σ H ⟨env, M, re, s, q⟩
  exact q none σ H Ext.refl s re rfl

/-! try: .. except C as n: .. -/
def suiteEnds (i : Nat) (Z : DEnds) : DEnds where
  nx := fun e' => Z.nx (e'.set i none)
  rt := Z.rt
  bk := fun e' => Z.bk (e'.set i none)
  ct := fun e' => Z.ct (e'.set i none)
theorem suiteEnds_le {i : Nat} {Z Z' : DEnds} (l : Z.Le Z') : (suiteEnds i Z).Le (suiteEnds i Z') := ⟨fun _ _ => l.nx _ _, l.rt, fun _ _ => l.bk _ _, fun _ _ => l.ct _ _, fun _ _ _ _ h => h⟩
def exTry (hd : Value → Option Bool) (i : Nat) (ts : Addr → Value → DS) (Z : DEnds) : Value → List (Str × D) → DEnv → Mem → Prop := fun c fs e M' => match hd c with
  | some true => fs = [] ∧ ∀ a, M' a = none → ts a c (suiteEnds i Z) (e.set i (some (.ob a))) M'
  | some false => Z.ex c fs e M'
  | none => False
theorem exTry_mono {hd : Value → Option Bool} {i : Nat} {ts : Addr → Value → DS} (mt : ∀ a c, MonoS (ts a c)) {Z Z' : DEnds} (l : Z.Le Z') : ∀ c fs e M', exTry hd i ts Z c fs e M' → exTry hd i ts Z' c fs e M' := fun c fs e M' q => by
  unfold exTry at q ⊢
  cases hq : hd c with
  | none => rw [hq] at q; exact q
  | some b =>
    rw [hq] at q
    cases b with
    | true => exact ⟨q.1, fun a ha => mt _ _ _ _ _ _ (suiteEnds_le l) (q.2 a ha)⟩
    | false => exact l.ex _ _ _ _ q
def dTryAs (hd : Value → Option Bool) (i : Nat) (tb : DS) (ts : Addr → Value → DS) : DS := fun Z env M => tb { Z with ex := exTry hd i ts Z } env M
theorem xs_tryAs {x n : Str} {c : Value} (i : Nat) {body suite : List Stmt} {b₀ : Stmt} {np pos' : Pos} {tb : DS} {ts : Addr → Value → DS} (hs : X.stack = X.env :: X.outer) (hf : X.env.frame = some X.env.locals) (hN : X.N.Nodup) (hln : X.env.kindOf n = some .local) (hc : Names X x c) (tk : Takes X W)
    (mt : ∀ a c, MonoS (ts a c)) (hb : ∀ (W : WX) (pn : List (Addr × Obj)) (xe : Value → Shared → Prop), Takes (X.tr pn xe) W → PassesOwn (model X.prog X.w) X.A X.env xe → XSs (X.tr pn xe) W body tb)
    (hsu : ∀ (a : Addr) (oe : Obj) (cls : Value) (pn : List (Addr × Obj)), Zc cls none oe → (∃ vs, oe.data = .fields vs) → XSs (X.suite a ((a, oe) :: pn)) W0 (b₀ :: suite) (ts a cls)) (mb : MonoS tb) (hi : X.N[i]? = some n := by rfl) :
    XS X W (.Try body [.ExceptHandler (some (.Name x np)) (some n) (b₀ :: suite) pos'] [] [] pos) (dTryAs (fun z => PySem.W.exmOne X.K z c) i tb ts) := by
  refine ⟨fun Z Z' env M l h => mb { Z with ex := exTry _ i ts Z } _ _ _ ⟨l.nx, l.rt, l.bk, l.ct, exTry_mono mt l⟩ h, PSw (ps_try_as (tb := fun W' => liftS X.K W' tb) (ts := fun a cls d D σ H => d = none ∧ liftS X.K W0 (ts a cls) D σ H) hs hf hN hi hln hc tk (fun W' pn xe t p => (hb W' pn xe t p).ps) fun a oe cls d pn hz hv => ?_) ?_⟩
  · refine ⟨fun pins s σ H D I h => ?_⟩
    obtain ⟨rfl, h⟩ := h
    exact (hsu a oe cls pn hz hv).ps.run pins s σ H D I h
  · rintro D σ H ⟨env, M, re, s, h⟩
    refine ⟨env, M, re, s, mb { upEnds X.K W H D with ex := exTry (fun z => PySem.W.exmOne X.K z c) i ts (upEnds X.K W H D) } _ _ _ ⟨fun _ _ q => q, fun _ _ q => q, fun _ _ q => q, fun _ _ q => q, fun c' fs e M' q d σ' H' e' s' re' rx => ?_⟩ h⟩
    have q : exTry (fun z => PySem.W.exmOne X.K z c) i ts (upEnds X.K W H D) c' fs e M' := q
    unfold exTry at q
    dsimp only at q
    cases hq : PySem.W.exmOne X.K c' c with
    | none => rw [hq] at q; exact q.elim
    | some b =>
      rw [hq] at q
      refine ⟨b, hq, ?_, ?_⟩
      · rintro rfl a ha
        obtain ⟨hfs, q⟩ := q
        have hd : d = none := by
          cases d with
          | none => rfl
          | some d => exact absurd hfs rx.1
        refine ⟨hd, e.set i (some (.ob a)), M', re'.set rep_of i, s', mt _ _ (suiteEnds i (upEnds X.K W H D)) _ _ _ ⟨?_, ?_, ?_, ?_, ?_⟩ (q a (s'.free ha))⟩
        · exact fun e2 M2 z σ2 H2 x2 s2 r2 => z (σ2.set i none) H2 (e'.trans x2) s2 (r2.clear i)
        · exact fun d2 M2 z u2 H2 x2 s2 r2 => z u2 H2 (e'.trans x2) s2 r2
        · exact fun e2 M2 z σ2 H2 x2 s2 r2 => z (σ2.set i none) H2 (e'.trans x2) s2 (r2.clear i)
        · exact fun e2 M2 z σ2 H2 x2 s2 r2 => z (σ2.set i none) H2 (e'.trans x2) s2 (r2.clear i)
        · exact fun c f e2 M2 z => z.elim
      · rintro rfl
        exact q d σ' H' e' s' re' rx
end
end PL

namespace PL
open PySem PySem.Spec PyProof.Rows L2

/-! stepping: each rule fires only where a reading has all its arguments -/
def DEnds.to (Z : DEnds) (n : DEnv → Mem → Prop) : DEnds := { Z with nx := n }
def DEnds.lp (Z : DEnds) (n : DEnv → Mem → Prop) : DEnds := { Z with nx := n, ct := n, bk := Z.nx }
def exK (Z : DEnds) (env : DEnv) : DX := fun c f M => Z.ex c f env M
def bifM (b : Bool) (f g : Mem → Prop) (M : Mem) : Prop := if b = true then f M else g M
def optB (b : Option Bool) (Q : Bool → Mem → Prop) (M : Mem) : Prop := match b with
  | some b => Q b M
  | none => False
def optE (e : Option DEnv) (Q : DEnv → Mem → Prop) (M : Mem) : Prop := match e with
  | some e => Q e M
  | none => False
def nxD (Z : DEnds) (env : DEnv) : DK := fun _ M => Z.nx env M
def ifK (t u : DS) (Z : DEnds) (env : DEnv) : Bool → Mem → Prop := fun b M => bifM b (t Z env) (u Z env) M
def asgK (p : Pat) (Z : DEnds) (env : DEnv) : DK := fun d M => optE (p.bind M d env) Z.nx M
def putK3 (o z : D) (Z : DEnds) (env : DEnv) : DK := fun i M => (opPut o i z M).run M (nxD Z env)
def putK2 (ti : DE) (z : D) (Z : DEnds) (env : DEnv) : DK := fun o M => ti env M (putK3 o z Z env) (exK Z env)
def putK1 (to ti : DE) (Z : DEnds) (env : DEnv) : DK := fun z M => to env M (putK2 ti z Z env) (exK Z env)
def augK2 (i : Nat) (Z : DEnds) (env : DEnv) : DK := fun z M => Z.nx (env.set i (some z)) M
def augK (i : Nat) (r : DOp2) (x : D) (Z : DEnds) (env : DEnv) : DK := fun y M => (r x y M).run M (augK2 i Z env)
def augV (i : Nat) (r : DOp2) (te : DE) (Z : DEnds) (env : DEnv) (M : Mem) : Option (Option D) → Prop
  | some (some x) => te env M (augK i r x Z env) (exK Z env)
  | _ => False
def varK (M : Mem) (Q : DK) : Option (Option D) → Prop
  | some (some x) => Q x M
  | _ => False
def binK2 (r : DOp2) (x : D) (Q : DK) : DK := fun y M => (r x y M).run M Q
def binK1 (r : DOp2) (tb : DE) (env : DEnv) (Q : DK) (E : DX) : DK := fun x M => tb env M (binK2 r x Q) E
def cbK (r : DCall) (Q : DK) : List D → Mem → Prop := fun ds M => (r ds M).run M Q
def callK (sp : DSp) (dvs : List D) (Q : DK) (E : DX) : List D → Mem → Prop := fun ds M => sp (ds ++ dvs) M Q E
def mK2 (r : DMeth) (x : D) (Q : DK) : List D → Mem → Prop := fun ds M => (r x ds M).run M Q
def mK1 (T : String) (r : DMeth) (t : DA) (env : DEnv) (Q : DK) (E : DX) : DK := fun x M => isTy T x M ∧ t env M (mK2 r x Q) E
def consK2 (d : D) (Q : List D → Mem → Prop) : List D → Mem → Prop := fun ds M => Q (d :: ds) M
def consK1 (tr : DA) (env : DEnv) (Q : List D → Mem → Prop) (E : DX) : DK := fun d M => tr env M (consK2 d Q) E
def tupK (n : Nat) (Q : DK) : List D → Mem → Prop := fun ds M => ds.length = n ∧ Q (.tup ds) M
def lstK (n : Nat) (Q : DK) : List D → Mem → Prop := fun ds M => ds.length = n ∧ (Res.new True (.lst ds)).run M Q
def trK (Q : Bool → Mem → Prop) : DK := fun d M => optB (truth M d) Q M
def tK (u : DT) (env : DEnv) (Q : Bool → Mem → Prop) (E : DX) : Mem → Prop := fun M => u env M Q E
def eK (u : DE) (env : DEnv) (Q : DK) (E : DX) : Mem → Prop := fun M => u env M Q E
def cK {α : Type} (x : α) (Q : α → Mem → Prop) : Mem → Prop := fun M => Q x M
def andK (u : DT) (env : DEnv) (Q : Bool → Mem → Prop) (E : DX) : Bool → Mem → Prop := fun b M => bifM b (tK u env Q E) (cK false Q) M
def orK (u : DT) (env : DEnv) (Q : Bool → Mem → Prop) (E : DX) : Bool → Mem → Prop := fun b M => bifM b (cK true Q) (tK u env Q E) M
def notK (Q : Bool → Mem → Prop) : Bool → Mem → Prop := fun b M => Q (!b) M
def ifeK (ta tb : DE) (env : DEnv) (Q : DK) (E : DX) : Bool → Mem → Prop := fun b M => bifM b (eK ta env Q E) (eK tb env Q E) M
def andvK2 (d : D) (tb : DE) (env : DEnv) (Q : DK) (E : DX) : Bool → Mem → Prop := fun b M => bifM b (eK tb env Q E) (cK d Q) M
def orvK2 (d : D) (tb : DE) (env : DEnv) (Q : DK) (E : DX) : Bool → Mem → Prop := fun b M => bifM b (cK d Q) (eK tb env Q E) M
def andvK (tb : DE) (env : DEnv) (Q : DK) (E : DX) : DK := fun d M => optB (truth M d) (andvK2 d tb env Q E) M
def orvK (tb : DE) (env : DEnv) (Q : DK) (E : DX) : DK := fun d M => optB (truth M d) (orvK2 d tb env Q E) M
def blK (Q : DK) : Bool → Mem → Prop := fun b M => Q (.bl b) M
def notvK (Q : DK) : DK := fun d M => optB (truth M d) (notK (blK Q)) M
def negK (Q : DK) : DK := fun d M => match d with
  | .v (.int i) => Q (.int (-i)) M
  | _ => False
def slK3 (x : D) (l : Option Int) (Q : DK) : Option Int → Mem → Prop := fun u M => (opSl x l u M).run M Q
def slK2 (x : D) (th : DO) (env : DEnv) (Q : DK) (E : DX) : Option Int → Mem → Prop := fun l M => th env M (slK3 x l Q) E
def slK1 (tl th : DO) (env : DEnv) (Q : DK) (E : DX) : DK := fun x M => tl env M (slK2 x th env Q E) E
def partK (Q : Option Int → Mem → Prop) : DK := fun d M => match d with
  | .v (.int i) => Q (some i) M
  | _ => False
def revR : D → Mem → Res
  | .v (.ref a), M => match M a with
    | some (.lst ds) => .new True (.lst ds.reverse)
    | _ => .bad
  | _, _ => .bad
def revK (Q : DK) : DK := fun d M => (revR d M).run M Q
def forK (p : Pat) (tb : DS) (Z : DEnds) (env : DEnv) : DIt → Mem → Prop := fun J M => dLoop J.keep p tb Z J.items env M
def lcK (p : Pat) (tt : DT) (te : DE) (vs : List Nat) (env : DEnv) (Q : DK) : DIt → Mem → Prop := fun J M => ∀ a, M a = none → dLcGo J.keep p tt te (wipeD env vs) a Q J.items [] (mupd M a (.lst []))
def walkO (R : DIt → Mem → Prop) (a : Addr) (M : Mem) : Option Ob → Prop
  | some (.lst ds) => R ⟨ds, fun M => M a = some (.lst ds) ∨ M a = some (.rol ds)⟩ M
  | some (.rol ds) => R ⟨ds, fun M => M a = some (.lst ds) ∨ M a = some (.rol ds)⟩ M
  | _ => False
def walkR (R : DIt → Mem → Prop) : DK := fun d M => match d with
  | .tup ds => R ⟨ds, fun _ => True⟩ M
  | .v (.str x) => R ⟨signs x, fun _ => True⟩ M
  | .v (.ref a) => walkO R a M (M a)
  | _ => False
def rng1K (R : DIt → Mem → Prop) : List D → Mem → Prop := fun ds M => match ds with
  | [.v (.int j)] => (-(2 ^ 62) ≤ j ∧ j < 2 ^ 62) ∧ R ⟨rg 0 j.toNat, fun _ => True⟩ M
  | _ => False
def rng2K (R : DIt → Mem → Prop) : List D → Mem → Prop := fun ds M => match ds with
  | [.v (.int i), .v (.int j)] => (-(2 ^ 62) ≤ i ∧ i < 2 ^ 62 ∧ -(2 ^ 62) ≤ j ∧ j < 2 ^ 62) ∧ R ⟨rg i (j - i).toNat, fun _ => True⟩ M
  | _ => False
def clK (sp : DSp) (Q : DK) (E : DX) : List D → Mem → Prop := fun ds M => sp ds M Q E
def callLO (t : DA) (env : DEnv) (M : Mem) (Q : DK) (E : DX) : Option DSp → Prop
  | some sp => t env M (clK sp Q E) E
  | none => False
def callLK (S : Addr → Option DSp) (t : DA) (env : DEnv) (M : Mem) (Q : DK) (E : DX) : Option (Option D) → Prop
  | some (some (.v (.ref f))) => callLO t env M Q E (S f)
  | _ => False

section
variable {Z : DEnds} {env : DEnv} {M : Mem} {Q : DK} {E : DX} {n : DEnv → Mem → Prop}
theorem to_nx : (Z.to n).nx = n := id rfl
theorem to_rt : (Z.to n).rt = Z.rt := id rfl
theorem to_bk : (Z.to n).bk = Z.bk := id rfl
theorem to_ct : (Z.to n).ct = Z.ct := id rfl
theorem to_ex : (Z.to n).ex = Z.ex := id rfl
theorem lp_nx : (Z.lp n).nx = n := id rfl
theorem lp_rt : (Z.lp n).rt = Z.rt := id rfl
theorem lp_bk : (Z.lp n).bk = Z.nx := id rfl
theorem lp_ct : (Z.lp n).ct = n := id rfl
theorem lp_ex : (Z.lp n).ex = Z.ex := id rfl
theorem ret_nx {E : DX} : (retEnds Q E).nx env M = Q .non M := id rfl
theorem ret_rt {E : DX} : (retEnds Q E).rt = Q := id rfl
theorem ret_ex {E : DX} {c f} : (retEnds Q E).ex c f env M = E c f M := id rfl
theorem s_exK {c f} : exK Z env c f M = Z.ex c f env M := id rfl
theorem s_bif1 {f g} : bifM true f g M = f M := id rfl
theorem s_bif0 {f g} : bifM false f g M = g M := id rfl
theorem s_optB {b R} : optB (some b) R M = R b M := id rfl
theorem s_optE {e R} : optE (some e) R M = R e M := id rfl
theorem s_nxD {d} : nxD Z env d M = Z.nx env M := id rfl
theorem s_ifK {t u b} : ifK t u Z env b M = bifM b (t Z env) (u Z env) M := id rfl
theorem s_asgN {i d} : asgK (.nm i) Z env d M = Z.nx (env.set i (some d)) M := id rfl
theorem s_asgT {ps ds} : asgK (.tp ps) Z env (.tup ds) M = optE (bindL M ps ds env) Z.nx M := by simp only [asgK, Pat.bind, seqOf]
theorem s_asgL {ps a} : asgK (.tp ps) Z env (.ob a) M = optE ((Pat.tp ps).bind M (.ob a) env) Z.nx M := id rfl
theorem b_nil : bindL M [] [] env = some env := id rfl
theorem b_nm {i d ps ds} : bindL M (.nm i :: ps) (d :: ds) env = bindL M ps ds (env.set i (some d)) := id rfl
theorem b_tp {qs es ps ds} : bindL M (.tp qs :: ps) (.tup es :: ds) env = (match bindL M qs es env with | some e => bindL M ps ds e | none => none) := by simp only [bindL, Pat.bind, seqOf] <;> rfl
theorem s_next : dNext Z env M = Z.nx env M := id rfl
theorem s_seq {t u} : dSeq t u Z env M = t (Z.to (u Z)) env M := id rfl
theorem s_drop {te} : dDrop te Z env M = te env M (nxD Z env) (exK Z env) := id rfl
theorem s_ret {te} : dRet te Z env M = te env M Z.rt (exK Z env) := id rfl
theorem s_retN : dRetN Z env M = Z.rt .non M := id rfl
theorem s_ifS {tc t u} : dIfS tc t u Z env M = tc env M (ifK t u Z env) (exK Z env) := id rfl
theorem s_asg {te p} : dAsg te p Z env M = te env M (asgK p Z env) (exK Z env) := id rfl
theorem s_brk : dBrk Z env M = Z.bk env M := id rfl
theorem s_cont : dCont Z env M = Z.ct env M := id rfl
theorem s_put {te to ti} : dPut te to ti Z env M = te env M (putK1 to ti Z env) (exK Z env) := id rfl
theorem s_put1 {to ti z} : putK1 to ti Z env z M = to env M (putK2 ti z Z env) (exK Z env) := id rfl
theorem s_put2 {ti z o} : putK2 ti z Z env o M = ti env M (putK3 o z Z env) (exK Z env) := id rfl
theorem s_put3 {z o i} : putK3 o z Z env i M = (opPut o i z M).run M (nxD Z env) := id rfl
theorem s_aug {i r te} : dAug i r te Z env M = augV i r te Z env M env[i]? := id rfl
theorem s_augV {i r te} {x : D} : augV i r te Z env M (some (some x)) = te env M (augK i r x Z env) (exK Z env) := id rfl
theorem s_augK {i r x y} : augK i r x Z env y M = (r x y M).run M (augK2 i Z env) := id rfl
theorem s_augK2 {i z} : augK2 i Z env z M = Z.nx (env.set i (some z)) M := id rfl
theorem s_bin {r ta tb} : dBin r ta tb env M Q E = ta env M (binK1 r tb env Q E) E := id rfl
theorem s_bin1 {r tb x} : binK1 r tb env Q E x M = tb env M (binK2 r x Q) E := id rfl
theorem s_bin2 {r x y} : binK2 r x Q y M = (r x y M).run M Q := id rfl
theorem s_var {i} : dVar i env M Q E = varK M Q env[i]? := id rfl
theorem s_varK {x : D} : varK M Q (some (some x)) = Q x M := id rfl
theorem s_C {d} : dC d env M Q E = Q d M := id rfl
theorem s_cb {r t} : dCB r t env M Q E = t env M (cbK r Q) E := id rfl
theorem s_cbK {r ds} : cbK r Q ds M = (r ds M).run M Q := id rfl
theorem s_call {sp dvs t} : dCall sp dvs t env M Q E = t env M (callK sp dvs Q E) E := id rfl
theorem s_callK {sp ds} : callK sp [] Q E ds M = sp ds M Q E := by unfold callK; rw [List.append_nil]
theorem s_m {T r to t} : dBM T r to t env M Q E = to env M (mK1 T r t env Q E) E := id rfl
theorem s_m1 {T r t x} : mK1 T r t env Q E x M = (isTy T x M ∧ t env M (mK2 r x Q) E) := id rfl
theorem s_m2 {r x ds} : mK2 r x Q ds M = (r x ds M).run M Q := id rfl
theorem s_nil {R} : dNil env M R E = R [] M := id rfl
theorem s_cons {ta tr R} : dCons ta tr env M R E = ta env M (consK1 tr env R E) E := id rfl
theorem s_cons1 {tr R d} : consK1 tr env R E d M = tr env M (consK2 d R) E := id rfl
theorem s_cons2 {d R ds} : consK2 d R ds M = R (d :: ds) M := id rfl
theorem s_tup {n t} : dTup n t env M Q E = t env M (tupK n Q) E := id rfl
theorem s_tupK {n ds} : tupK n Q ds M = (ds.length = n ∧ Q (.tup ds) M) := id rfl
theorem s_lst {n t} : dLst n t env M Q E = t env M (lstK n Q) E := by unfold dLst lstK; simp [Res.run]
theorem s_lstK {n ds} : lstK n Q ds M = (ds.length = n ∧ (Res.new True (.lst ds)).run M Q) := id rfl
theorem s_truth {t R} : dTruth t env M R E = t env M (trK R) E := id rfl
theorem s_trK {R d} : trK R d M = optB (truth M d) R M := id rfl
theorem s_tK {u R} : tK u env R E M = u env M R E := id rfl
theorem s_eK {u} : eK u env Q E M = u env M Q E := id rfl
theorem s_cK {α} {x : α} {R} : cK x R M = R x M := id rfl
theorem s_and {t u R} : dAnd t u env M R E = t env M (andK u env R E) E := id rfl
theorem s_andK {u R b} : andK u env R E b M = bifM b (tK u env R E) (cK false R) M := id rfl
theorem s_or {t u R} : dOr t u env M R E = t env M (orK u env R E) E := id rfl
theorem s_orK {u R b} : orK u env R E b M = bifM b (cK true R) (tK u env R E) M := id rfl
theorem s_not {t R} : dNot t env M R E = t env M (notK R) E := id rfl
theorem s_notK {R b} : notK R b M = R (!b) M := id rfl
theorem s_ife {t ta tb} : dIf t ta tb env M Q E = t env M (ifeK ta tb env Q E) E := id rfl
theorem s_ifeK {ta tb b} : ifeK ta tb env Q E b M = bifM b (eK ta env Q E) (eK tb env Q E) M := id rfl
theorem optB_if {b : Option Bool} {f g : Mem → Prop} : (match b with | some true => f M | some false => g M | none => False) = optB b (fun b M => bifM b f g M) M := by
  cases b with
  | none => rfl
  | some b => cases b <;> rfl
theorem s_andV {ta tb} : dAndV ta tb env M Q E = ta env M (andvK tb env Q E) E := by
  unfold dAndV andvK
  congr 1
  funext d M1
  cases truth M1 d with
  | none => rfl
  | some b => cases b <;> rfl
theorem s_orV {ta tb} : dOrV ta tb env M Q E = ta env M (orvK tb env Q E) E := by
  unfold dOrV orvK
  congr 1
  funext d M1
  cases truth M1 d with
  | none => rfl
  | some b => cases b <;> rfl
theorem s_andvK {tb d} : andvK tb env Q E d M = optB (truth M d) (andvK2 d tb env Q E) M := id rfl
theorem s_orvK {tb d} : orvK tb env Q E d M = optB (truth M d) (orvK2 d tb env Q E) M := id rfl
theorem s_andvK2 {tb d b} : andvK2 d tb env Q E b M = bifM b (eK tb env Q E) (cK d Q) M := id rfl
theorem s_orvK2 {tb d b} : orvK2 d tb env Q E b M = bifM b (cK d Q) (eK tb env Q E) M := id rfl
theorem s_notV {ta} : dNotV ta env M Q E = ta env M (notvK Q) E := id rfl
theorem s_notvK {d} : notvK Q d M = optB (truth M d) (notK (blK Q)) M := id rfl
theorem s_blK {b} : blK Q b M = Q (.bl b) M := id rfl
theorem s_neg {ta} : dNeg ta env M Q E = ta env M (negK Q) E := id rfl
theorem s_negK {i} : negK Q (.int i) M = Q (.int (-i)) M := id rfl
theorem s_sl {ta tl th} : dSl ta tl th env M Q E = ta env M (slK1 tl th env Q E) E := id rfl
theorem s_sl1 {tl th x} : slK1 tl th env Q E x M = tl env M (slK2 x th env Q E) E := id rfl
theorem s_sl2 {th x l} : slK2 x th env Q E l M = th env M (slK3 x l Q) E := id rfl
theorem s_sl3 {x l u} : slK3 x l Q u M = (opSl x l u M).run M Q := id rfl
theorem s_noPart {R} : dNoPart env M R E = R none M := id rfl
theorem s_part {t R} : dPart t env M R E = t env M (partK R) E := id rfl
theorem s_partK {R i} : partK R (.int i) M = R (some i) M := id rfl
theorem s_rev {te} : dRev te env M Q E = te env M (revK Q) E := by
  unfold dRev
  congr 1
  funext d M1
  unfold revK revR
  cases d with
  | tup _ => rfl
  | v x => cases x with
    | ref a =>
      dsimp only
      cases M1 a with
      | none => rfl
      | some o => cases o <;> simp [Res.run]
    | _ => rfl
theorem s_revK {d} : revK Q d M = (revR d M).run M Q := id rfl
theorem s_for {ti p tb} : dFor ti p tb Z env M = ti env M (forK p tb Z env) (exK Z env) := id rfl
theorem s_forK {p tb its kp} : forK p tb Z env ⟨its, kp⟩ M = dLoop kp p tb Z its env M := id rfl
theorem s_lc {ti p tt te vs} : dLc ti p tt te vs env M Q E = ti env M (lcK p tt te vs env Q) E := id rfl
theorem s_lcK {p tt te vs its kp} : lcK p tt te vs env Q ⟨its, kp⟩ M = ∀ a, M a = none → dLcGo kp p tt te (wipeD env vs) a Q its [] (mupd M a (.lst [])) := id rfl
theorem s_yes {R} : dYes env M R E = R true M := id rfl
theorem s_walk {te R} : dWalk te env M R E = te env M (walkR R) E := id rfl
theorem s_walkT {R ds} : walkR R (.tup ds) M = R ⟨ds, fun _ => True⟩ M := id rfl
theorem s_walkS {R x} : walkR R (.str x) M = R ⟨signs x, fun _ => True⟩ M := id rfl
theorem s_walkA {R a} : walkR R (.ob a) M = walkO R a M (M a) := id rfl
theorem s_walkL {R a ds} : walkO R a M (some (.lst ds)) = R ⟨ds, fun M => M a = some (.lst ds) ∨ M a = some (.rol ds)⟩ M := id rfl
theorem s_walkR {R a ds} : walkO R a M (some (.rol ds)) = R ⟨ds, fun M => M a = some (.lst ds) ∨ M a = some (.rol ds)⟩ M := id rfl
theorem s_rng1 {ta R} : dRange1 ta env M R E = ta env M (rng1K R) E := id rfl
theorem s_rng2 {ta R} : dRange2 ta env M R E = ta env M (rng2K R) E := id rfl
theorem s_rng1K {R j} : rng1K R [.int j] M = ((-(2 ^ 62) ≤ j ∧ j < 2 ^ 62) ∧ R ⟨rg 0 j.toNat, fun _ => True⟩ M) := id rfl
theorem s_rng2K {R i j} : rng2K R [.int i, .int j] M = ((-(2 ^ 62) ≤ i ∧ i < 2 ^ 62 ∧ -(2 ^ 62) ≤ j ∧ j < 2 ^ 62) ∧ R ⟨rg i (j - i).toNat, fun _ => True⟩ M) := id rfl
theorem s_callL {i S t} : dCallL i S t env M Q E = callLK S t env M Q E env[i]? := id rfl
theorem s_callLK {S f t} : callLK S t env M Q E (some (some (.ob f))) = callLO t env M Q E (S f) := id rfl
theorem s_callLO {sp t} : callLO t env M Q E (some sp) = t env M (clK sp Q E) E := id rfl
theorem s_clK {sp ds} : clK sp Q E ds M = sp ds M Q E := id rfl
theorem s_raise {c fs} : dRaise c fs Z env M = Z.ex c fs env M := id rfl

/-! results -/
theorem r_val {c d} : (Res.val c d).run M Q = (c ∧ Q d M) := id rfl
theorem r_new {c o} : (Res.new c o).run M Q = (c ∧ ∀ p, M p = none → Q (.ob p) (mupd M p o)) := id rfl
theorem r_put {c a o d} : (Res.put c a o d).run M Q = (c ∧ Q d (mupd M a o)) := id rfl
end
/-- memory grows, but for what is told -/
def Keep (S : List Addr) (M M' : Mem) : Prop := ∀ b o, M b = some o → b ∉ S → M' b = some o
theorem Keep.refl {S M} : Keep S M M := fun _ _ h _ => h
theorem Keep.trans {S M M' M''} (h : Keep S M M') (g : Keep S M' M'') : Keep S M M'' := fun b o e n => g b o (h b o e n) n
theorem Keep.new {S M p o} (h : M p = none) : Keep S M (mupd M p o) := fun b o' e _ => by
  have : b ≠ p := fun z => by rw [z, h] at e; cases e
  show (if b = p then _ else _) = _
  rw [if_neg this]; exact e
theorem Keep.put {S M a o} (h : a ∈ S) : Keep S M (mupd M a o) := fun b o' e n => by
  have : b ≠ a := fun z => n (z ▸ h)
  show (if b = a then _ else _) = _
  rw [if_neg this]; exact e
theorem Keep.weaken {S T M M'} (h : Keep S M M') (s : ∀ a ∈ S, a ∈ T) : Keep T M M' := fun b o e n => h b o e fun z => n (s _ z)
/-- changes at new places are free -/
theorem Keep.drop {S M M' p} (h : Keep (p :: S) M M') (hp : M p = none) : Keep S M M' := fun b o e n => h b o e fun z => by
  rcases List.mem_cons.mp z with z | z
  · rw [z, hp] at e; cases e
  · exact n z
theorem Keep.fresh {M M' p} (h : Keep [] M M') (hp : M' p = none) : M p = none := by
  cases e : M p with
  | none => rfl
  | some o =>
    have := h p o e (by simp)
    rw [hp] at this
    cases this
theorem ne_new {M : Mem} {a p : Addr} {o} (ha : M a = some o) (hp : M p = none) : a ≠ p := fun e => by rw [e, hp] at ha; cases ha
theorem ne_new' {M : Mem} {a p : Addr} {o} (ha : M a = some o) (hp : M p = none) : p ≠ a := (ne_new ha hp).symm
theorem mupd_none {M : Mem} {p q : Addr} {o} : (mupd M p o q = none) = (q ≠ p ∧ M q = none) := by
  unfold mupd
  by_cases h : q = p <;> simp [h]
/-- a new list -/
theorem run_new {c : Prop} {o : Ob} {M : Mem} {Q : DK} (hc : c) (h : ∀ p M1, M p = none → M1 p = some o → Keep [] M M1 → Q (.ob p) M1) : (Res.new c o).run M Q :=
  ⟨hc, fun p hp => h p _ hp mupd_same (Keep.new hp)⟩
theorem bif_of {b : Bool} {f g : Mem → Prop} {M : Mem} (h1 : b = true → f M) (h0 : b = false → g M) : bifM b f g M := by
  cases b with
  | true => exact h1 rfl
  | false => exact h0 rfl
theorem bif_dec {p : Prop} [Decidable p] {f g : Mem → Prop} {M : Mem} (h1 : p → f M) (h0 : ¬ p → g M) : bifM (decide p) f g M := bif_of (fun h => h1 (of_decide_eq_true h)) fun h => h0 (of_decide_eq_false h)
theorem bif_pos {p : Prop} [Decidable p] {f g : Mem → Prop} {M : Mem} (h : p) (q : f M) : bifM (decide p) f g M := by rw [decide_eq_true h]; exact q
theorem bif_neg {p : Prop} [Decidable p] {f g : Mem → Prop} {M : Mem} (h : ¬ p) (q : g M) : bifM (decide p) f g M := by rw [decide_eq_false h]; exact q

/-- a test that gives b -/
theorem ifS_by {tc : DT} {t u : DS} {Z : DEnds} {env : DEnv} {M : Mem} (p : Prop) [Decidable p] (h : ∀ Q E, Q (decide p) M → tc env M Q E) (h1 : p → t Z env M) (h0 : ¬ p → u Z env M) : dIfS tc t u Z env M := by
  refine h _ _ ?_
  by_cases z : p
  · rw [decide_eq_true z]; exact h1 z
  · rw [decide_eq_false z]; exact h0 z
/-- two statements: what is true between them -/
theorem seq_mid {t u : DS} {Z : DEnds} {env : DEnv} {M : Mem} (R : DEnv → Mem → Prop) (h1 : ∀ N, (∀ e M', R e M' → N e M') → t (Z.to N) env M) (h2 : ∀ e M', R e M' → u Z e M') : dSeq t u Z env M := h1 (u Z) h2
/-- an if with statements behind it: what is true there -/
theorem bif_mid {b : Bool} {t u : DS} {Z : DEnds} {n : DEnv → Mem → Prop} {env : DEnv} {M : Mem} (R : DEnv → Mem → Prop) (h1 : b = true → ∀ N, (∀ e M', R e M' → N e M') → t (Z.to N) env M) (h0 : b = false → ∀ N, (∀ e M', R e M' → N e M') → u (Z.to N) env M) (h2 : ∀ e M', R e M' → n e M') :
    bifM b (t (Z.to n) env) (u (Z.to n) env) M := by
  cases b with
  | true => exact h1 rfl n h2
  | false => exact h0 rfl n h2
theorem bif_midD {p : Prop} [Decidable p] {t u : DS} {Z : DEnds} {n : DEnv → Mem → Prop} {env : DEnv} {M : Mem} (R : DEnv → Mem → Prop) (h1 : p → ∀ N, (∀ e M', R e M' → N e M') → t (Z.to N) env M) (h0 : ¬ p → ∀ N, (∀ e M', R e M' → N e M') → u (Z.to N) env M) (h2 : ∀ e M', R e M' → n e M') :
    bifM (decide p) (t (Z.to n) env) (u (Z.to n) env) M := bif_mid R (fun h => h1 (of_decide_eq_true h)) (fun h => h0 (of_decide_eq_false h)) h2
/-- for: what is true ahead of each turn; items are the pictures of xs -/
theorem loop_inv {α : Type} (f : α → D) {kp : Mem → Prop} {p : Pat} {tb : DS} {Z : DEnds} (I : List α → DEnv → Mem → Prop) (hk : ∀ r env M, I r env M → kp M)
    (step : ∀ x r env M N, I (x :: r) env M → (∀ e M', I r e M' → N e M') → optE (p.bind M (f x) env) (tb (Z.lp N)) M) (done : ∀ env M, I [] env M → Z.nx env M) :
    ∀ (xs : List α) (env : DEnv) (M : Mem), I xs env M → dLoop kp p tb Z (xs.map f) env M
  | [], env, M, h => ⟨hk _ _ _ h, done _ _ h⟩
  | x :: r, env, M, h => by
    refine ⟨hk _ _ _ h, ?_⟩
    have q := step x r env M (dLoop kp p tb Z (r.map f)) h (loop_inv f I hk step done r)
    unfold optE at q
    split at q
    · rename_i env1 hb
      first | exact q | (rw [hb]; exact q)
    · exact q.elim
def whK (tb : DS) (Z : DEnds) (N : DEnv → Mem → Prop) (env : DEnv) : Bool → Mem → Prop := fun b M => bifM b (tb (Z.lp N) env) (Z.nx env) M
theorem s_whK {tb : DS} {Z : DEnds} {N : DEnv → Mem → Prop} {env : DEnv} {b : Bool} {M : Mem} : whK tb Z N env b M = bifM b (tb (Z.lp N) env) (Z.nx env) M := id rfl
/-- while: what is true ahead of each turn, with a number that falls -/
theorem while_inv {tc : DT} {tb : DS} {Z : DEnds} (I : Nat → DEnv → Mem → Prop)
    (step : ∀ n env M N, I n env M → (∀ m e M', m < n → I m e M' → N e M') → tc env M (whK tb Z N env) (exK Z env)) {n : Nat} {env : DEnv} {M : Mem} (h : I n env M) : dWhile tc tb Z env M := by
  have go : ∀ k n env M, n < k → I n env M → dWhileN tc tb Z k env M := by
    intro k
    induction k with
    | zero => intro n env M h; omega
    | succ k ih => exact fun n env M hk h => step n env M (dWhileN tc tb Z k) h fun m e M' hm => ih m e M' (by omega)
  exact ⟨n + 1, go (n + 1) n env M (Nat.lt_succ_self n) h⟩
def lcY (a : Addr) (acc : List D) (N : List D → Mem → Prop) : DK := fun y M => M a = some (.lst acc) ∧ acc.length < sizeLine ∧ N (acc ++ [y]) (mupd M a (.lst (acc ++ [y])))
def lcT (te : DE) (a : Addr) (acc : List D) (N : List D → Mem → Prop) (env : DEnv) : Bool → Mem → Prop := fun b M => bifM b (eK te env (lcY a acc N) noX) (N acc) M
def lcE (tt : DT) (te : DE) (a : Addr) (acc : List D) (N : List D → Mem → Prop) (env : DEnv) (M : Mem) : Prop := tt env M (lcT te a acc N env) noX
section
variable {te : DE} {tt : DT} {a : Addr} {acc : List D} {N : List D → Mem → Prop} {env : DEnv} {M : Mem} {y : D} {b : Bool}
theorem s_lcY : lcY a acc N y M = (M a = some (.lst acc) ∧ acc.length < sizeLine ∧ N (acc ++ [y]) (mupd M a (.lst (acc ++ [y])))) := id rfl
theorem s_lcT : lcT te a acc N env b M = bifM b (eK te env (lcY a acc N) noX) (N acc) M := id rfl
theorem s_lcE : lcE tt te a acc N env M = tt env M (lcT te a acc N env) noX := id rfl
end
/-- a comprehension: what is true ahead of each turn; a: the new list -/
theorem lc_inv {α : Type} (f : α → D) {kp : Mem → Prop} {p : Pat} {tt : DT} {te : DE} {env : DEnv} {a : Addr} {Q : DK} (I : List α → List D → Mem → Prop) (hk : ∀ r acc M, I r acc M → kp M ∧ M a = some (.lst acc))
    (step : ∀ x r acc M (N : List D → Mem → Prop), I (x :: r) acc M → (∀ acc' M', I r acc' M' → N acc' M') → optE (p.bind M (f x) env) (lcE tt te a acc N) M)
    (done : ∀ acc M, I [] acc M → Q (.ob a) M) : ∀ (xs : List α) (acc : List D) (M : Mem), I xs acc M → dLcGo kp p tt te env a Q (xs.map f) acc M
  | [], acc, M, h => ⟨(hk _ _ _ h).1, (hk _ _ _ h).2, done _ _ h⟩
  | x :: r, acc, M, h => by
    refine ⟨(hk _ _ _ h).1, ?_⟩
    have q := step x r acc M (fun acc' M' => dLcGo kp p tt te env a Q (r.map f) acc' M') h (fun acc' M' => lc_inv f I hk step done r acc' M')
    unfold optE at q
    split at q
    · rename_i env1 hb
      first | exact q | (rw [hb]; exact q)
    · exact q.elim
theorem x_iaddN {X : Cx} : XOp X (inplaceOp .Add) opIadd := x_iadd
theorem ix_lit0 {n : Nat} (h : 0 < n) : ixN n 0 = some 0 := by unfold ixN; simp; omega
theorem ix_lit {n k : Nat} (h : k < n) : ixN n (k : Int) = some k := by unfold ixN; simp; omega
end PL

namespace PL
open PySem PySem.Spec PyProof.Rows L2

/-! built-ins that may answer in more than one way -/
abbrev DCallG := List D → Mem → DK → Prop
def MonoC (r : DCallG) : Prop := ∀ ds M (Q Q' : DK), (∀ d M, Q d M → Q' d M) → r ds M Q → r ds M Q'
def upCallG (K : PySem.W.Frag) (r : DCallG) : List V → Hp → VK → Prop := fun xs H Q => ∃ ds M, RepL K H ds xs ∧ Sim K H M ∧ r ds M (upK K H Q)
def cgK (r : DCallG) (Q : DK) : List D → Mem → Prop := fun ds M => r ds M Q
def dCG (r : DCallG) (t : DA) : DE := fun env M Q E => t env M (cgK r Q) E
theorem s_cg {r t env M Q E} : dCG r t env M Q E = t env M (cgK r Q) E := id rfl
theorem s_cgK {r Q ds M} : cgK r Q ds M = r ds M Q := id rfl
section
variable {X : Cx} {W : WX} {x : Str} {p pos : Pos} {e : Expr} {es : List Expr} {t : DA} {id T : String} {r : DCallG}
theorem cg_up (mr : MonoC r) (ha : XA X W es t) : ∀ σ H Q, liftE X.K W (dCG r t) σ H Q → tCB (upCallG X.K r) (liftA X.K W t) σ H Q := by
  rintro σ H Q ⟨env, M, re, s, h⟩
  refine stepA ha.mono re s h (fun ds M1 us H1 e1 s1 re1 r1 h1 => ?_) fun _ _ _ z => z
  exact ⟨ds, M1, r1, s1, mr _ _ _ _ (upK_mono e1) h1⟩
theorem xe_callG (mr : MonoC r) (hc : CallR X (.builtin id) (upCallG X.K r)) (hg : Gl X x) (hm : X.mg x = none) (hv : bootBuiltins x = some (.builtin id)) (ha : XA X W (e :: es) t) (hn : x ≠ "__name__" := by decide) (hdb : (x == ("__debug__" : Str)) = false := by decide)
    (he : starEach (e :: es) X.env = (false, eval e X.env) :: starEach es X.env := by rfl) (hpl : (backTo pos (starEach es X.env)).any (·.1) = false := by rfl) : XE X W (.Call (.Name x p) (e :: es) [] pos) (dCG r t) :=
  ⟨fun env M Q Q' E E' hQ hE => ha.mono _ _ _ _ _ _ (fun ds M1 => mr ds M1 _ _ hQ) hE, PEw (pe_callB hc hg hm hv ha.pa hn hdb he hpl) (cg_up mr ha)⟩
end

/-! sorted -/
def SortsTo (dd : Bool) (ss ys : List Str) : Prop := sortedS ys = true ∧ if dd = true then ys.Nodup ∧ ∀ x, x ∈ ys ↔ x ∈ ss else ys.Perm ss
def intsOf : List D → Option (List Int)
  | [] => some []
  | .v (.int b) :: r => (intsOf r).map (b :: ·)
  | _ :: _ => none
theorem intsOf_eq : ∀ {ds : List D} {bs : List Int}, intsOf ds = some bs → ds = bs.map D.int
  | [], bs, h => by simp [intsOf] at h; subst h; rfl
  | .v (.int b) :: r, bs, h => by
    simp only [intsOf, Option.map_eq_some_iff] at h
    obtain ⟨cs, h1, rfl⟩ := h
    rw [intsOf_eq h1]; rfl
  | .tup _ :: _, _, h => by simp [intsOf] at h
  | .v .non :: _, _, h => by simp [intsOf] at h
  | .v (.str _) :: _, _, h => by simp [intsOf] at h
  | .v (.bl _) :: _, _, h => by simp [intsOf] at h
  | .v (.byt _) :: _, _, h => by simp [intsOf] at h
  | .v (.flt _) :: _, _, h => by simp [intsOf] at h
  | .v (.ref _) :: _, _, h => by simp [intsOf] at h
  | .v (.ty _) :: _, _, h => by simp [intsOf] at h
theorem intsOf_map : ∀ bs : List Int, intsOf (bs.map D.int) = some bs
  | [] => rfl
  | b :: bs => by show (intsOf (bs.map D.int)).map _ = _; rw [intsOf_map bs]; rfl
def lstAt (M : Mem) (d : D) : Option (List D) := match d with
  | .v (.ref a) => match M a with
    | some (.lst ds) => some ds
    | some (.rol ds) => some ds
    | _ => none
  | _ => none
theorem lstAt_rep {K : PySem.W.Frag} {H : Hp} {M : Mem} {d : D} {u : V} {ds : List D} (s : Sim K H M) (r : RepD K H d u) (h : lstAt M d = some ds) : ∃ a us, u = .ref a ∧ SqL K H a us ∧ RepL K H ds us := by
  unfold lstAt at h
  split at h
  · have e := rep_v r
    subst e
    split at h
    · rename_i hm; cases h; obtain ⟨us, q, l⟩ := s.seq (.inl hm); exact ⟨_, us, rfl, q, l⟩
    · rename_i hm; cases h; obtain ⟨us, q, l⟩ := s.seq (.inr hm); exact ⟨_, us, rfl, q, l⟩
    · cases h
  · cases h
/-- sorted of a list of texts -/
def bSortS : DCallG := fun ds M Q => ∃ d es ss, ds = [d] ∧ lstAt M d = some es ∧ strsOf es = some ss ∧ ss.length < 64 ∧ ∀ ys p, SortsTo false ss ys → M p = none → Q (.ob p) (mupd M p (.lst (ys.map D.str)))
def bSortI : DCallG := fun ds M Q => ∃ d es ss, ds = [d] ∧ lstAt M d = some es ∧ intsOf es = some ss ∧ ∀ (ys : List Int) p, ys.Perm ss → ys.Pairwise (· ≤ ·) → M p = none → Q (.ob p) (mupd M p (.lst (ys.map D.int)))
def bSorted : DCallG := fun ds M Q => bSortS ds M Q ∨ bSortI ds M Q
theorem bSorted_mono : MonoC bSorted := by
  rintro ds M Q Q' hQ (⟨d, es, ss, h1, h2, h3, h4, h⟩ | ⟨d, es, ss, h1, h2, h3, h⟩)
  · exact .inl ⟨d, es, ss, h1, h2, h3, h4, fun ys p a b => hQ _ _ (h ys p a b)⟩
  · exact .inr ⟨d, es, ss, h1, h2, h3, fun ys p a b c => hQ _ _ (h ys p a b c)⟩
section
variable {X : Cx}
theorem c_sorted : CallR X (.builtin "sorted") (upCallG X.K bSorted) := by
  rintro pins s σ H xs us Q I r ⟨ds, M, rl, sm, (⟨d, es, ss, rfl, h2, h3, h4, h⟩ | ⟨d, es, ss, rfl, h2, h3, h⟩)⟩
  · obtain ⟨u, rfl, q⟩ := rl1 rl
    obtain ⟨a, ws, rfl, hs, l⟩ := lstAt_rep sm q h2
    rw [strsOf_eq h3] at l
    rw [l.strs] at hs
    exact cr_sortedS pins s σ H _ us Q I r ⟨a, ss, rfl, hs, h4, fun ys p z1 z2 hp => fin_lst (fun p hp => h ys p ⟨z2, z1⟩ hp) sm hp .of_strs⟩
  · obtain ⟨u, rfl, q⟩ := rl1 rl
    obtain ⟨a, ws, rfl, hs, l⟩ := lstAt_rep sm q h2
    rw [intsOf_eq h3] at l
    rw [l.ints] at hs
    exact cr_sortedI pins s σ H _ us Q I r ⟨a, ss, rfl, hs, fun ys p z1 z2 hp => fin_lst (fun p hp => h ys p z1 z2 hp) sm hp .of_ints⟩
end

/-! {} -/
def dDict0 : DE := fun _ M Q _ => (Res.new True (.dk [])).run M Q
theorem s_dict0 {env M Q E} : dDict0 env M Q E = (Res.new True (.dk [])).run M Q := id rfl
theorem xe_dict0 {X : Cx} {W : WX} {pos : Pos} : XE X W (.Dict [] [] pos) dDict0 := by
  refine ⟨fun env M Q Q' E E' hQ hE h => Res.mono hQ h, PEw pe_dnewK ?_⟩
  rintro σ H Q ⟨env, M, re, s, h⟩
  intro p hp
  exact fin_new (ob := .dk []) h.2 s hp ⟨[], upd_same, rfl⟩
/-! the script -/
def KL (K : PySem.W.Frag) (a : Addr) (xs : List V) : Prop := ∃ (o : Obj) (its : Array Value) (n : Nat), K.lookup a = some o ∧ o.cls = .type "list" ∧ o.dict = none ∧ o.data = .seq its n ∧ its.size ≤ sizeLine ∧ Vals xs its.toList
def Scr (K : PySem.W.Frag) (M : Mem) (a : Addr) (ns : List Int) : Prop := M a = some (.rol (ns.map D.int)) ∨ KL K a (ns.map V.int)
theorem Scr.seq {K : PySem.W.Frag} {H : Hp} {M : Mem} {a : Addr} {ns : List Int} (h : Scr K M a ns) (s : Sim K H M) : SqL K H a (ns.map V.int) := by
  rcases h with h | h
  · obtain ⟨us, q, l⟩ := s.seq (.inr h)
    rw [l.ints] at q
    exact q
  · exact .inr h
theorem script_rep {K : PySem.W.Frag} {sp : DSp} {H : Hp} {a : Addr} {ns : List Int} (ho : Only H) (hS : SqL K H a (ns.map V.int)) (h : ∀ M, Scr K M a ns → sp [.ob a] M (fun d _ => d = .bl true) fun _ _ _ => False) (hm : MonoSp sp) :
    liftSp K sp [.ref a] H (fun v _ => v = .bl true) fun _ _ _ => False := by
  have fin : ∀ M, Scr K M a ns → Sim K H M → liftSp K sp [.ref a] H (fun v _ => v = .bl true) fun _ _ _ => False := fun M q s => by
    refine ⟨[.ob a], M, .cons rep_of .nil, s, hm _ _ _ _ _ _ ?_ ?_ (h M q)⟩
    · rintro d M' rfl u H' _ _ r
      exact rep_v r
    · exact fun c f M' z => z.elim
  rcases hS with (hS | ⟨o, hS⟩) | hS
  · rcases ho a with z | ⟨o, xs, z⟩
    · rw [z] at hS; cases hS
    · rw [z] at hS; cases hS
  · refine fin (fun b => if b = a then some (.rol (ns.map D.int)) else none) (.inl (if_pos rfl)) fun b o' e => ?_
    dsimp only at e
    split at e
    · rename_i hb; cases e; subst hb; exact ⟨o, _, hS, .of_ints⟩
    · cases e
  · exact fin (fun _ => none) (.inr hS) fun b o' e => by cases e
def bListS (K : PySem.W.Frag) : DCallG := fun ds M Q => ∃ (a : Addr) (ns : List Int), ds = [.ob a] ∧ Scr K M a ns ∧ ∀ p, M p = none → Q (.ob p) (mupd M p (.lst (ns.map D.int)))
theorem bListS_mono {K : PySem.W.Frag} : MonoC (bListS K) := by
  rintro ds M Q Q' hQ ⟨a, ns, h1, h2, h⟩
  exact ⟨a, ns, h1, h2, fun p hp => hQ _ _ (h p hp)⟩
section
variable {X : Cx} {W : WX} {x : Str} {p pos : Pos} {e : Expr} {es : List Expr} {t : DA} {T : String} {r : DCallG}
theorem xe_callTyG (mr : MonoC r) (hc : CallR X (.type T) (upCallG X.K r)) (hg : Gl X x) (hm : X.mg x = none) (hv : bootBuiltins x = some (.type T)) (ha : XA X W (e :: es) t) (hn : x ≠ "__name__" := by decide) (hdb : (x == ("__debug__" : Str)) = false := by decide)
    (he : starEach (e :: es) X.env = (false, eval e X.env) :: starEach es X.env := by rfl) (hpl : (backTo pos (starEach es X.env)).any (·.1) = false := by rfl) : XE X W (.Call (.Name x p) (e :: es) [] pos) (dCG r t) :=
  ⟨fun env M Q Q' E E' hQ hE => ha.mono _ _ _ _ _ _ (fun ds M1 => mr ds M1 _ _ hQ) hE, PEw (pe_callTy hc hg hm hv ha.pa hn hdb he hpl) (cg_up mr ha)⟩
theorem c_listS : CallR X (.type "list") (upCallG X.K (bListS X.K)) := by
  rintro pins s σ H xs us Q I r ⟨ds, M, rl, sm, a, ns, rfl, hs, h⟩
  obtain ⟨u, rfl, q⟩ := rl1 rl
  rw [rep_v q] at r
  exact call_list_of pins s σ H _ us Q I r ⟨_, _, rfl, .inl (hs.seq sm), fun l hl => fin_lst h sm hl .of_ints⟩
end
theorem cx_none {P : Program} {w : World} {H : Hp} {s : Shared} {e : Value} {s' : Shared} (h : L2.CX P w [] H s (fun _ _ _ => False) e s') : False := by
  obtain ⟨_, _, _, _, _, _, _, _, _, _, _, _, z⟩ := h
  exact z
theorem rel_int {i : Int} {t : Tok} : RelV (.int i) (.int i t) := ⟨t, rfl⟩
theorem rel_str {x : Str} {t : Tok} : RelV (.str x) (.str x t) := ⟨t, rfl⟩
end PL

namespace PL
open PySem PySem.Spec PyProof.Rows L2

/-! comprehensions by what each item gives -/
inductive Outs {α : Type} (R : α → Option D → Prop) : List α → List D → Prop
  | nil : Outs R [] []
  | yes {x d xs ds} : R x (some d) → Outs R xs ds → Outs R (x :: xs) (d :: ds)
  | no {x xs ds} : R x none → Outs R xs ds → Outs R (x :: xs) ds
theorem Outs.len {α : Type} {R : α → Option D → Prop} {xs : List α} {ds : List D} (h : Outs R xs ds) : ds.length ≤ xs.length := by
  induction h with
  | nil => exact Nat.le_refl _
  | yes _ _ ih => simp only [List.length_cons]; omega
  | no _ _ ih => simp only [List.length_cons]; omega
theorem Outs.map {α : Type} {g : α → D} {R : α → Option D → Prop} (hR : ∀ x o, R x o → o = some (g x)) {xs : List α} {ds : List D} (h : Outs R xs ds) : ds = xs.map g := by
  induction h with
  | nil => rfl
  | yes h _ ih => cases hR _ _ h; rw [ih]; rfl
  | no h _ _ => cases hR _ _ h
theorem Outs.filter {α : Type} {g : α → D} {b : α → Bool} {R : α → Option D → Prop} (hR : ∀ x o, R x o → o = if b x = true then some (g x) else none) {xs : List α} {ds : List D} (h : Outs R xs ds) : ds = (xs.filter b).map g := by
  induction h with
  | nil => rfl
  | yes h _ ih =>
    have q := hR _ _ h
    rename_i x d xs ds _
    cases e : b x with
    | true => rw [e, if_pos rfl] at q; cases q; rw [ih, List.filter_cons_of_pos e]; rfl
    | false => rw [e, if_neg Bool.false_ne_true] at q; cases q
  | no h _ ih =>
    have q := hR _ _ h
    rename_i x xs ds _
    cases e : b x with
    | true => rw [e, if_pos rfl] at q; cases q
    | false => rw [ih, List.filter_cons_of_neg (by simp [e])]
theorem Outs.all {α : Type} {P : D → Prop} {R : α → Option D → Prop} (hR : ∀ x d, R x (some d) → P d) {xs : List α} {ds : List D} (h : Outs R xs ds) : ∀ d ∈ ds, P d := by
  induction h with
  | nil => intro d hd; cases hd
  | yes h _ ih =>
    intro d hd
    rcases List.mem_cons.mp hd with z | z
    · rw [z]; exact hR _ _ h
    · exact ih d z
  | no h _ ih => exact ih
theorem Outs.lenEq {α : Type} {R : α → Option D → Prop} (hR : ∀ x, ¬ R x none) {xs : List α} {ds : List D} (h : Outs R xs ds) : ds.length = xs.length := by
  induction h with
  | nil => rfl
  | yes _ _ ih => simp only [List.length_cons, ih]
  | no h _ _ => exact (hR _ h).elim
def lcB (te : DE) (env : DEnv) (N : DK) (sk : Mem → Prop) : Bool → Mem → Prop := fun b M => bifM b (eK te env N noX) sk M
def lcS (tt : DT) (te : DE) (N : DK) (sk : Mem → Prop) (env : DEnv) (M : Mem) : Prop := tt env M (lcB te env N sk) noX
theorem s_lcB {te env N sk b M} : lcB te env N sk b M = bifM b (eK te env N noX) sk M := id rfl
theorem s_lcS {tt te N sk env M} : lcS tt te N sk env M = tt env M (lcB te env N sk) noX := id rfl
theorem lc_rule {α : Type} (f : α → D) (R : α → Option D → Prop) (J : Mem → Prop) (S : List Addr) {M0 : Mem} {a : Addr} {kp : Mem → Prop} {p : Pat} {tt : DT} {te : DE} {env : DEnv} {Q : DK} (xs : List α) (ha : M0 a = none) (haS : a ∉ S) (hJ0 : J M0) (hJ : ∀ M' o, J M' → J (mupd M' a o))
    (hk : ∀ M', Keep S M0 M' → kp M') (hlen : xs.length ≤ sizeLine)
    (step : ∀ x ∈ xs, ∀ M' (N : DK) (sk : Mem → Prop), J M' → Keep S M0 M' → (∀ d M'', R x (some d) → J M'' → Keep S M' M'' → N d M'') → (∀ M'', R x none → J M'' → Keep S M' M'' → sk M'') → optE (p.bind M' (f x) env) (lcS tt te N sk) M')
    (done : ∀ M' ds, Outs R xs ds → J M' → Keep S M0 M' → M' a = some (.lst ds) → Q (.ob a) M') : dLcGo kp p tt te env a Q (xs.map f) [] (mupd M0 a (.lst [])) := by
  have go : ∀ (r : List α) (acc : List D) (M' : Mem), (∀ x ∈ r, x ∈ xs) → acc.length + r.length ≤ sizeLine → (∀ ds, Outs R r ds → Outs R xs (acc ++ ds)) → J M' → Keep S M0 M' → M' a = some (.lst acc) → dLcGo kp p tt te env a Q (r.map f) acc M' := by
    intro r
    induction r with
    | nil => exact fun acc M' _ _ h j k e => ⟨hk _ k, e, done _ _ (by simpa using h [] .nil) j k e⟩
    | cons x r ih =>
      intro acc M' hm hl h j k e
      refine ⟨hk _ k, ?_⟩
      simp only [List.length_cons] at hl
      have q := step x (hm x List.mem_cons_self) M' (fun y M3 => M3 a = some (.lst acc) ∧ acc.length < sizeLine ∧ dLcGo kp p tt te env a Q (r.map f) (acc ++ [y]) (mupd M3 a (.lst (acc ++ [y])))) (dLcGo kp p tt te env a Q (r.map f) acc) j k
        (fun d M'' hR j2 k2 => ⟨k2 _ _ e haS, by omega, ih _ _ (fun z hz => hm z (List.mem_cons_of_mem _ hz)) (by rw [List.length_append]; simp only [List.length_cons, List.length_nil]; omega)
          (fun ds hd => by rw [List.append_assoc]; exact h _ (.yes hR hd)) (hJ _ _ j2) (fun b o eb nb => by
            have : b ≠ a := fun z => by rw [z, ha] at eb; cases eb
            rw [mupd_ne this]
            exact k2 _ _ (k _ _ eb nb) nb) mupd_same⟩)
        (fun M'' hR j2 k2 => ih _ _ (fun z hz => hm z (List.mem_cons_of_mem _ hz)) (by omega) (fun ds hd => h _ (.no hR hd)) j2 (k.trans k2) (k2 _ _ e haS))
      unfold optE at q
      split at q
      · rename_i env1 hb
        first | exact q | (rw [hb]; exact q)
      · exact q.elim
  exact go xs [] _ (fun _ h => h) (by simpa using hlen) (fun ds h => h) (hJ _ _ hJ0) (Keep.new ha) mupd_same
/-- items that a pure reading gives -/
theorem lc_pure {α : Type} (f g : α → D) (b : α → Bool) {M0 : Mem} {a : Addr} {kp : Mem → Prop} {p : Pat} {tt : DT} {te : DE} {env : DEnv} {Q : DK} (xs : List α) (ha : M0 a = none) (hk : ∀ M', Keep [] M0 M' → kp M') (hlen : xs.length ≤ sizeLine)
    (step : ∀ x ∈ xs, ∀ M' (N : DK) (sk : Mem → Prop), Keep [] M0 M' → (b x = true → ∀ M'', Keep [] M' M'' → N (g x) M'') → (b x = false → ∀ M'', Keep [] M' M'' → sk M'') → optE (p.bind M' (f x) env) (lcS tt te N sk) M')
    (done : ∀ M', Keep [] M0 M' → M' a = some (.lst ((xs.filter b).map g)) → Q (.ob a) M') : dLcGo kp p tt te env a Q (xs.map f) [] (mupd M0 a (.lst [])) := by
  refine lc_rule f (fun x o => o = if b x = true then some (g x) else none) (fun _ => True) [] xs ha (by simp) trivial (fun _ _ _ => trivial) hk hlen (fun x hx M' N sk _ k hy hn => step x hx M' N sk k (fun e M'' k2 => hy _ M'' (by rw [e, if_pos rfl]) trivial k2) fun e M'' k2 => hn M'' (by rw [e, if_neg Bool.false_ne_true]) trivial k2) fun M' ds ho _ k e => ?_
  rw [ho.filter (fun _ _ h => h)] at e
  exact done M' k e
theorem lc_pureI (g : D → D) (b : D → Bool) {M0 : Mem} {a : Addr} {kp : Mem → Prop} {p : Pat} {tt : DT} {te : DE} {env : DEnv} {Q : DK} (xs : List D) (ha : M0 a = none) (hk : ∀ M', Keep [] M0 M' → kp M') (hlen : xs.length ≤ sizeLine)
    (step : ∀ x ∈ xs, ∀ M' (N : DK) (sk : Mem → Prop), Keep [] M0 M' → (b x = true → ∀ M'', Keep [] M' M'' → N (g x) M'') → (b x = false → ∀ M'', Keep [] M' M'' → sk M'') → optE (p.bind M' x env) (lcS tt te N sk) M')
    (done : ∀ M', Keep [] M0 M' → M' a = some (.lst ((xs.filter b).map g)) → Q (.ob a) M') : dLcGo kp p tt te env a Q xs [] (mupd M0 a (.lst [])) := by
  have q := lc_pure (fun d : D => d) g b xs ha hk hlen step done
  rw [List.map_id'] at q
  exact q
end PL

set_option maxHeartbeats 4000000
namespace PL
open PySem PySem.Spec PyProof.Rows L2

/-! sets of texts: the entries, their texts in the order in which they stand -/
def txt : Value → Str
  | .str x _ => x
  | _ => ⟨#[]⟩
abbrev Ent := Int × Value
def IsEnt (w : World) (e : Ent) : Prop := ∃ x tk, e.2 = Value.str x tk ∧ e.1 = hashStr w x
abbrev texts (es : Array Ent) : List Str := es.toList.map fun e => txt e.2
/-- an object that holds such a set -/
structure Held (w : World) (h : Heap) (a : Addr) (es : Array Ent) (t : SetTable) : Prop where
  obj : ∃ o ep, h.get? a = some o ∧ o.ExactSet ∧ o.data = .set es ep t
  ent : ∀ e ∈ es.toList, IsEnt w e
  nd : (texts es).Nodup
  few : es.size < scanBound
  fits : t.fits es.size = true
  ris : Ris t.place.toList
  led : w.params.followText "set-order" = true ∨ t.led = true
def SetOfTexts (w : World) (h : Heap) (a : Addr) (ks : List Str) : Prop := ∃ es t, Held w h a es t ∧ (texts es).Perm ks
theorem SetOfTexts.keep {w : World} {h h' : Heap} {a : Addr} {ks : List Str} (H : SetOfTexts w h a ks) (k : ∀ o, h.get? a = some o → h'.get? a = some o) : SetOfTexts w h' a ks := by
  obtain ⟨es, t, ⟨⟨o, ep, h1, h2⟩, r1, r2, r3, r4, r5, r6⟩, p⟩ := H
  exact ⟨es, t, ⟨⟨o, ep, k o h1, h2⟩, r1, r2, r3, r4, r5, r6⟩, p⟩
theorem ents_strKind {P : Program} {w : World} {l : List Ent} (g : ∀ e ∈ l, IsEnt w e) : ElemsOf (PySem.strKind P w) l := fun e he => by
  obtain ⟨x, tk, h1, h2⟩ := g e he
  rw [h1, h2]
  exact ⟨⟨x, by simp [PySem.strKind, Value.isStrOf], rfl⟩, rfl⟩
theorem is_txt {P : Program} {w : World} {e : Ent} (g : IsEnt w e) (x : Str) : (PySem.strKind P w).is x e.2 = true ↔ txt e.2 = x := by
  obtain ⟨y, tk, h1, _⟩ := g
  rw [h1]
  constructor
  · intro q
    obtain ⟨t, h⟩ := Value.isStrOf_shape (show Value.isStrOf x (.str y tk) = true from q)
    injection h with h
  · rintro rfl
    simp [PySem.strKind, Value.isStrOf, txt]
section
variable {P : Program} {w : World} {A : Around} {E : Value → Shared → Prop} {s : Shared} {a : Addr}
theorem rule_if {b : Bool} {Q : Unit → Shared → Prop} (q : Q () s) : wpAny (model P w) A (match b with | true => rule "set.scan.the-table-gave-way" | false => pure ()) Q E s := by
  cases b
  · exact wpAny_pure q
  · exact wpAny_rule q
/-- what is written behind a new entry -/
theorem put_entries {o : Obj} {es es1 : Array Ent} {ep : Nat} {t t1 : SetTable} {Q : Unit → Shared → Prop} (ho : s.heap.get? a = some o) (hx : o.ExactSet) (hd : o.data = .set es ep t) (fw : es1.size < scanBound)
    (h : ∀ h', Heap.SameBut a s.heap h' → (∃ o' ep', h'.get? a = some o' ∧ o'.ExactSet ∧ o'.data = .set es1 ep' t1) → Q () { s with heap := h' }) : wpAny (model P w) A (storeSet a es1 t1) Q E s := by
  refine wpAny_storeSet_of ho hd (h _ (Heap.SameBut.update s.heap a (Obj.putSet es1 t1)) ⟨{ o with data := .set es1 (ep + 1) t1 }, ep + 1, ?_, hx, rfl⟩) (fits_of_scanBound fw)
  rw [← putSet_of es1 t1 hd]
  exact Heap.get?_update_self (Obj.putSet es1 t1) ho (by rw [putSet_of es1 t1 hd]; rfl)
theorem same_trans {h h' h'' : Heap} (p : Heap.SameBut a h h') (q : Heap.SameBut a h' h'') : Heap.SameBut a h h'' := p.trans q
/-- entries that are ready to be written -/
structure Ready (w : World) (es : Array Ent) (t : SetTable) (ks : List Str) : Prop where
  ent : ∀ e ∈ es.toList, IsEnt w e
  nd : (texts es).Nodup
  few : es.size < scanBound
  fits : t.fits es.size = true
  ris : Ris t.place.toList
  led : w.params.followText "set-order" = true ∨ t.led = true
  pm : (texts es).Perm ks
theorem Ready.held {es : Array Ent} {t : SetTable} {ks : List Str} {h : Heap} (R : Ready w es t ks) (ho : ∃ o ep, h.get? a = some o ∧ o.ExactSet ∧ o.data = .set es ep t) : SetOfTexts w h a ks :=
  ⟨es, t, ⟨ho, R.ent, R.nd, R.few, R.fits, R.ris, R.led⟩, R.pm⟩
theorem Ready.relaid {es : Array Ent} {t : SetTable} {ks : List Str} (R : Ready w es t ks) (n : Nat) : Ready w (relayAll t es n).1 (relayAll t es n).2.1 ks := by
  have p := relayAll_perm t es n
  have l := relayAll_led t es n
  refine ⟨fun e he => R.ent e (p.mem_iff.mp he), (p.map _).nodup_iff.mpr R.nd, ?_, relayAll_fits t es n, relayAll_ris t es n, R.led.imp id fun z => by rw [l]; exact z, (p.map _).trans R.pm⟩
  have := p.length_eq
  rw [Array.length_toList, Array.length_toList] at this
  have := R.few
  omega
theorem write_ready {g : Bool → Sem Unit} (hg : ∀ (b : Bool) (s : Shared) (Q : Unit → Shared → Prop), Q () s → wpAny (model P w) A (g b) Q E s) {o : Obj} {es es1 : Array Ent} {ep : Nat} {t t1 : SetTable} {ks : List Str} {wd : Bool} {Q : Option Bool → Shared → Prop}
    (ho : s.heap.get? a = some o) (hx : o.ExactSet) (hd : o.data = .set es ep t) (R : Ready w es1 t1 ks) (h : ∀ h', Heap.SameBut a s.heap h' → SetOfTexts w h' a ks → Q (some true) { s with heap := h' }) :
    wpAny (model P w) A (do
      storeSet a es1 t1
      if (!wd && t1.tooFull) = true then do
          g (relayAll t1 es1 (SetTable.grown es1.size)).2.2
          storeSet a (relayAll t1 es1 (SetTable.grown es1.size)).1 (relayAll t1 es1 (SetTable.grown es1.size)).2.1
          pure (some true)
        else pure (some true)) Q E s := by
  refine wpAny_bind (put_entries ho hx hd R.few fun h1 sb1 at1 => ?_)
  split
  · have R2 := R.relaid (SetTable.grown es1.size)
    obtain ⟨o1, ep1, g1, x1, d1⟩ := at1
    refine wpAny_bind (hg _ _ _ (wpAny_bind (put_entries g1 x1 d1 R2.few fun h2 sb2 at2 => wpAny_pure ?_)))
    exact h _ (sb1.trans sb2) (R2.held at2)
  · exact wpAny_pure (h _ sb1 (R.held at1))
/-- the set takes one text more -/
theorem takes_text {ks : List Str} {x : Str} {tk : Tok} {Q : Bool → Shared → Prop} (H : SetOfTexts w s.heap a ks) (room : ks.length + 1 < scanBound)
    (hQ : ∀ b h', Heap.SameBut a s.heap h' → SetOfTexts w h' a (if x ∈ ks then ks else x :: ks) → Q b { s with heap := h' }) : wpAny (model P w) A (setAddHashed a (.str x tk) (hashStr w x)) Q E s := by
  obtain ⟨es, t, ⟨⟨o, ep, ho, hx, hd⟩, ge, nd, fw, hf, hr, hl⟩, pm⟩ := H
  have sz : es.size = ks.length := by rw [← pm.length_eq, List.length_map, Array.length_toList]
  have is : (PySem.strKind P w).is x (.str x tk) = true := by simp [PySem.strKind, Value.isStrOf]
  have el := ents_strKind (P := P) ge
  unfold setAddHashed setAddHashedIn
  refine wpAny_holding (wpAny_bind (wpAny_setState_of ho hd hf ?_))
  dsimp only
  rw [if_pos (byScan_of (show (Value.str x tk).scannable = true from rfl) fw el)]
  unfold setAddByScan
  refine wpAny_bind (wpAny_bind (wpAny_rule (wpAny_bind ?_)))
  refine wpAny_setScan_of (knd := PySem.strKind P w) (k := x) is ho hd hf el ?_
  cases fi : List.findIdx? (fun e => (PySem.strKind P w).is x e.2) es.toList with
  | some j =>
    obtain ⟨hj, q, _⟩ := List.findIdx?_eq_some_iff_getElem.mp fi
    have hm : x ∈ ks := pm.mem_iff.mp (List.mem_map.mpr ⟨_, List.getElem_mem hj, (is_txt (ge _ (List.getElem_mem hj)) x).mp q⟩)
    dsimp only
    refine wpAny_pure (wpAny_pure (hQ _ s.heap (Heap.SameBut.refl a s.heap) ?_))
    rw [if_pos hm]
    exact ⟨es, t, ⟨⟨o, ep, ho, hx, hd⟩, ge, nd, fw, hf, hr, hl⟩, pm⟩
  | none =>
    have hm : x ∉ ks := fun z => by
      obtain ⟨e, he, q⟩ := List.mem_map.mp (pm.mem_iff.mpr z)
      have := List.findIdx?_eq_none_iff.mp fi e he
      rw [(is_txt (ge e he) x).mpr q] at this
      cases this
    rw [if_neg hm] at hQ
    dsimp only
    have p1 := layNew_perm t es (hashStr w x) (.str x tk)
    have f1 := layNew_fits t es (hashStr w x) (.str x tk)
    have r1 := layNew_ris t es (hashStr w x) (.str x tk) hr
    have l1 := layNew_led t es (hashStr w x) (.str x tk)
    have R : Ready w (layNew t es (hashStr w x) (.str x tk)).1 { (layNew t es (hashStr w x) (.str x tk)).2.1 with plain := false } (x :: ks) ∧ Ready w (layNew t es (hashStr w x) (.str x tk)).1 (layNew t es (hashStr w x) (.str x tk)).2.1 (x :: ks) := by
      generalize layNew t es (hashStr w x) (.str x tk) = L at p1 f1 r1 l1 ⊢
      rw [Array.toList_push] at p1
      have p2 := p1.trans (List.perm_append_singleton _ _)
      have p3 : (texts L.1).Perm (x :: texts es) := p2.map fun e => txt e.2
      have len := p2.length_eq
      rw [List.length_cons, Array.length_toList, Array.length_toList] at len
      have ge1 : ∀ e ∈ L.1.toList, IsEnt w e := fun e he => by
        rcases List.mem_cons.mp (p2.mem_iff.mp he) with z | z
        · rw [z]; exact ⟨x, tk, rfl, rfl⟩
        · exact ge e z
      have nd1 : (texts L.1).Nodup := p3.nodup_iff.mpr (List.nodup_cons.mpr ⟨fun z => hm (pm.mem_iff.mp z), nd⟩)
      have pk : (texts L.1).Perm (x :: ks) := p3.trans (pm.cons x)
      have led1 : w.params.followText "set-order" = true ∨ L.2.1.led = true := hl.imp id fun z => by rw [l1]; exact z
      exact ⟨⟨ge1, nd1, by omega, SetTable.fits_plain_off f1, r1, led1, pk⟩, ⟨ge1, nd1, by omega, f1, r1, led1, pk⟩⟩
    generalize layNew t es (hashStr w x) (.str x tk) = L at R ⊢
    obtain ⟨es1, t1, wd, gv⟩ := L
    dsimp only at R ⊢
    have gw : ∀ (b : Bool) (s : Shared) (Q : Unit → Shared → Prop), Q () s → wpAny (model P w) A (match b with | true => rule "set.scan.the-table-gave-way" | false => pure ()) Q E s := fun b s Q q => rule_if q
    refine wpAny_bind (gw _ _ _ ?_)
    split
    · refine wpAny_bind ?_
      rw [hashByValue_scannable 8 (show (Value.str x tk).scannable = true from rfl)]
      refine wpAny_pure (write_ready (t1 := { t1 with plain := false }) gw ho hx hd R.1 fun h' sb q => ?_)
      exact wpAny_pure (hQ _ h' sb q)
    · refine wpAny_bind (wpAny_pure ?_)
      refine write_ready (t1 := t1) gw ho hx hd R.2 fun h' sb q => ?_
      exact wpAny_pure (hQ _ h' sb q)
/-- the texts of a walk, each once; in the order in which they come in -/
def firsts : List Str → List Str → List Str
  | ks, [] => ks
  | ks, x :: r => firsts (if x ∈ ks then ks else x :: ks) r
theorem firsts_mem : ∀ (xs ks : List Str) (y : Str), y ∈ firsts ks xs ↔ y ∈ ks ∨ y ∈ xs
  | [], ks, y => by simp [firsts]
  | x :: r, ks, y => by
    rw [firsts, firsts_mem r]
    split
    · rename_i h
      constructor
      · rintro (z | z)
        · exact .inl z
        · exact .inr (List.mem_cons_of_mem _ z)
      · rintro (z | z)
        · exact .inl z
        · rcases List.mem_cons.mp z with e | z
          · exact .inl (e ▸ h)
          · exact .inr z
    · simp only [List.mem_cons]
      constructor
      · rintro ((z | z) | z)
        · exact .inr (.inl z)
        · exact .inl z
        · exact .inr (.inr z)
      · rintro (z | z | z)
        · exact .inl (.inr z)
        · exact .inl (.inl z)
        · exact .inr z
theorem one_len (x : Str) (ks : List Str) : (if x ∈ ks then ks else x :: ks).length ≤ ks.length + 1 := by
  split
  · omega
  · simp
theorem firsts_len : ∀ (xs ks : List Str), (firsts ks xs).length ≤ ks.length + xs.length
  | [], ks => by simp [firsts]
  | x :: r, ks => by
    rw [firsts]
    have := firsts_len r (if x ∈ ks then ks else x :: ks)
    have := one_len x ks
    simp only [List.length_cons]
    omega
/-- all items of a walk are put in -/
theorem takes_walk {I S : Addr} {fp wr : List Addr} {G : Array GenState → Array GenState → Prop} {n : Nat} {Pv : Nat → Value → Prop} {St : Nat → Shared → Prop} {R : Result → Shared → Prop} (W : WalksS P w A.in1 I fp wr G n Pv St) (hS : S ∉ fp) :
    ∀ (xs ks : List Str) (i : Nat) (s : Shared), i + xs.length = n → ks.length + xs.length + 1 < scanBound → (∀ j v, Pv (i + j) v → j < xs.length → ∃ t, v = .str (xs.getD j ⟨#[]⟩) t) → St i s → SetOfTexts w s.heap S ks →
      (∀ s', Moved (S :: wr) G s s' → SetOfTexts w s'.heap S (firsts ks xs) → R (.ok (.ret .none)) s') → codeAny (model P w) A (.builtin "set.update.loop" ⟨[.ref S, .ref I], []⟩) R s := by
  have nw : S ∉ wr := fun z => hS (W.sub _ z)
  have up : ∀ b ∈ wr, b ∈ S :: wr := fun _ z => List.mem_cons_of_mem _ z
  intro xs
  induction xs with
  | nil =>
    intro ks i s hi _ _ st hs fin
    have e : i = n := hi
    refine codeAny_builtin F.entry_set_update_loop ?_
    rw [Around.under_plainId F.plain_set_update_loop _]
    subst e
    refine wpAny_bind (m := pyNext (.ref I)) (W.done s _ _ st fun s1 mv => ?_)
    exact wpAny_pure (fin s1 (mv.mono up) (hs.keep fun o z => mv.heap S o nw z))
  | cons x r ih =>
    intro ks i s hi room hv st hs fin
    simp only [List.length_cons] at hi room hv
    refine codeAny_builtin F.entry_set_update_loop ?_
    rw [Around.under_plainId F.plain_set_update_loop _]
    refine wpAny_bind (m := pyNext (.ref I)) (W.item i s _ _ (by omega) st fun v s1 pv st1 mv => ?_)
    obtain ⟨tk, rfl⟩ := hv 0 v pv (by omega)
    simp only [List.getD_cons_zero]
    refine wpAny_bind (m := holding [Value.str x tk] (setAdd S (.str x tk))) (wpAny_holding ?_)
    unfold setAdd
    refine wpAny_holding (wpAny_bind ((PySem.strKind P w).pyHash (k := x) (by simp [PySem.strKind, Value.isStrOf]) ?_))
    refine takes_text (s := { s1 with toks := s1.toks + 1 }) (hs.keep fun o z => mv.heap S o nw z) (by omega) fun b h' sb q => ?_
    have stay : ∀ c o, c ≠ S → s1.heap.get? c = some o → h'.get? c = some o := fun c o hc e => by rw [sb.2 c hc]; exact e
    refine wpAny_pure ⟨plainId_quiet F.plain_set_update_loop _, ih _ (i + 1) _ (by omega) (by have := one_len x ks; omega) (fun j v pj hj => ?_) (W.frame _ s1 _ _ st1 (Nat.le_succ _) fun c hc o e => stay c o (fun z => hS (z ▸ hc)) e) q fun s2 mv2 q2 => ?_⟩
    · have := hv (j + 1) v (by rw [show i + (j + 1) = i + 1 + j by omega]; exact pj) (by omega)
      simpa using this
    · refine fin s2 (Moved.trans W.gtrans ((mv.mono up).then_heap (Nat.le_succ _) fun c o hc e => stay c o (fun z => hc (by rw [z]; exact List.mem_cons_self)) e) mv2) q2
abbrev newSetO (w : World) : Obj := { cls := .type "set", dict := none, data := .set #[] 0 (.fresh 0 0 (!w.params.followText "set-order")) }
theorem empty_held {h : Heap} (e : h.get? a = some (newSetO w)) : SetOfTexts w h a [] := by
  refine ⟨#[], _, ⟨⟨_, 0, e, ⟨rfl, rfl, rfl⟩, rfl⟩, ?_, ?_, by decide, rfl, List.Pairwise.nil, ?_⟩, .refl _⟩
  · intro e he; cases he
  · exact List.Pairwise.nil
  · show _ ∨ (!w.params.followText "set-order") = true
    cases w.params.followText "set-order"
    · exact .inr rfl
    · exact .inl rfl
/-- what the filling of a new set does: __init__ with a list of texts -/
theorem init_texts {S l : Addr} {items : Array Value} {xs : List Str} {Q : Value → Shared → Prop} (hh : A.handled = none) (hS : s.heap.get? S = some (newSetO w)) (hl : s.heap.IsList l items) (hne : l ≠ S) (hsz : items.size = xs.length) (hv : ∀ (j : Nat) (v : Value), items[j]? = some v → ∃ t, v = Value.str (xs.getD j ⟨#[]⟩) t)
    (hb : xs.length + 1 < scanBound) (h : ∀ h' tk, SetOfTexts w h' S (firsts [] xs) → (∀ b o, b ≠ S → s.heap.get? b = some o → h'.get? b = some o) → Q .none { s with heap := h', toks := tk }) :
    wpAny (model P w) A (Builtin.«set.__init__» ⟨[.ref S, .ref l], []⟩) (fun f s' => ∃ r, f = .done (.ret r) ∧ Q r s') E s := by
  have hT : s.TypeIs (.ref S) "set" := ⟨_, hS, rfl⟩
  obtain ⟨ol, hol, hcl, nl, hdl⟩ := hl
  obtain ⟨ocls, odict, odata, oslots⟩ := ol
  simp only at hcl hdl
  subst hcl
  subst hdl
  have hl2 : s.heap.IsList l items := ⟨_, hol, rfl, nl, rfl⟩
  have a1 := F.sub_list_set
  have a2 := F.sub_list_frozenset
  have a3 : (Value.type "list" == Value.type "dict") = false := by decide
  unfold Builtin.«set.__init__» noKeywords Builtin.Frozenset.updateFrom
  generalize hp : pyIter = go
  wp_walk
  subst hp
  refine wpAny_pyIter_list hl2 (wpAny_bind (wpAny_runValue ?_))
  have lS : S < s.heap.objs.size := Heap.lt_size hS
  have ll : l < s.heap.objs.size := Heap.lt_size hol
  have hI : l ≠ s.heap.objs.size := Nat.ne_of_lt ll
  have hSI : S ∉ [s.heap.objs.size, l] := by
    simp only [List.mem_cons, List.not_mem_nil, or_false, not_or]
    exact ⟨Nat.ne_of_lt lS, hne.symm⟩
  have e0 : (s.heap.push { cls := .type "list_iterator", data := .fields #[.ref l, .int 0 0] }).get? S = some (newSetO w) := Heap.get?_push_of_some _ hS
  refine takes_walk (A := A) (P := P) (w := w) ((Walks.list (by simp [hh]) _ l hI items).toS) hSI xs [] 0 _ (by omega) (by simpa using hb) (fun j v pv hj => hv j v (by simpa using pv)) ⟨⟨_, Heap.get?_push_size _ rfl, rfl, rfl⟩, hl2.push _⟩ (empty_held e0) ?_
  intro s1 mv q
  obtain ⟨h', g', d', tk', o'⟩ := s1
  obtain rfl : g' = s.gens := mv.gens
  obtain rfl : d' = s.drawn := mv.drawn
  obtain rfl : o' = s.os := mv.os
  refine wpAny_pure (wpAny_pure ⟨_, rfl, h h' tk' q fun b o hb e => ?_⟩)
  refine mv.heap b o ?_ (Heap.get?_push_of_some _ e)
  simp only [List.mem_cons, List.not_mem_nil, or_false, not_or]
  exact ⟨hb, Nat.ne_of_lt (Heap.lt_size e)⟩
/-- set(xs) of a list of texts -/
theorem call_set_texts {l : Addr} {items : Array Value} {xs : List Str} {Q : Value → Shared → Prop} (hh : A.handled = none) (hl : s.heap.IsList l items) (hsz : items.size = xs.length) (hv : ∀ (j : Nat) (v : Value), items[j]? = some v → ∃ t, v = Value.str (xs.getD j ⟨#[]⟩) t)
    (hb : xs.length + 1 < scanBound) (h : ∀ h' tk, SetOfTexts w h' s.heap.objs.size (firsts [] xs) → (∀ b o, s.heap.get? b = some o → h'.get? b = some o) → Q (.ref s.heap.objs.size) { s with heap := h', toks := tk }) : wpAny (model P w) A (call (.type "set") [.ref l]) Q E s := by
  have c1 := F.called_set.notType
  have c2 := F.called_set.canCreate
  have c3 := F.called_set.made
  have c4 := F.called_set.sub
  have c5 := F.typeCall_set_1 (.ref l)
  obtain ⟨_, _, c6⟩ := F.called_set.mro
  refine wpAny_call (codeAny_of_tree ?_)
  show wpAny (model P w) _ (callAny (.type "set") ⟨[.ref l], []⟩) _ _ s
  refine wpAny_pure ⟨Code.quiet_builtin _ (by decide +kernel), codeAny_builtin F.entry_type_call ?_⟩
  rw [Around.under_plain (weight_type_call_type "set" [.ref l] []) rfl]
  repeat (any_goals (first | assumption | wp_step))
  refine codeAny_mono (code_set_led1 (.ref l) (E := E) (Q₁ := fun v s1 => v = .ref s.heap.objs.size ∧ s1 = { s with heap := s.heap.push (newSetO w) }) ⟨rfl, rfl⟩) fun r s1 hr => ?_
  obtain e | fl := r
  · exact hr
  cases fl <;> first | exact hr.elim | skip
  obtain ⟨rfl, rfl⟩ := hr
  have new : (s.heap.push (newSetO w)).get? s.heap.objs.size = some (newSetO w) := Heap.get?_push_size _ rfl
  have ty : Shared.TypeIs { s with heap := s.heap.push (newSetO w) } (.ref s.heap.objs.size) "set" := ⟨_, new, rfl⟩
  have c7 := F.called_set.init.lookup
  have c8 := F.called_set.init.bind (.ref s.heap.objs.size)
  have hlt : l ≠ s.heap.objs.size := by
    obtain ⟨o, ho, _⟩ := hl
    exact Nat.ne_of_lt (Heap.lt_size ho)
  repeat (any_goals (first | assumption | wp_step))
  refine codeAny_mono (codeAny_call_builtin (R := wants (fun r s2 => r = .none ∧ ∃ h' tk, s2 = { s with heap := h', toks := tk } ∧ SetOfTexts w h' s.heap.objs.size (firsts [] xs) ∧ ∀ b o, s.heap.get? b = some o → h'.get? b = some o) E) F.called_set.init.plain F.entry_set_init (check_set_init_1 ty ?_)) fun r2 s2 hr2 => ?_
  · refine wpAny_mono (init_texts (E := E) (Q := fun r s2 => r = .none ∧ ∃ h' tk, s2 = { s with heap := h', toks := tk } ∧ SetOfTexts w h' s.heap.objs.size (firsts [] xs) ∧ ∀ b o, s.heap.get? b = some o → h'.get? b = some o) (by simp [hh]) new (hl.push _) hlt hsz hv hb fun h' tk q k => ⟨rfl, h', tk, rfl, q, fun b o e => k b o (Nat.ne_of_lt (Heap.lt_size e)) (Heap.get?_push_of_some _ e)⟩) ?_ fun e s2 q => q
    rintro f s2 ⟨r, rfl, q⟩
    exact q
  · obtain e | fl := r2
    · exact hr2
    cases fl <;> first | exact hr2.elim | skip
    obtain ⟨rfl, h', tk, rfl, q, k⟩ := hr2
    repeat (any_goals (first | assumption | wp_step))
    exact h _ _ q k
end
end PL

set_option maxHeartbeats 4000000
namespace PL
open PySem PySem.Spec PyProof.Rows L2
theorem strs_of_ents {w : World} : ∀ {l : List Ent}, (∀ e ∈ l, IsEnt w e) → StrsAre (l.map fun e => e.2) (l.map fun e => txt e.2)
  | [], _ => .nil
  | e :: r, g => by
    obtain ⟨x, tk, h, _⟩ := g e List.mem_cons_self
    simp only [List.map_cons, h]
    exact .cons x tk (strs_of_ents fun e he => g e (List.mem_cons_of_mem _ he))
theorem strs_txt {vs : List Value} {ss : List Str} (h : StrsAre vs ss) : ss = vs.map txt := by
  induction h with
  | nil => rfl
  | cons x t _ ih => rw [ih]; rfl
theorem strs_mem {vs : List Value} (h : ∀ v ∈ vs, ∃ x t, v = Value.str x t) : StrsAre vs (vs.map txt) := by
  induction vs with
  | nil => exact .nil
  | cons v r ih =>
    obtain ⟨x, t, rfl⟩ := h v List.mem_cons_self
    exact .cons x t (ih fun v hv => h v (List.mem_cons_of_mem _ hv))
section
variable {P : Program} {w : World} {A : Around} {E : Value → Shared → Prop} {s : Shared} {a : Addr}
/-- sorted(a), a: a set of texts -/
theorem call_sorted_texts {ks : List Str} {Q : Value → Shared → Prop} (hh : A.handled = none) (H : SetOfTexts w s.heap a ks) (few : ks.length < 64)
    (hQ : ∀ s' p (out : Array Value) (c : Nat) (ys : List Str), (∀ b o, s.heap.get? b = some o → s'.heap.get? b = some o) → s'.gens = s.gens → s'.os = s.os → s.heap.objs.size ≤ p → s'.heap.get? p = some (seqObj "list" out c) → StrsAre out.toList ys → sortedS ys = true → ys.Nodup → ys.Perm ks → Q (.ref p) s') :
    wpAny (model P w) A (call (.builtin "sorted") [.ref a]) Q E s := by
  obtain ⟨es, t, ⟨⟨o, ep, ho, hx, hd⟩, ge, nd, fw, hf, hr, hl⟩, pm⟩ := H
  have sz : es.size = ks.length := by rw [← pm.length_eq, List.length_map, Array.length_toList]
  refine Calls.call_function_entry kind_sorted plain_sorted entry_sorted (args_sorted1 _) ?_
  unfold Builtin.«sorted»
  refine wpAny_bind (m := checkCount "sorted" 1 1 _) (wpAny_pure (wpAny_bind ?_))
  refine collect_set (by simp [hh]) ⟨o, ho, hx.1, hd⟩ hf fw hr hl fun s1 vs k1 z1 g1 o1 pv => ?_
  have len : vs.length = ks.length := by rw [pv.length_eq, List.length_map, Array.length_toList, sz]
  have hv : ∀ v ∈ vs, ∃ x tk, v = Value.str x tk := fun v hv => by
    obtain ⟨e, he, q⟩ := List.mem_map.mp (pv.mem_iff.mp hv)
    obtain ⟨x, tk, h, _⟩ := ge e he
    exact ⟨x, tk, q ▸ h⟩
  have hS := strs_mem hv
  have pt : (vs.map txt).Perm (texts es) := by
    have := pv.map txt
    rwa [List.map_map] at this
  refine wpAny_bind (wpAny_newList ?_ (by rw [len, sizeLine_eq]; omega))
  have hL : (s1.heap.push (seqObj "list" vs.toArray 0)).get? s1.heap.objs.size = some (seqObj "list" vs.toArray 0) := Heap.get?_push_size _ rfl
  refine wpAny_bind (wpAny_holding (wpAny_call_entry slot_list_sort ⟨_, hL, rfl⟩ entry_list_sort (list_sort_treeK strKind_oneLt hL hS.keysOf (fun v1 v2 rest e => keyKind_strs (ss := vs.map txt) (by rw [← e]; exact hS)) (by omega) fun st p1 p2 => ⟨_, rfl, ?_⟩) (args_list_sort _)))
  obtain ⟨ys, y1, y2, y3⟩ := sorted_out_str hS p1 p2
  obtain ⟨c, hc⟩ := sortedHeap_at (vs := vs) (out := (arrOf st).map (·.2)) hL
  have py := y2.trans pt
  refine wpAny_pure ⟨_, rfl, hQ _ s1.heap.objs.size _ c ys (fun b u e => ?_) g1 o1 z1 hc y1 y3 (py.nodup_iff.mpr nd) (py.trans pm)⟩
  have lt := Heap.lt_size (k1 b u e)
  show (sortedHeap (s1.heap.push (seqObj "list" vs.toArray 0)) s1.heap.objs.size vs ((arrOf st).map (·.2))).get? b = some u
  rw [sortedHeap_old (Nat.ne_of_lt lt) (by rw [size_push']; exact Nat.lt_succ_of_lt lt)]
  exact Heap.get?_push_of_some _ (k1 b u e)
end
/-- sorted(set(xs)) of a list of texts -/
def sortSetR (d : D) (M : Mem) (Q : DK) : Prop := ∃ es ss, lstAt M d = some es ∧ strsOf es = some ss ∧ ss.length < 63 ∧ ∀ ys p, SortsTo true ss ys → M p = none → Q (.ob p) (mupd M p (.lst (ys.map D.str)))
def sortSetK (Q : DK) : DK := fun d M => sortSetR d M Q
def dSortSet (te : DE) : DE := fun env M Q E => te env M (sortSetK Q) E
theorem s_sortSet {te env M Q E} : dSortSet te env M Q E = te env M (sortSetK Q) E := id rfl
theorem s_sortSetK {d M Q} : sortSetK Q d M = sortSetR d M Q := id rfl
theorem xe_sortedSet {X : Cx} {W : WX} {a : Expr} {ta : DE} {p p2 q pos : Pos} (hc : X.calm = true) (hg : Gl X "sorted") (hm : X.mg "sorted" = none) (hg2 : Gl X "set") (hm2 : X.mg "set" = none) (ha : XE X W a ta) (na : starEach [a] X.env = (false, eval a X.env) :: starEach [] X.env := by rfl) :
    XE X W (.Call (.Name "sorted" p) [.Call (.Name "set" p2) [a] [] q] [] pos) (dSortSet ta) := by
  refine ⟨fun env M Q Q' E E' hQ hE => ha.mono _ _ _ _ _ _ (fun d M1 ⟨es, ss, h1, h2, h3, h⟩ => ⟨es, ss, h1, h2, h3, fun ys p z1 z2 => hQ _ _ (h ys p z1 z2)⟩) hE, ⟨fun pins s σ H Q I h => ?_⟩⟩
  obtain ⟨env, M, re, sm, h⟩ := h
  have h1 : liftE X.K W ta σ H fun u H1 => ∃ (l : Addr) (ss : List Str), u = .ref l ∧ SqL X.K H1 l (ss.map V.str) ∧ ss.length < 63 ∧ ∀ ys p, SortsTo true ss ys → H1 p = none → Q (.ref p) (upd H1 p (.lst (ys.map V.str))) := by
    refine stepE ha.mono re sm h (fun d M1 u H1 e1 s1 re1 r1 q => ?_) fun _ _ _ z => z
    obtain ⟨es, ss, q1, q2, q3, q4⟩ := q
    obtain ⟨l, us, rfl, hs, lr⟩ := lstAt_rep s1 r1 q1
    rw [strsOf_eq q2] at lr
    rw [lr.strs] at hs
    exact ⟨l, ss, rfl, hs, q3, fun ys p z1 z2 => fin_lst (fun p hp => upK_mono e1 _ _ (q4 ys p z1 hp)) s1 z2 .of_strs⟩
  refine Call_ (ld_blt I hg hm (by rfl) ?_)
  refine PyProof.Rows.callWith_builtin1 (PyProof.Rows.args_cons ?_ rfl) rfl rfl
  refine Call_ (ld_blt I hg2 hm2 (by rfl) ?_)
  refine PyProof.Rows.callWith_type1 (PyProof.Rows.args_cons (thn (ha.pe.run pins s σ H _ I h1) fun v s1 ⟨x, H1, I1, r1, q1⟩ => PyProof.Rows.args_nil ?_) na) na rfl
  obtain ⟨l, ss, rfl, hs, few, q⟩ := q1
  cases r1
  obtain ⟨its, rv, pl, hz⟩ := I1.list hs
  have sa : StrsAre its ss := strsAre_of rv
  have isz : its.toArray.size = ss.length := by rw [List.size_toArray, ← rv.length, List.length_map]
  refine call_set_texts (I1.ok.hd hc) pl.isList isz (fun j v e => ?_) (by have : scanBound = 4096 := rfl; omega) fun h' tk S k => PyProof.Rows.args_nil ?_
  · obtain ⟨t, z⟩ := SS.strs_at sa j v (by simpa using e)
    exact ⟨t, z⟩
  have I2 : Inv X pins σ H1 { s1 with heap := h', toks := tk } := I1.kept k
  have fl := firsts_len ss []
  refine call_sorted_texts (s := { s1 with heap := h', toks := tk }) (I2.ok.hd hc) S (by simp only [List.length_nil] at fl; omega) fun s' p out c ys k2 g o hp e1 e2 e3 e4 e5 => ?_
  have hn : H1 p = none := I2.hok.fresh hp
  have ylen : (ys.map V.str).length ≤ sizeLine := by
    rw [List.length_map, e5.length_eq, sizeLine_eq]
    simp only [List.length_nil] at fl
    omega
  have J : Inv X pins σ (upd H1 p (.lst (ys.map V.str))) s' :=
    I2.call' (ch := []) o (Un.laid k2 hp hn) (I2.hok.laid k2 hp ⟨ylen, out.toList, c, vals_of_strs e2, e1⟩) (by rw [g]; exact I2.bare) fun _ z => nomatch z
  refine ⟨.ref p, _, J, rfl, q ys p ⟨e3, ?_⟩ hn⟩
  rw [if_pos rfl]
  refine ⟨e4, fun x => ?_⟩
  rw [e5.mem_iff, firsts_mem]
  simp
end PL

namespace PL
open PySem PySem.Spec PyProof.Rows L2

/-! what all laws have: the drawn numbers -/
def StAt (M : Mem) (a b : Addr) : Prop := ∃ p q c ns, M a = some (.lst [.ob b, .int p, .int q, .int c]) ∧ M b = some (.lst (List.map D.int ns)) ∧ 0 ≤ p ∧ 0 ≤ q ∧ b ≠ a
theorem StAt.keep {M M' : Mem} {a b : Addr} {S : List Addr} (h : StAt M a b) (k : Keep S M M') (ha : a ∉ S := by simp) (hb : b ∉ S := by simp) : StAt M' a b := by
  obtain ⟨p, q, c, ns, h1, h2, h3⟩ := h
  exact ⟨p, q, c, ns, k _ _ h1 ha, k _ _ h2 hb, h3⟩
theorem StAt.put {M : Mem} {a b l : Addr} {o : Ob} (h : StAt M a b) (ha : l ≠ a) (hb : l ≠ b) : StAt (mupd M l o) a b := h.keep (S := [l]) (Keep.put (by simp)) (by simpa using ha.symm) (by simpa using hb.symm)
theorem StAt.new {M : Mem} {a b l : Addr} {o : Ob} (h : StAt M a b) (hl : M l = none) : StAt (mupd M l o) a b := h.keep (S := []) (Keep.new hl)
theorem StAt.some {M : Mem} {a b : Addr} (h : StAt M a b) : (∃ o, M a = some o) ∧ ∃ o, M b = some o := by
  obtain ⟨p, q, c, ns, h1, h2, _⟩ := h
  exact ⟨⟨_, h1⟩, ⟨_, h2⟩⟩
theorem StAt.ne {M : Mem} {a b l : Addr} (h : StAt M a b) (hl : M l = none) : l ≠ a ∧ l ≠ b := by
  obtain ⟨⟨o, h1⟩, ⟨o2, h2⟩⟩ := h.some
  exact ⟨ne_new' h1 hl, ne_new' h2 hl⟩
theorem StAt.fresh {M M' : Mem} {a b l : Addr} (h : StAt M' a b) (k : Keep [a] M M') (hl : M' l = none) : M l = none := by
  cases e : M l with
  | none => rfl
  | some o =>
    have := k l o e (by simpa using (h.ne hl).1)
    rw [hl] at this
    cases this
def sp_start (K : PySem.W.Frag) : DSp := fun ds M Q E => ∃ a ns, ds = [.ob a] ∧ Scr K M a ns ∧ ∀ r b M', M r = none → M b = none → StAt M' r b → Keep [] M M' → Q (.ob r) M'
def sp_draw : DSp := fun ds M Q E => ∃ a b m, ds = [.ob a, .int m] ∧ StAt M a b ∧ 0 < m ∧ m < 1073741824 ∧ ∀ r M', 0 ≤ r → r < m → StAt M' a b → Keep [a] M M' → Q (.int r) M'
def seqI (M : Mem) : D → Option (List D)
  | .tup ds => some ds
  | .v (.str x) => some (signs x)
  | .v (.ref l) => match M l with
    | some (.lst ds) => some ds
    | _ => none
  | _ => none
def ofA (a : Addr) : D → Bool
  | .v (.ref l) => decide (l = a)
  | _ => false
theorem seqI_keep {M M' : Mem} {a : Addr} {d : D} {ds : List D} (h : seqI M d = some ds) (k : Keep [a] M M') (n : ofA a d = false) : seqI M' d = some ds := by
  unfold seqI at h ⊢
  split at h
  · exact h
  · exact h
  · rename_i l
    split at h
    · rename_i hm
      have hl : l ≠ a := by simpa [ofA] using n
      rw [k _ _ hm (by simpa using hl)]
      exact h
    · cases h
  · cases h
theorem signs_len (x : Str) : (signs x).length = x.length := by simp [signs, Str.length]
theorem len_seqI {M : Mem} {d : D} {ds : List D} {Q : DK} (h : seqI M d = some ds) (hl : ds.length ≤ sizeLine) (q : Q (.int ds.length) M) : (bLen [d] M).run M Q := by
  unfold seqI at h
  split at h
  · cases h; exact ⟨trivial, q⟩
  · cases h; rw [signs_len] at hl q; exact ⟨hl, q⟩
  · split at h
    · rename_i hm; cases h; simp only [bLen, hm]; exact ⟨trivial, q⟩
    · cases h
  · cases h
theorem atI_map' {α β : Type} (f : α → β) (xs : List α) (i : Int) : atI (xs.map f) i = (atI xs i).map f := by
  unfold atI
  rw [List.length_map]
  cases ixN xs.length i with
  | none => rfl
  | some j => simp
theorem ix_seqI {M : Mem} {d x : D} {ds : List D} {i : Int} {Q : DK} (h : seqI M d = some ds) (hl : ds.length ≤ sizeLine) (hx : atI ds i = some x) (q : Q x M) : (opIx d (.int i) M).run M Q := by
  unfold seqI at h
  split at h
  · cases h; simp only [opIx, hx]; exact ⟨trivial, q⟩
  · cases h
    rename_i z
    rw [signs_len] at hl
    unfold signs at hx
    rw [atI_map'] at hx
    cases e : atI z.cps.toList i with
    | none => rw [e] at hx; cases hx
    | some c =>
      rw [e] at hx
      cases hx
      simp only [opIx, e]
      exact ⟨hl, q⟩
  · split at h
    · rename_i hm; cases h; simp only [opIx, hm, hx]; exact ⟨trivial, q⟩
    · cases h
  · cases h
theorem atI_some {α : Type} {xs : List α} {i : Int} (h0 : 0 ≤ i) (h1 : i < xs.length) : ∃ x, atI xs i = some x ∧ x ∈ xs := by
  have h2 : i.toNat < xs.length := by omega
  refine ⟨xs[i.toNat], ?_, List.getElem_mem h2⟩
  unfold atI ixN
  rw [if_pos h0, if_pos h1]
  simp [h2]
theorem filter_tt {α : Type} (xs : List α) : xs.filter (fun _ => true) = xs := List.filter_eq_self.mpr fun _ _ => rfl
theorem atI_cons {α : Type} {x : α} {r : List α} {i : Int} : atI (x :: r) i = (ixN (r.length + 1) i).bind fun j => (x :: r)[j]? := rfl
theorem atI_zero {α : Type} {x : α} {r : List α} : atI (x :: r) 0 = some x := by
  unfold atI ixN
  simp
theorem atI_get {α : Type} {xs : List α} {i : Int} (h0 : 0 ≤ i) (h1 : i < xs.length) : atI xs i = some (xs[i.toNat]'(by omega)) := by
  unfold atI ixN
  rw [if_pos h0, if_pos h1]
  exact List.getElem?_eq_getElem _
theorem atI_natI {α : Type} {xs : List α} {i : Nat} (h1 : i < xs.length) : atI xs (i : Int) = some xs[i] := by
  rw [atI_get (by omega) (by omega)]
  simp
theorem atI_nat' {α : Type} {xs : List α} {i : Nat} (h1 : i < xs.length) : atI xs (0 + (i : Int)) = some xs[i] := by
  rw [Int.zero_add, atI_get (by omega) (by omega)]
  simp
def sp_one_of : DSp := fun ds M Q E => ∃ a b d es, ds = [.ob a, d] ∧ StAt M a b ∧ seqI M d = some es ∧ ofA a d = false ∧ es ≠ [] ∧ es.length < 16777216 ∧ ∀ x M', x ∈ es → StAt M' a b → Keep [a] M M' → Q x M'
/-! data of a law: ints, texts, tuples of such -/
mutual
def D.dat : D → Bool
  | .v (.int _) | .v (.str _) => true
  | .v _ => false
  | .tup ds => decide (ds.length < 1000000) && datL ds
def datL : List D → Bool
  | [] => true
  | d :: ds => d.dat && datL ds
end
theorem datL_mem : ∀ {ds : List D}, datL ds = true → ∀ d ∈ ds, d.dat = true
  | d :: ds, h, e, he => by
    simp only [datL, Bool.and_eq_true] at h
    rcases List.mem_cons.mp he with z | z
    · rw [z]; exact h.1
    · exact datL_mem h.2 e z
theorem dpL_mem : ∀ {ds : List D} {n : Nat}, dpL ds ≤ n → ∀ d ∈ ds, d.dp ≤ n
  | d :: ds, n, h, e, he => by
    simp only [dpL] at h
    rcases List.mem_cons.mp he with z | z
    · rw [z]; omega
    · exact dpL_mem (by omega) e z
def sp_is_int : DSp := fun ds M Q E => ∃ i, ds = [.int i] ∧ Q (.bl true) M
def sp_same (n : Nat) : DSp := fun ds M Q E => ∃ d, ds = [d, d] ∧ d.dat = true ∧ d.dp < n ∧ ∀ M', Keep [] M M' → Q (.bl true) M'
/-! isinstance of plain data -/
def isR (a : Option String) (n : String) : Res := match a with
  | some a => .val True (.bl (isi a n))
  | none => .bad
theorem q_is_tuple {d : D} {M : Mem} {Q : DK} : (bIsi [d, .v (.ty "tuple")] M).run M Q = (isR (tyN M d) "tuple").run M Q := by
  simp only [bIsi, isR]
  cases tyN M d with
  | none => rfl
  | some a => simp [Res.run]
theorem q_is_str {d : D} {M : Mem} {Q : DK} : (bIsi [d, .v (.ty "str")] M).run M Q = (isR (tyN M d) "str").run M Q := by
  simp only [bIsi, isR]
  cases tyN M d with
  | none => rfl
  | some a => simp [Res.run]
theorem q_is_int {d : D} {M : Mem} {Q : DK} : (bIsi [d, .v (.ty "int")] M).run M Q = (isR (tyN M d) "int").run M Q := by
  simp only [bIsi, isR]
  cases tyN M d with
  | none => rfl
  | some a => simp [Res.run]
theorem q_is_bool {d : D} {M : Mem} {Q : DK} : (bIsi [d, .v (.ty "bool")] M).run M Q = (isR (tyN M d) "bool").run M Q := by
  simp only [bIsi, isR]
  cases tyN M d with
  | none => rfl
  | some a => simp [Res.run]
theorem q_is_list {d : D} {M : Mem} {Q : DK} : (bIsi [d, .v (.ty "list")] M).run M Q = (isR (tyN M d) "list").run M Q := by
  simp only [bIsi, isR]
  cases tyN M d with
  | none => rfl
  | some a => simp [Res.run]
theorem q_isR {a n : String} {M : Mem} {Q : DK} : (isR (some a) n).run M Q = Q (.bl (isi a n)) M := by simp [isR, Res.run]
theorem i_NoneType_tuple : isi "NoneType" "tuple" = false := by decide
theorem i_NoneType_str : isi "NoneType" "str" = false := by decide
theorem i_NoneType_int : isi "NoneType" "int" = false := by decide
theorem i_NoneType_bool : isi "NoneType" "bool" = false := by decide
theorem i_NoneType_list : isi "NoneType" "list" = false := by decide
theorem i_bool_tuple : isi "bool" "tuple" = false := by decide
theorem i_bool_str : isi "bool" "str" = false := by decide
theorem i_bool_int : isi "bool" "int" = true := by decide
theorem i_bool_bool : isi "bool" "bool" = true := by decide
theorem i_bool_list : isi "bool" "list" = false := by decide
theorem i_int_tuple : isi "int" "tuple" = false := by decide
theorem i_int_str : isi "int" "str" = false := by decide
theorem i_int_int : isi "int" "int" = true := by decide
theorem i_int_bool : isi "int" "bool" = false := by decide
theorem i_int_list : isi "int" "list" = false := by decide
theorem i_str_tuple : isi "str" "tuple" = false := by decide
theorem i_str_str : isi "str" "str" = true := by decide
theorem i_str_int : isi "str" "int" = false := by decide
theorem i_str_bool : isi "str" "bool" = false := by decide
theorem i_str_list : isi "str" "list" = false := by decide
theorem i_tuple_tuple : isi "tuple" "tuple" = true := by decide
theorem i_tuple_str : isi "tuple" "str" = false := by decide
theorem i_tuple_int : isi "tuple" "int" = false := by decide
theorem i_tuple_bool : isi "tuple" "bool" = false := by decide
theorem i_tuple_list : isi "tuple" "list" = false := by decide
theorem i_list_tuple : isi "list" "tuple" = false := by decide
theorem i_list_str : isi "list" "str" = false := by decide
theorem i_list_int : isi "list" "int" = false := by decide
theorem i_list_bool : isi "list" "bool" = false := by decide
theorem i_list_list : isi "list" "list" = true := by decide
theorem i_dict_tuple : isi "dict" "tuple" = false := by decide
theorem i_dict_str : isi "dict" "str" = false := by decide
theorem i_dict_int : isi "dict" "int" = false := by decide
theorem i_dict_bool : isi "dict" "bool" = false := by decide
theorem i_dict_list : isi "dict" "list" = false := by decide
/-! == of plain data -/
theorem q_eqI {i j : Int} {M : Mem} {Q : DK} : (opEq (.int i) (.int j) M).run M Q = Q (.bl (decide (i = j))) M := by
  simp [opEq, pyM, D.pure, D.py, Res.run, PyData.depth, PyData.eqv, mostDeep, Bool.beq_eq_decide_eq]
theorem q_neI {i j : Int} {M : Mem} {Q : DK} : (opNe (.int i) (.int j) M).run M Q = Q (.bl (!decide (i = j))) M := by
  simp [opNe, pyM, D.pure, D.py, Res.run, PyData.depth, PyData.eqv, mostDeep, Bool.beq_eq_decide_eq]
theorem q_eqS {x y : Str} {M : Mem} {Q : DK} : (opEq (.str x) (.str y) M).run M Q = Q (.bl (decide (x = y))) M := by
  simp [opEq, pyM, D.pure, D.py, Res.run, PyData.depth, PyData.eqv, mostDeep, Bool.beq_eq_decide_eq]
theorem q_neS {x y : Str} {M : Mem} {Q : DK} : (opNe (.str x) (.str y) M).run M Q = Q (.bl (!decide (x = y))) M := by
  simp [opNe, pyM, D.pure, D.py, Res.run, PyData.depth, PyData.eqv, mostDeep, Bool.beq_eq_decide_eq]
mutual
theorem dat_pure : ∀ {d : D}, d.dat = true → d.pure = true
  | .v x, h => by cases x <;> first | rfl | (simp [D.dat] at h)
  | .tup ds, h => by
    simp only [D.dat, Bool.and_eq_true] at h
    simp only [D.pure]
    exact datL_pure h.2
theorem datL_pure : ∀ {ds : List D}, datL ds = true → pureL ds = true
  | [], _ => rfl
  | d :: ds, h => by
    simp only [datL, Bool.and_eq_true] at h
    simp only [pureL, Bool.and_eq_true]
    exact ⟨dat_pure h.1, datL_pure h.2⟩
end
mutual
theorem eqv_dat : ∀ {d e : D}, d.dat = true → e.dat = true → (D.eqv d e = true ↔ d = e)
  | .v x, .v y, h, g => by
    cases x <;> first | (simp [D.dat] at h; done) | skip
    all_goals cases y <;> first | (simp [D.dat] at g; done) | simp [D.eqv, D.py, PyData.eqv]
  | .v x, .tup es, h, g => by
    cases x <;> first | (simp [D.dat] at h; done) | simp [D.eqv, D.py, PyData.eqv]
  | .tup es, .v x, h, g => by
    cases x <;> first | (simp [D.dat] at g; done) | simp [D.eqv, D.py, PyData.eqv]
  | .tup ds, .tup es, h, g => by
    simp only [D.dat, Bool.and_eq_true] at h g
    have := eqvL_dat h.2 g.2
    simp only [D.eqv, D.py, PyData.eqv, D.tup.injEq]
    exact this
theorem eqvL_dat : ∀ {ds es : List D}, datL ds = true → datL es = true → (PyData.eqvAll (pyL ds) (pyL es) = true ↔ ds = es)
  | [], [], _, _ => by simp [pyL, PyData.eqvAll]
  | [], e :: es, _, _ => by simp [pyL, PyData.eqvAll]
  | d :: ds, [], _, _ => by simp [pyL, PyData.eqvAll]
  | d :: ds, e :: es, h, g => by
    simp only [datL, Bool.and_eq_true] at h g
    have h1 := eqv_dat h.1 g.1
    have h2 := eqvL_dat h.2 g.2
    simp only [pyL, PyData.eqvAll, Bool.and_eq_true, List.cons.injEq]
    unfold D.eqv at h1
    rw [h1, h2]
end
theorem ofS_inj {a b : String} : (Str.ofString a = Str.ofString b) = (a = b) := by
  apply propext
  constructor
  · intro h
    have h2 := congrArg TL.tl h
    rw [TL.tl_ofString, TL.tl_ofString] at h2
    have inj : ∀ xs ys : List Char, xs.map Char.toNat = ys.map Char.toNat → xs = ys := by
      intro xs
      induction xs with
      | nil => intro ys h; cases ys with
        | nil => rfl
        | cons y r => simp at h
      | cons x r ih => intro ys h; cases ys with
        | nil => simp at h
        | cons y t =>
          simp only [List.map_cons, List.cons.injEq] at h
          rw [Char.toNat_inj.mp h.1, ih t h.2]
    have h3 : a.toList = b.toList := inj _ _ h2
    exact String.toList_inj.mp h3
  · rintro rfl; rfl
/-! in of plain data -/
theorem any_str {x : Str} {fs : List Str} : ((fs.map D.str).any fun d => D.eqv d (.str x)) = decide (x ∈ fs) := by
  rw [List.any_map]
  induction fs with
  | nil => simp
  | cons y r ih =>
    rw [List.any_cons, ih]
    simp only [Function.comp, D.eqv, D.py, PyData.eqv, List.mem_cons, Bool.decide_or, Bool.beq_eq_decide_eq]
    congr 1
    exact decide_eq_decide.mpr eq_comm
theorem pureL_strs : ∀ {fs : List Str}, pureL (fs.map D.str) = true
  | [] => rfl
  | x :: r => by simp only [List.map_cons, pureL, D.pure, Bool.true_and]; exact pureL_strs
theorem dpL_strs : ∀ {fs : List Str}, dpL (fs.map D.str) = 0
  | [] => rfl
  | x :: r => by simp only [List.map_cons, dpL, D.dp, Nat.zero_max]; exact dpL_strs
theorem isIn_strs {x : Str} {fs : List Str} {a : Addr} {M : Mem} (h : M a = some (.lst (fs.map D.str)) ∨ M a = some (.rol (fs.map D.str))) : isIn (.str x) (.ob a) M = some (0, decide (x ∈ fs)) := by
  rcases h with h | h <;> simp [isIn, h, pureL_strs, dpL_strs, D.pure, D.dp] <;> (have := any_str (x := x) (fs := fs); simp only [List.any_map, Function.comp] at this; exact this)
theorem in_strs {x : Str} {fs : List Str} {a : Addr} {M : Mem} {Q : DK} (h : M a = some (.lst (fs.map D.str))) : (opIn (.str x) (.ob a) M).run M Q = Q (.bl (decide (x ∈ fs))) M := by
  simp [opIn, isIn_strs (.inl h), Res.run, mostDeep]
theorem notIn_strs {x : Str} {fs : List Str} {a : Addr} {M : Mem} {Q : DK} (h : M a = some (.lst (fs.map D.str))) : (opNotIn (.str x) (.ob a) M).run M Q = Q (.bl (!decide (x ∈ fs))) M := by
  simp [opNotIn, isIn_strs (.inl h), Res.run, mostDeep]
theorem in_tup {d : D} {ds : List D} {M : Mem} {Q : DK} (h1 : datL ds = true) (h2 : d.dat = true) (hm : d ∈ ds) (hd : dpL ds ≤ 150) (q : Q (.bl true) M) : (opIn d (.tup ds) M).run M Q := by
  have e : (ds.any fun e => D.eqv e d) = true := List.any_eq_true.mpr ⟨d, hm, (eqv_dat h2 h2).mpr rfl⟩
  simp only [opIn, isIn, datL_pure h1, dat_pure h2, Bool.and_self, if_true, e]
  exact ⟨Nat.le_trans (Nat.min_le_left _ _) hd, q⟩
/-! all, any of made bools -/
theorem run_all {α : Type} {xs : List α} {g : α → Bool} {a : Addr} {M : Mem} {Q : DK} (h : M a = some (.lst (xs.map fun x => D.bl (g x)))) (q : Q (.bl (xs.all g)) M) : (bAll [.ob a] M).run M Q := by
  simp only [bAll, h]
  rw [show (xs.map fun x => D.bl (g x)) = (xs.map g).map D.bl by rw [List.map_map]; rfl, bools_map]
  refine ⟨trivial, ?_⟩
  have e : (xs.map g).all id = xs.all g := by rw [List.all_map]; rfl
  rw [e]
  exact q
theorem run_any {α : Type} {xs : List α} {g : α → Bool} {a : Addr} {M : Mem} {Q : DK} (h : M a = some (.lst (xs.map fun x => D.bl (g x)))) (q : Q (.bl (xs.any g)) M) : (bAny [.ob a] M).run M Q := by
  simp only [bAny, h]
  rw [show (xs.map fun x => D.bl (g x)) = (xs.map g).map D.bl by rw [List.map_map]; rfl, bools_map]
  refine ⟨trivial, ?_⟩
  have e : (xs.map g).any id = xs.any g := by rw [List.any_map]; rfl
  rw [e]
  exact q
/-- a def of the module -/
structure Src (K : PySem.W.Frag) (mg : Str → Option Value) (x : Str) (st : Stmt) (ps : List Str) : Prop where
  ex : ∃ f fd, Fun K x x st f fd ∧ mg x = some (.ref f) ∧ PySem.W.keepIn K (.ref f) = true ∧ Binds K fd ps []
theorem Src.fn {P : Program} {w : World} {K : PySem.W.Frag} {mg : Str → Option Value} {base : Heap} {x : Str} {st : Stmt} {ps : List Str} {k : Nat} {sp : DSp} (S : Src K mg x st ps) (m : MonoSp sp)
    (h : ∀ f fd, Fun K x x st f fd → FnOk P w K mg base (L2.CX P w) k f fd ps (liftSp K sp)) : Fn P w K mg base k x sp [] := by
  obtain ⟨f, fd, F, h1, h2, h3⟩ := S.ex
  exact mkFn m (h f fd F) h1 h2 h3
theorem fn_none {P : Program} {w : World} {K : PySem.W.Frag} {mg : Str → Option Value} {base : Heap} {f : Addr} {fd : FuncData} {ps : List Str} {k : Nat} {sp : DSp} (h : ∀ ds M Q E, ¬ sp ds M Q E) : FnOk P w K mg base (L2.CX P w) k f fd ps (liftSp K sp) :=
  ⟨fun vs H Q E ⟨ds, M, _, _, z⟩ => (h _ _ _ _ z).elim, fun A outer s H args us vs Q E _ _ _ _ ⟨ds, M, _, _, z⟩ => (h _ _ _ _ z).elim⟩
theorem mono_start {K : PySem.W.Frag} : MonoSp (sp_start K) := by
  rintro ds M Q Q' E E' hQ hE ⟨a, ns, h1, h2, h⟩
  exact ⟨a, ns, h1, h2, fun r b M' z1 z2 z3 z4 => hQ _ _ (h r b M' z1 z2 z3 z4)⟩
theorem mono_draw : MonoSp sp_draw := by
  rintro ds M Q Q' E E' hQ hE ⟨a, b, m, h1, h2, h3, h4, h⟩
  exact ⟨a, b, m, h1, h2, h3, h4, fun r M' z1 z2 z3 z4 => hQ _ _ (h r M' z1 z2 z3 z4)⟩
theorem mono_one_of : MonoSp sp_one_of := by
  rintro ds M Q Q' E E' hQ hE ⟨a, b, d, es, h1, h2, h3, h4, h5, h6, h⟩
  exact ⟨a, b, d, es, h1, h2, h3, h4, h5, h6, fun x M' z1 z2 z3 => hQ _ _ (h x M' z1 z2 z3)⟩
theorem mono_is_int : MonoSp sp_is_int := by
  rintro ds M Q Q' E E' hQ hE ⟨i, h1, h⟩
  exact ⟨i, h1, hQ _ _ h⟩
theorem mono_same {n : Nat} : MonoSp (sp_same n) := by
  rintro ds M Q Q' E E' hQ hE ⟨d, h1, h2, h3, h⟩
  exact ⟨d, h1, h2, h3, fun M' z => hQ _ _ (h M' z)⟩
end PL

namespace PL
open PySem PySem.Spec PyProof.Rows L2

/-! own errors without fields -/
structure ECls (K : PySem.W.Frag) (mg : Str → Option Value) (x : Str) (C : Addr) : Prop where
  g : mg x = some (.ref C)
  n : PySem.W.excIn K C [.type "ValueError", .type "Exception", .type "BaseException", .type "object"] "ValueError.__new__" = true
  k : PySem.W.keepIn K (.ref C) = true
  b : PySem.W.subIn K (.ref C) (.type "BaseException") = some true
  t : PySem.W.typeIn K (.ref C) = some (.type "type")
  e : PySem.W.exmOne K (.ref C) (.ref C) = some true
  c : ExcC K C
theorem xs_raiseC {X : Cx} {W : WX} {pos p p2 pos2 : Pos} {x m : Str} {j : Nat} {C : Addr} (E : ECls X.K X.mg x C) (hc : X.calm = true) (tk : Takes X W) (hg : Gl X x) (hdb : (x == ("__debug__" : Str)) = false := by decide) :
    XS X W (.Raise (some (.Call (.Name x p) [.Constant (.str m) j p2] [] pos2)) none pos) (dRaise (.ref C) []) :=
  xs_raise0 hc tk (pmk_own PySem.F.excBase_ValueError E.n E.g E.k (raises_own E.b E.t) hg hdb)
/-- a suite that only errors of the class C reach -/
theorem suite_by {X : Cx} {C : Value} {st : List Stmt} {ts : Addr → DS} (h : ∀ (a : Addr) (oe : Obj) (pn : List (Addr × Obj)), Zc C none oe → (∃ vs, oe.data = .fields vs) → XSs (X.suite a ((a, oe) :: pn)) W0 st (ts a)) :
    ∀ (a : Addr) (oe : Obj) (cls : Value) (pn : List (Addr × Obj)), Zc cls none oe → (∃ vs, oe.data = .fields vs) → XSs (X.suite a ((a, oe) :: pn)) W0 st (fun D env M => cls = C ∧ ts a D env M) := by
  intro a oe cls pn hz hf
  by_cases e : cls = C
  · subst e
    have q := h a oe pn hz hf
    refine ⟨fun D D' env M l z => ⟨z.1, q.mono _ _ _ _ l z.2⟩, ⟨fun pins s σ H D I z => ?_⟩⟩
    obtain ⟨env, M, re, sm, _, z⟩ := z
    exact q.ps.run pins s σ H D I ⟨env, M, re, sm, z⟩
  · refine ⟨fun D D' env M l z => (e z.1).elim, ⟨fun pins s σ H D I z => ?_⟩⟩
    obtain ⟨env, M, re, sm, z, _⟩ := z
    exact (e z).elim
theorem suite_mono {C : Value} {ts : Addr → DS} (h : ∀ a, MonoS (ts a)) : ∀ (a : Addr) (cls : Value), MonoS (fun D env M => cls = C ∧ ts a D env M) := fun a cls D D' env M l z => ⟨z.1, h a _ _ _ _ l z.2⟩
theorem xs_tryC {X : Cx} {K : PySem.W.Frag} {mg : Str → Option Value} {W : WX} {x n : Str} {C : Addr} (i : Nat) {body suite : List Stmt} {b₀ : Stmt} {np pos' pos : Pos} {tb : DS} {ts : Addr → DS} (E : ECls K mg x C) (hK : X.K = K) (hmg : X.mg = mg) (hg : Gl X x) (hs : X.stack = X.env :: X.outer) (hf : X.env.frame = some X.env.locals) (hN : X.N.Nodup) (hln : X.env.kindOf n = some .local) (tk : Takes X W)
    (hb : ∀ (W : WX) (pn : List (Addr × Obj)) (xe : Value → Shared → Prop), Takes (X.tr pn xe) W → PassesOwn (model X.prog X.w) X.A X.env xe → XSs (X.tr pn xe) W body tb)
    (h : ∀ (a : Addr) (oe : Obj) (pn : List (Addr × Obj)), Zc (.ref C) none oe → (∃ vs, oe.data = .fields vs) → XSs (X.suite a ((a, oe) :: pn)) W0 (b₀ :: suite) (ts a)) (hdb : (x == ("__debug__" : Str)) = false := by decide) (hi : X.N[i]? = some n := by rfl) :
    XS X W (.Try body [.ExceptHandler (some (.Name x np)) (some n) (b₀ :: suite) pos'] [] [] pos) (dTryAs (fun z => PySem.W.exmOne K z (.ref C)) i tb (fun a cls D env M => cls = .ref C ∧ ts a D env M)) := by
  subst hK hmg
  have mb : MonoS tb := (hb W0 [] (fun _ _ => False) takes0 PassesOwn.never).mono
  have mt : ∀ a, MonoS (ts a) := fun a => (h a { cls := .ref C, dict := none, data := .fields #[] } [] ⟨rfl, rfl⟩ ⟨_, rfl⟩).mono
  exact xs_tryAs i hs hf hN hln ⟨hg, hdb, .inl E.g⟩ tk (suite_mono mt) hb (suite_by h) mb hi
/-- isinstance of the error that the suite holds -/
def bIsE (K : PySem.W.Frag) (D a : Addr) : DCallG := fun ds M Q => ∃ (c : V) (cv : Value) (b : Bool), ds = [.ob a, .v c] ∧ (∀ u, RelV c u → u = cv) ∧ PySem.W.kitOne K (.ref D) cv = some b ∧ Q (.bl b) M
theorem bIsE_mono {K : PySem.W.Frag} {D a : Addr} : MonoC (bIsE K D a) := by
  rintro ds M Q Q' hQ ⟨c, cv, b, h1, h2, h3, h⟩
  exact ⟨c, cv, b, h1, h2, h3, hQ _ _ h⟩
theorem c_isE {X : Cx} {K : PySem.W.Frag} {a D : Addr} {oe : Obj} {pn : List (Addr × Obj)} (C : ExcC K D) (hK : X.K = K) (hz : Zc (.ref D) none oe) (hf : ∃ vs, oe.data = .fields vs) : CallR (X.suite a ((a, oe) :: pn)) (.builtin "isinstance") (upCallG X.K (bIsE K D a)) := by
  subst hK
  rintro pins s σ H xs us Q I r ⟨ds, M, rl, sm, c, cv, b, rfl, h1, h2, h⟩
  obtain ⟨u, v, rfl, q1, q2⟩ := rl2 rl
  rw [rep_v q1, rep_v q2] at r
  exact call_isE C hz hf pins s σ H _ us Q I r ⟨c, cv, b, rfl, h1, h2, fin_val h sm⟩

/-! more of texts -/
def seqS (M : Mem) (d : D) : Option (List Str) := match d with
  | .tup ds => strsOf ds
  | d => (lstAt M d).bind strsOf
def mJoin : DMeth
  | .v (.str a), [d], M => match seqS M d with
    | some ys => .val ((ys.map (·.length)).sum + ys.length * a.length ≤ 16777216) (.str (Txt.join a ys))
    | none => .bad
  | _, _, _ => .bad
def mZfill : DMeth
  | .v (.str a), [.v (.int i)], _ => .val (PadOk i = true) (.str (Txt.zfill a i))
  | _, _, _ => .bad
def mFind3 : DMeth
  | .v (.str a), [.v (.str b), .v (.int i)], _ => .val True (.int (Txt.find3 a b i))
  | _, _, _ => .bad
section
variable {X : Cx}
theorem m_join : MtR X "str.join" (upMeth X.K mJoin) := by
  rintro pins s σ H x xs v us Q I rx rxs ⟨d, ds, M, r1, rl, sm, h⟩
  unfold mJoin at h
  split at h <;> first | exact h.elim | skip
  rename_i a d'
  split at h <;> first | exact h.elim | skip
  rename_i ys hy
  obtain ⟨u, rfl, q⟩ := rl1 rl
  rw [rep_v r1] at rx
  cases d' with
  | tup es =>
    obtain ⟨p, ws, rfl, q1, l1⟩ := rep_tup q
    rw [strsOf_eq (show strsOf es = some ys from hy)] at l1
    rw [l1.strs] at q1
    exact mt_join pins s σ H _ _ v us Q I rx rxs ⟨_, p, ys, rfl, rfl, .inr q1, h.1, fin_val h.2 sm⟩
  | v x =>
    obtain ⟨es, h1, h2⟩ := Option.bind_eq_some_iff.mp (show (lstAt M (.v x)).bind strsOf = some ys from hy)
    obtain ⟨p, ws, rfl, q1, l1⟩ := lstAt_rep sm q h1
    rw [strsOf_eq h2] at l1
    rw [l1.strs] at q1
    exact mt_join pins s σ H _ _ v us Q I rx rxs ⟨_, p, ys, rfl, rfl, .inl q1, h.1, fin_val h.2 sm⟩
theorem m_zfill : MtR X "str.zfill" (upMeth X.K mZfill) := by
  rintro pins s σ H x xs v us Q I rx rxs ⟨d, ds, M, r1, rl, sm, h⟩
  unfold mZfill at h
  split at h <;> first | exact h.elim | skip
  obtain ⟨u, rfl, q⟩ := rl1 rl
  rw [rep_v r1] at rx
  rw [rep_v q] at rxs
  exact mt_zfill pins s σ H _ _ v us Q I rx rxs ⟨_, _, rfl, rfl, h.1, fin_val h.2 sm⟩
theorem m_find3 : MtR X "str.find" (upMeth X.K mFind3) := by
  rintro pins s σ H x xs v us Q I rx rxs ⟨d, ds, M, r1, rl, sm, h⟩
  unfold mFind3 at h
  split at h <;> first | exact h.elim | skip
  obtain ⟨u, w, rfl, q, q2⟩ := rl2 rl
  rw [rep_v r1] at rx
  rw [rep_v q, rep_v q2] at rxs
  exact mt_find3 pins s σ H _ _ v us Q I rx rxs ⟨_, _, _, rfl, rfl, fin_val h.2 sm⟩
end
/-! range(i, j, c) -/
def rgc (lo c : Int) (n : Nat) : List D := (List.range n).map fun i => D.int (lo + (i : Nat) * c)
theorem rep_rangeC {K : PySem.W.Frag} {H0 : Hp} {lo c : Int} {n : Nat} : ItRep K H0 (Itc lo c n) ⟨rgc lo c n, fun _ => True⟩ where
  go := fun i H M e s k hi => by
    have hi : i < n := by simpa [rgc] using hi
    exact hi
  yld := fun i H M x H' e s k hi y => by
    obtain ⟨rfl, rfl⟩ := y
    have hi : i < n := by simpa [rgc] using hi
    exact ⟨.int (lo + (i : Nat) * c), by simp [rgc, hi], rep_of, Ext.refl, s⟩
  stop := fun H M e s k => by simp [rgc, Itc]
def rng3K (R : DIt → Mem → Prop) : List D → Mem → Prop := fun ds M => ∃ i j c n, ds = [.int i, .int j, .int c] ∧ RgC i j c n ∧ R ⟨rgc i c n, fun _ => True⟩ M
def dRange3 (ta : DA) : DI := fun env M R E => ta env M (rng3K R) E
theorem s_rng3 {ta : DA} {env M R E} : dRange3 ta env M R E = ta env M (rng3K R) E := id rfl
theorem s_rng3K {R ds M} : rng3K R ds M = ∃ i j c n, ds = [.int i, .int j, .int c] ∧ RgC i j c n ∧ R ⟨rgc i c n, fun _ => True⟩ M := id rfl
section
variable {X : Cx} {W : WX} {tg a b c : Expr} {ta : DA} {pos p : Pos}
theorem xi_range3 (hg : Gl X "range") (hm : X.mg "range" = none) (ha : XA X W [a, b, c] ta) (hs : starEach [a, b, c] X.env = (false, eval a X.env) :: starEach [b, c] X.env := by rfl) (hs2 : (backTo pos (starEach [b, c] X.env)).any (·.1) = false := by rfl) :
    XI X W tg (.Call (.Name "range" p) [a, b, c] [] pos) (dRange3 ta) := by
  refine ⟨fun env M Q Q' E E' hQ hE h => ?_, PIw (pi_range3 hg hm ha.pa hs hs2) ?_⟩
  · refine ha.mono env M _ _ _ _ (fun ds M1 q => ?_) hE h
    obtain ⟨i, j, c, n, h1, h2, h3⟩ := q
    exact ⟨i, j, c, n, h1, h2, hQ _ _ h3⟩
  rintro σ H R ⟨env, M, re, s, h⟩
  refine stepA ha.mono re s h (fun ds M1 us H1 e1 s1 re1 r1 q => ?_) fun _ _ _ z => z
  obtain ⟨i, j, c, n, rfl, h2, h3⟩ := q
  obtain ⟨u, r, rfl, q1, r1⟩ := r1
  obtain ⟨v, w, rfl, q2, q3⟩ := rl2 r1
  rw [rep_v q1, rep_v q2, rep_v q3]
  exact ⟨i, j, c, n, rfl, h2, h3 _ H1 e1 s1 rep_rangeC⟩
end
end PL

namespace PL
open PySem PySem.Spec PyProof.Rows L2 SX
/-! texts as lists of signs -/
theorem cps_S (l : List Nat) : (S l).cps.toList = l := rfl
theorem len_S (l : List Nat) : (S l).length = l.length := SX.S_len l
theorem cut_to {l : List Nat} {k : Nat} : cutS (S l) none (some (k : Int)) = S (l.take k) := by
  unfold cutS
  rw [HT.sIx_none, HT.sIx_nat, len_S, cps_S]
  apply congrArg S
  rw [List.drop_zero, Nat.sub_zero, List.take_eq_take_iff]
  omega
theorem cut_from {l : List Nat} {k : Nat} : cutS (S l) (some (k : Int)) none = S (l.drop k) := by
  unfold cutS
  rw [HT.sIx_none, HT.sIx_nat, len_S, cps_S]
  apply congrArg S
  by_cases h : k ≤ l.length
  · rw [Nat.min_eq_left h, List.take_of_length_le (by rw [List.length_drop]; omega)]
  · rw [Nat.min_eq_right (by omega), List.drop_eq_nil_of_le (Nat.le_refl _), List.drop_eq_nil_of_le (by omega), List.take_nil]
theorem cut_mid {l : List Nat} {i j : Nat} : cutS (S l) (some (i : Int)) (some (j : Int)) = S ((l.drop i).take (j - i)) := by
  unfold cutS
  rw [HT.sIx_nat, HT.sIx_nat, len_S, cps_S]
  apply congrArg S
  by_cases h : i ≤ l.length
  · rw [Nat.min_eq_left h, List.take_eq_take_iff, List.length_drop]
    omega
  · rw [Nat.min_eq_right (show l.length ≤ i by omega), List.drop_eq_nil_of_le (Nat.le_refl _), List.drop_eq_nil_of_le (show l.length ≤ i by omega), List.take_nil, List.take_nil]
theorem in_sign {c : Nat} {z : Str} {M : Mem} {Q : DK} : (opIn (.str (S [c])) (.str z) M).run M Q = Q (.bl (decide (c ∈ z.cps.toList))) M := by
  show ((match (if (1 : Nat) = 1 then some (0, decide (c ∈ z.cps.toList)) else none : Option (Nat × Bool)) with | some (n, b) => Res.val (n ≤ mostDeep) (D.bl b) | none => Res.bad).run M Q) = _
  rw [if_pos rfl]
  simp [Res.run]
theorem notIn_sign {c : Nat} {z : Str} {M : Mem} {Q : DK} : (opNotIn (.str (S [c])) (.str z) M).run M Q = Q (.bl (!decide (c ∈ z.cps.toList))) M := by
  show ((match (if (1 : Nat) = 1 then some (0, decide (c ∈ z.cps.toList)) else none : Option (Nat × Bool)) with | some (n, b) => Res.val (n ≤ mostDeep) (D.bl !b) | none => Res.bad).run M Q) = _
  rw [if_pos rfl]
  simp [Res.run]
theorem zfill_S {l : List Nat} {n : Nat} (h1 : l.length ≤ n) (h2 : ∀ c ∈ l.head?, c ≠ 43 ∧ c ≠ 45) : Txt.zfill (S l) (n : Int) = S (List.replicate (n - l.length) 48 ++ l) := by
  unfold Txt.zfill
  rw [len_S]
  by_cases h : (n : Int) ≤ l.length
  · rw [if_pos h, show n - l.length = 0 by omega]
    rfl
  · rw [if_neg h]
    have e : zfilled (S l) ((n : Int).toNat - l.length) = Builtin.Str.padded (S l) ((n : Int).toNat - l.length) 0 48 := by
      unfold zfilled
      have : (S l).cps[0]? = l.head? := by cases l <;> rfl
      rw [this]
      split
      · rename_i z; exact absurd rfl (h2 43 (by rw [z]; rfl)).1
      · rename_i z; exact absurd rfl (h2 45 (by rw [z]; rfl)).2
      · rfl
    rw [e]
    apply TL.ext_tl
    simp [Builtin.Str.padded, TL.tl]
theorem at_one {l : List Nat} {c i : Nat} : StrLaws.At (S l) (S [c]) (S l).length i ↔ l[i]? = some c := StrLaws.subAt_one (S l) c i
/-- find of one sign -/
theorem find_one {l : List Nat} {c k : Nat} (hk : k ≤ l.length) : Txt.find3 (S l) (S [c]) (k : Int) = if c ∈ l.drop k then ((k + ((l.drop k).takeWhile fun x => decide (x ≠ c)).length : Nat) : Int) else -1 := by
  have ek : fromIndex (S l).length (k : Int) = k := by
    unfold fromIndex
    rw [if_neg (by omega)]
    omega
  unfold Txt.find3
  rw [ek]
  rcases StrLaws.occ_head_from (S l) (S [c]) k 1 (Nat.le_refl 1) with ⟨e, h⟩ | ⟨i, r, e, h1, h2, h3⟩
  · rw [e, if_neg]
    intro hm
    obtain ⟨j, hj, q⟩ := List.getElem_of_mem hm
    refine h (k + j) (by omega) (at_one.mpr ?_)
    rw [← q, List.getElem_drop]
    exact List.getElem?_eq_getElem _
  · rw [e]
    have q := at_one.mp h2
    obtain ⟨hi, q⟩ := List.getElem?_eq_some_iff.mp q
    have hd : (l.drop k)[i - k]? = some c := by
      rw [List.getElem?_drop, show k + (i - k) = i by omega, List.getElem?_eq_getElem hi, q]
    have hm : c ∈ l.drop k := List.mem_of_getElem? hd
    rw [if_pos hm]
    have el : ((l.drop k).takeWhile fun x => decide (x ≠ c)).length = i - k := by
      have h4 : ∀ j, j < i - k → (l.drop k)[j]? ≠ some c := fun j hj z => h3 (k + j) (by omega) (by omega) (at_one.mpr (by rw [List.getElem?_drop] at z; exact z))
      generalize l.drop k = m at hd h4
      generalize i - k = n at hd h4
      clear e h1 h2 h3 q hi hm hk ek r
      induction n generalizing m with
      | zero =>
        cases m with
        | nil => rfl
        | cons a r =>
          have : a = c := by simpa using hd
          simp [List.takeWhile, this]
      | succ n ih =>
        cases m with
        | nil => cases hd
        | cons a r =>
          have ha : a ≠ c := fun z => h4 0 (by omega) (by rw [z]; rfl)
          have := ih r (by simpa using hd) (fun j hj => by have := h4 (j + 1) (by omega); simpa using this)
          simp only [List.takeWhile, decide_eq_true ha, List.length_cons, this]
    rw [el]
    show (i : Int) = _
    omega
end PL

namespace PL
open PySem PySem.Spec PyProof.Rows L2

/-! dicts: plain facts -/
def dropD {κ : Type} [DecidableEq κ] (kvs : List (κ × D)) (k : κ) : List (κ × D) := kvs.filter fun kv => decide (kv.1 ≠ k)
def mergeD {κ : Type} [DecidableEq κ] (kvs more : List (κ × D)) : List (κ × D) := more.foldl (fun acc kv => putD acc kv.1 kv.2) kvs
theorem RepKV.drop {κ : Type} [DecidableEq κ] {K : PySem.W.Frag} {H : Hp} {k : κ} : ∀ {kvs : List (κ × D)} {us : List (κ × V)}, RepKV K H kvs us → RepKV K H (dropD kvs k) (dropK us k)
  | [], _, h => by unfold RepKV at h; subst h; exact rfl
  | (k', d) :: r, _, h => by
    obtain ⟨u, t, rfl, q, z⟩ := h
    have ih := RepKV.drop (k := k) z
    unfold dropD dropK at ih ⊢
    by_cases e : k' = k
    · rw [List.filter_cons_of_neg (by simp [e]), List.filter_cons_of_neg (by simp [e])]
      exact ih
    · rw [List.filter_cons_of_pos (by simp [e]), List.filter_cons_of_pos (by simp [e])]
      exact ⟨u, _, rfl, q, ih⟩
theorem RepKV.merge {K : PySem.W.Frag} {H : Hp} : ∀ {more : List (Key × D)} {ms : List (Key × V)}, RepKV K H more ms → ∀ {kvs : List (Key × D)} {us : List (Key × V)}, RepKV K H kvs us → RepKV K H (mergeD kvs more) (mergeK us ms)
  | [], _, h, _, _, g => by unfold RepKV at h; subst h; exact g
  | (k, d) :: r, _, h, _, _, g => by
    obtain ⟨u, t, rfl, q, z⟩ := h
    exact RepKV.merge z (RepKV.put q g)
theorem RepKV.keys {κ : Type} {K : PySem.W.Frag} {H : Hp} : ∀ {kvs : List (κ × D)} {us : List (κ × V)}, RepKV K H kvs us → us.map (·.1) = kvs.map (·.1)
  | [], _, h => by unfold RepKV at h; subst h; rfl
  | (k, d) :: r, _, h => by
    obtain ⟨u, t, rfl, q, z⟩ := h
    simp only [List.map_cons, RepKV.keys z]
theorem RepKV.getD {K : PySem.W.Frag} {H : Hp} {kvs : List (Key × D)} {us : List (Key × V)} (h : RepKV K H kvs us) (k : Key) {d : D} {u : V} (q : RepD K H d u) : RepD K H ((PL.look kvs k).getD d) ((valV us k).getD u) := by
  have l := h.look k
  cases e : PL.look kvs k with
  | none => cases f : valV us k with
    | none => exact q
    | some _ => rw [e, f] at l; exact l.elim
  | some _ => cases f : valV us k with
    | none => rw [e, f] at l; exact l.elim
    | some _ => rw [e, f] at l; exact l
/-! get, pop -/
def dgetR (M : Mem) (a : Addr) (y z : D) : Res := match M a with
  | some (.dk kvs) => match y.key with
    | some k => .val True ((look kvs k).getD z)
    | none => .bad
  | _ => .bad
def mGet : DMeth
  | .v (.ref a), [y], M => dgetR M a y .non
  | .v (.ref a), [y, z], M => dgetR M a y z
  | _, _, _ => .bad
def mDPop : DMeth
  | .v (.ref a), [y], M => match M a with
    | some (.dk kvs) => match y.key with
      | some k => match look kvs k with
        | some d => .put True a (.dk (dropD kvs k)) d
        | none => .bad
      | none => .bad
    | _ => .bad
  | _, _, _ => .bad
section
variable {X : Cx}
theorem m_get (hu : X.A.units + 200 < cLine) : MtR X "dict.get" (upMeth X.K mGet) := by
  rintro pins s σ H x xs v us Q I rx rxs ⟨d, ds, M, r1, rl, sm, h⟩
  unfold mGet at h
  split at h <;> first | exact h.elim | skip
  all_goals
    unfold dgetR at h
    split at h <;> first | exact h.elim | skip
    split at h <;> first | exact h.elim | skip
  · rename_i kvs hm _ k hk
    obtain ⟨u, rfl, q⟩ := rl1 rl
    rw [rep_v r1] at rx
    obtain rfl : v = Value.ref _ := rx
    obtain ⟨ws, e1, l1⟩ := sm _ _ hm
    have e := key_rep hk q
    subst e
    obtain ⟨w, rfl, rw'⟩ := vals1 rxs
    exact d_get1 (by omega) I (DGet.k e1) rw' fun w' s' I' r' => ⟨_, H, I', r', fin_rep h.2 sm (l1.getD k rep_of)⟩
  · rename_i kvs hm _ k hk
    obtain ⟨u, z, rfl, q, q2⟩ := rl2 rl
    rw [rep_v r1] at rx
    obtain rfl : v = Value.ref _ := rx
    obtain ⟨ws, e1, l1⟩ := sm _ _ hm
    have e := key_rep hk q
    subst e
    obtain ⟨w, w2, rfl, rw', rw2⟩ := vals2 rxs
    exact d_get2 (by omega) I (DGet.k e1) rw' rw2 fun w' s' I' r' => ⟨_, H, I', r', fin_rep h.2 sm (l1.getD k q2)⟩
theorem m_dpop : MtR X "dict.pop" (upMeth X.K mDPop) := by
  rintro pins s σ H x xs v us Q I rx rxs ⟨d, ds, M, r1, rl, sm, h⟩
  unfold mDPop at h
  split at h <;> first | exact h.elim | skip
  split at h <;> first | exact h.elim | skip
  split at h <;> first | exact h.elim | skip
  split at h <;> first | exact h.elim | skip
  rename_i kvs hm _ k hk _ d hd
  obtain ⟨u, rfl, q⟩ := rl1 rl
  rw [rep_v r1] at rx
  obtain rfl : v = Value.ref _ := rx
  obtain ⟨ws, e1, l1⟩ := sm _ _ hm
  have e := key_rep hk q
  subst e
  obtain ⟨w, rfl, rw'⟩ := vals1 rxs
  have l := l1.look k
  rw [hd] at l
  cases hv : valV ws k with
  | none => rw [hv] at l; exact l.elim
  | some x =>
    rw [hv] at l
    have ex : Ext X.K H (upd H _ (.dK (dropK ws k))) := Ext.mut e1 True.intro
    exact d_pop I e1 rw' hv (.inl rfl) fun w' s' I' r' => ⟨x, _, I', r', fin_put h.2 sm e1 True.intro ⟨_, upd_same, RepKV.mono ex l1.drop⟩ l⟩
end
/-! dict(d), dict(pairs) -/
def pairKV : D → Option (Key × D)
  | .tup [x, y] => match x.key with
    | some k => some (k, y)
    | none => none
  | _ => none
def pairsKV : List D → Option (List (Key × D))
  | [] => some []
  | d :: r => match pairKV d, pairsKV r with
    | some p, some ps => some (p :: ps)
    | _, _ => none
def bDict : DCall
  | [.tup ds], _ => match pairsKV ds with
    | some kvs => .new (ds.length ≤ sizeLine) (.dk (mergeD [] kvs))
    | none => .bad
  | [.v (.ref a)], M => match M a with
    | some (.dk kvs) => .new True (.dk kvs)
    | _ => .bad
  | _, _ => .bad
theorem key_kV {d : D} {k : Key} (h : d.key = some k) {K : PySem.W.Frag} {H : Hp} : RepD K H d (kV k) := by
  unfold D.key at h
  split at h <;> cases h <;> exact rep_of
theorem pairs_rep {K : PySem.W.Frag} {H : Hp} : ∀ {ds : List D} {kvs : List (Key × D)} {us : List V}, pairsKV ds = some kvs → RepL K H ds us → ∃ (ps : List Addr) (ws : List (Key × V)), us = ps.map V.ref ∧ Paired (fun p kv => SqT K H p [kV kv.1, kv.2]) ps ws ∧ RepKV K H kvs ws
  | [], kvs, us, h, r => by
    unfold RepL at r
    simp only [pairsKV, Option.some.injEq] at h
    subst h r
    exact ⟨[], [], rfl, .nil, rfl⟩
  | d :: ds, kvs, us, h, r => by
    unfold RepL at r
    obtain ⟨u, t, rfl, q, z⟩ := r
    unfold pairsKV at h
    split at h
    · rename_i p ps h1 h2
      cases h
      obtain ⟨qs, ws, rfl, g1, g2⟩ := pairs_rep h2 z
      unfold pairKV at h1
      split at h1
      · split at h1
        · rename_i x y _ k hk
          cases h1
          obtain ⟨a, vs, rfl, q1, l⟩ := rep_tup q
          obtain ⟨v1, v2, rfl, r1, r2⟩ := rl2 l
          have e := key_rep hk r1
          subst e
          exact ⟨a :: qs, (k, v2) :: ws, rfl, .cons q1 g1, ⟨v2, ws, rfl, r2, g2⟩⟩
        · cases h1
      · cases h1
    · cases h
section
variable {X : Cx}
theorem pairs_at {pins : List (Addr × Obj)} {σ : L2.St} {H : Hp} {s : Shared} (I : Inv X pins σ H s) : ∀ {ps : List Addr} {kvs : List (Key × V)}, Paired (fun p kv => SqT X.K H p [kV kv.1, kv.2]) ps kvs →
    ∃ (prs : List (Key × Value)) (vv : List (Value × Value)), KV kvs prs ∧ prs.length = ps.length ∧ vv.length = ps.length ∧ (∀ (j : Nat) (k v : Value), vv[j]? = some (k, v) → PairAt s.heap (ps.getD j 0) k v ∧ ∃ q, prs[j]? = some q ∧ q.2 = v ∧ (mixKind X.prog X.w).is q.1 k = true)
  | _, _, .nil => ⟨[], [], .nil, rfl, rfl, fun j k v e => by simp at e⟩
  | _, _, .cons (a := p) (b := kv) h t => by
    obtain ⟨prs, vv, r, hl, hl2, hp⟩ := pairs_at I t
    obtain ⟨its, rv, ht, _⟩ := I.tuple h
    obtain ⟨u, y, ei, ru, ry⟩ := vals2 rv
    subst ei
    refine ⟨(kv.1, y) :: prs, (u, y) :: vv, .cons ⟨rfl, ry⟩ r, by rw [List.length_cons, List.length_cons, hl], by rw [List.length_cons, List.length_cons, hl2], fun j k v e => ?_⟩
    cases j with
    | zero =>
      have e' : (u, y) = (k, v) := Option.some.inj e
      cases e'
      exact ⟨.inl ht, (kv.1, y), rfl, rfl, kV_is ru⟩
    | succ j =>
      obtain ⟨g1, g2⟩ := hp j k v (by simpa using e)
      exact ⟨by simpa using g1, by simpa using g2⟩
/-- dict(xs) of a tuple of pairs that has no attributes -/
theorem call_dictPT (hcalm : X.calm = true) : CallR X (.type "dict") (fun xs H Q => ∃ (a : Addr) (o : Obj) (ps : List Addr) (kvs : List (Key × V)), xs = [.ref a] ∧ H a = some (.frz o (.tup (ps.map V.ref))) ∧ o.dict = none ∧ Paired (fun p kv => SqT X.K H p [kV kv.1, kv.2]) ps kvs ∧
    ∀ p, H p = none → Q (.ref p) (upd H p (.dK (mergeK [] kvs)))) := by
  intro pins s σ H xs us Q I r q
  obtain ⟨a, o, ps, kvs, ex, hq, hd, hp, q⟩ := q
  subst ex
  obtain ⟨u, eu, rx⟩ := vals1 r
  subst eu
  cases rx
  obtain ⟨ho, hz, its, rv, o', ho', hc, n, hdat⟩ := I.hok _ _ hq
  rw [ho] at ho'
  cases ho'
  have ei := refs_at rv
  subst ei
  rw [List.length_map] at hz
  obtain ⟨prs, vv, rel, hl, hl2, hpr⟩ := pairs_at I hp
  refine PySem.call_dict_pairs (knd := mixKind X.prog X.w) (kvs := prs) (PairArg.tuple a (ps.map Value.ref).toArray (fun j => ps.getD j 0) vv) (I.ok.hd hcalm) ⟨⟨o, n, ho, hc, hd, hdat⟩, by simp [hl2], fun j k v e => ⟨?_, (hpr j k v e).1⟩⟩ ⟨by rw [hl, hl2], fun i key v e => ?_⟩ (by rw [hl2]; exact hz) fun h' tk hd' k => ?_
  · have hj : j < ps.length := by rw [← hl2]; exact (List.getElem?_eq_some_iff.mp e).1
    simp [List.getElem?_eq_getElem hj]
  · obtain ⟨q', g1, g2, g3⟩ := (hpr i key v e).2
    exact ⟨q'.1, by rw [g1, ← g2], g3⟩
  · have hm : (s.heap.objs.size == sysModules) = false := beq_eq_false_iff_ne.mpr (Nat.ne_of_gt I.big)
    have hlen : (mergeK [] kvs).length ≤ sizeLine := by
      refine Nat.le_trans (length_mergeK kvs []) ?_
      rw [List.length_nil, Nat.zero_add, rel.length, hl]
      exact hz
    exact ⟨.ref s.heap.objs.size, upd H s.heap.objs.size (.dK (mergeK [] kvs)), I.laid (t' := tk) (fun b o e => k b o (by simp) e) (Nat.le_refl _) (show ObjOk X.prog X.w _ _ _ (.dK (mergeK [] kvs)) from ⟨hlen, hm, merged [] prs, KV.merge rel .nil, hd'⟩), rfl, q _ (I.hok.fresh (Nat.le_refl _))⟩
/-- tuple(xs), xs a list: the new tuple has no attributes -/
theorem call_tupleC : CallR X (.type "tuple") (fun xs H Q => ∃ p ys, xs = [.ref p] ∧ SqL X.K H p ys ∧ ∀ l o, o.dict = none → H l = none → Q (.ref l) (upd H l (.frz o (.tup ys)))) := by
  intro pins s σ H xs us Q I r h
  obtain ⟨p, ys, rfl, hq, q⟩ := h
  obtain ⟨u, rfl, rx⟩ := vals1 r
  cases rx
  obtain ⟨its, r', pl, hz⟩ := I.list hq
  have hlen := r'.length
  refine call_tuple_list pl.isList (fun h' kp => ?_) (by simp only [List.size_toArray] <;> omega)
  have I1 : Inv X pins σ H { s with heap := h' } := I.kept (t' := s.toks) kp
  have I2 : Inv X pins σ (upd H h'.objs.size (.frz { cls := .type "tuple", data := .seq its.toArray } (.tup ys))) { s with heap := h'.push { cls := .type "tuple", data := .seq its.toArray } } :=
    I1.laid (t' := s.toks) (fun b o e => Heap.get?_push_of_some _ e) (Nat.le_refl _) ⟨Heap.get?_push_size _ rfl, hz, its, r', IsTup.new _ _⟩
  exact ⟨.ref h'.objs.size, _, I2, rfl, q _ { cls := .type "tuple", data := .seq its.toArray } rfl (I1.hok.fresh (Nat.le_refl _))⟩
end
/-- tuple(list), told as a thing -/
def bTupC : DCall
  | [.v (.ref a)], M => match M a with
    | some (.lst ds) => .new True (.ctp ds)
    | some (.rol ds) => .new True (.ctp ds)
    | _ => .bad
  | _, _ => .bad
def bDictC : DCall
  | [.v (.ref a)], M => match M a with
    | some (.dk kvs) => .new True (.dk kvs)
    | some (.rdk kvs) => .new True (.dk kvs)
    | some (.ctp ds) => match pairsKV ds with
      | some kvs => .new True (.dk (mergeD [] kvs))
      | none => .bad
    | some (.lst ds) => match pairsKV ds with
      | some kvs => .new True (.dk (mergeD [] kvs))
      | none => .bad
    | _ => .bad
  | _, _ => .bad
section
variable {X : Cx}
theorem repO_ctp {K : PySem.W.Frag} {H : Hp} {p : Addr} {o : Obj} {ds : List D} {us : List V} (ex : Ext K H (upd H p (.frz o (.tup us)))) (n : o.dict = none) (l : RepL K H ds us) : RepO K (upd H p (.frz o (.tup us))) p (.ctp ds) := ⟨o, us, upd_same, n, RepL.mono ex _ l⟩
theorem c_tupC : CallR X (.type "tuple") (upCall X.K bTupC) := by
  rintro pins s σ H xs us Q I r ⟨ds, M, rl, sm, h⟩
  unfold bTupC at h
  split at h <;> first | exact h.elim | skip
  obtain ⟨u, rfl, q⟩ := rl1 rl
  rw [rep_v q] at r
  split at h <;> first | exact h.elim | skip
  · rename_i hm
    obtain ⟨ws, q1, l1⟩ := sm.seq (.inl hm)
    exact call_tupleC pins s σ H _ us Q I r ⟨_, _, rfl, q1, fun l o n hl => fin_new h.2 sm hl (repO_ctp (Ext.new hl) n l1)⟩
  · rename_i hm
    obtain ⟨ws, q1, l1⟩ := sm.seq (.inr hm)
    exact call_tupleC pins s σ H _ us Q I r ⟨_, _, rfl, q1, fun l o n hl => fin_new h.2 sm hl (repO_ctp (Ext.new hl) n l1)⟩
theorem repO_dk {K : PySem.W.Frag} {H : Hp} {p : Addr} {kvs : List (Key × D)} {us : List (Key × V)} (ex : Ext K H (upd H p (.dK us))) (l : RepKV K H kvs us) : RepO K (upd H p (.dK us)) p (.dk kvs) := ⟨us, upd_same, RepKV.mono ex l⟩
theorem c_dictC (hcalm : X.calm = true) : CallR X (.type "dict") (upCall X.K bDictC) := by
  rintro pins s σ H xs us Q I r ⟨ds, M, rl, sm, h⟩
  unfold bDictC at h
  split at h <;> first | exact h.elim | skip
  obtain ⟨u, rfl, q⟩ := rl1 rl
  rw [rep_v q] at r
  split at h <;> first | exact h.elim | skip
  · rename_i hm
    obtain ⟨ws, q1, l1⟩ := sm _ _ hm
    exact call_dictD pins s σ H _ us Q I r ⟨_, _, rfl, .inl q1, fun l hl => fin_new h.2 sm hl (repO_dk (Ext.new hl) l1)⟩
  · rename_i hm
    obtain ⟨o, ws, q1, l1⟩ := sm _ _ hm
    exact call_dictD pins s σ H _ us Q I r ⟨_, _, rfl, .inr ⟨o, q1⟩, fun l hl => fin_new h.2 sm hl (repO_dk (Ext.new hl) l1)⟩
  · split at h <;> first | exact h.elim | skip
    rename_i hm _ kvs hk
    obtain ⟨o, ws, q1, n, l1⟩ := sm _ _ hm
    obtain ⟨ps, vs, rfl, g1, g2⟩ := pairs_rep hk l1
    exact call_dictPT hcalm pins s σ H _ us Q I r ⟨_, o, _, _, rfl, q1, n, g1, fun l hl => fin_new h.2 sm hl (repO_dk (Ext.new hl) (RepKV.merge g2 rfl))⟩
  · split at h <;> first | exact h.elim | skip
    rename_i hm _ kvs hk
    obtain ⟨ws, q1, l1⟩ := sm.seq (.inl hm)
    obtain ⟨ps, vs, rfl, g1, g2⟩ := pairs_rep hk l1
    exact call_dictP hcalm pins s σ H _ us Q I r ⟨_, _, _, rfl, q1, g1, fun l hl => fin_new h.2 sm hl (repO_dk (Ext.new hl) (RepKV.merge g2 rfl))⟩
end
/-! == of two dicts, one of them empty -/
def eqDR (M : Mem) (x y : D) (f : Bool → Bool) : Res := match x, y with
  | .v (.ref a), .v (.ref b) => match M a, M b with
    | some (.dk ks), some (.dk ls) => .val (ks = [] ∨ ks.length ≠ ls.length) (.bl (f (decide (ks.length = ls.length))))
    | _, _ => .bad
  | _, _ => .bad
def opEqD : DOp2 := fun x y M => eqDR M x y id
def opNeD : DOp2 := fun x y M => eqDR M x y (!·)
section
variable {X : Cx}
theorem bl_eqD : ∀ x y M Q, (opEqD x y M).run M Q → (opEqD x y M).run M fun d M' => (∃ k, d = .bl k) ∧ Q d M' := fun x y M Q h => by
  unfold opEqD eqDR at h ⊢
  split at h <;> first | exact h.elim | skip
  split at h <;> first | exact h.elim | skip
  exact ⟨h.1, ⟨_, rfl⟩, h.2⟩
theorem bl_neD : ∀ x y M Q, (opNeD x y M).run M Q → (opNeD x y M).run M fun d M' => (∃ k, d = .bl k) ∧ Q d M' := fun x y M Q h => by
  unfold opNeD eqDR at h ⊢
  split at h <;> first | exact h.elim | skip
  split at h <;> first | exact h.elim | skip
  exact ⟨h.1, ⟨_, rfl⟩, h.2⟩
theorem x_eqD (hu : X.A.units + 200 < cLine) : XOp X (compareOp .Eq) opEqD := by
  rintro pins s σ H x y v u Q I rx ry ⟨dx, dy, M, r1, r2, sm, h⟩
  unfold opEqD eqDR at h
  split at h <;> first | exact h.elim | skip
  split at h <;> first | exact h.elim | skip
  rename_i a b _ _ ks ls hm1 hm2
  rw [rep_v r1] at rx
  rw [rep_v r2] at ry
  obtain rfl : v = Value.ref _ := rx
  obtain rfl : u = Value.ref _ := ry
  obtain ⟨us, ea, la⟩ := sm _ _ hm1
  obtain ⟨ws, eb, lb⟩ := sm _ _ hm2
  obtain ⟨_, ya, va, ra, da⟩ := (show ObjOk X.prog X.w H s.heap _ (.dK us) from I.hok _ _ ea)
  obtain ⟨_, yb, vb, rb, db⟩ := (show ObjOk X.prog X.w H s.heap _ (.dK ws) from I.hok _ _ eb)
  have l1 : va.length = ks.length := by rw [← ra.length]; exact la.length
  have l2 : vb.length = ls.length := by rw [← rb.length]; exact lb.length
  refine PySem.W.keq_eq (knd := mixKind X.prog X.w) (r := true) ya yb da db (by omega) (fun e => ?_) ?_
  · rcases h.1 with z | z
    · have : us = [] := List.eq_nil_of_length_eq_zero (by rw [la.length, z]; rfl)
      subst this
      exact hits_all rb ra fun p hp => by cases hp
    · exact absurd (by rw [← l1, ← l2]; exact e) z
  · exact ⟨.bl (decide (ks.length = ls.length)), H, I, by rw [l1, l2, Bool.and_true]; rfl, fin_val h.2 sm⟩
theorem x_neD (hu : X.A.units + 200 < cLine) : XOp X (compareOp .NotEq) opNeD := by
  rintro pins s σ H x y v u Q I rx ry ⟨dx, dy, M, r1, r2, sm, h⟩
  unfold opNeD eqDR at h
  split at h <;> first | exact h.elim | skip
  split at h <;> first | exact h.elim | skip
  rename_i a b _ _ ks ls hm1 hm2
  rw [rep_v r1] at rx
  rw [rep_v r2] at ry
  obtain rfl : v = Value.ref _ := rx
  obtain rfl : u = Value.ref _ := ry
  obtain ⟨us, ea, la⟩ := sm _ _ hm1
  obtain ⟨ws, eb, lb⟩ := sm _ _ hm2
  obtain ⟨_, ya, va, ra, da⟩ := (show ObjOk X.prog X.w H s.heap _ (.dK us) from I.hok _ _ ea)
  obtain ⟨_, yb, vb, rb, db⟩ := (show ObjOk X.prog X.w H s.heap _ (.dK ws) from I.hok _ _ eb)
  have l1 : va.length = ks.length := by rw [← ra.length]; exact la.length
  have l2 : vb.length = ls.length := by rw [← rb.length]; exact lb.length
  refine PySem.W.keq_ne (knd := mixKind X.prog X.w) (r := true) ya yb da db (by omega) (fun e => ?_) ?_
  · rcases h.1 with z | z
    · have : us = [] := List.eq_nil_of_length_eq_zero (by rw [la.length, z]; rfl)
      subst this
      exact hits_all rb ra fun p hp => by cases hp
    · exact absurd (by rw [← l1, ← l2]; exact e) z
  · exact ⟨.bl (!decide (ks.length = ls.length)), H, I, by rw [l1, l2, Bool.and_true]; rfl, fin_val h.2 sm⟩
end
/-! sorted of a dict's keys -/
def sKeys (kvs : List (Key × D)) (ss : List Str) : Prop := kvs.map (·.1) = ss.map Sum.inr
def iKeysD (kvs : List (Key × D)) (ss : List Int) : Prop := kvs.map (·.1) = ss.map Sum.inl
def dkAt (M : Mem) (a : Addr) (kvs : List (Key × D)) : Prop := M a = some (.dk kvs) ∨ M a = some (.rdk kvs)
theorem dkAt.rep {K : PySem.W.Frag} {H : Hp} {M : Mem} {a : Addr} {kvs : List (Key × D)} (h : dkAt M a kvs) (s : Sim K H M) : ∃ us, Rd H a (.dK us) ∧ RepKV K H kvs us := by
  rcases h with h | h
  · obtain ⟨us, q, l⟩ := s _ _ h; exact ⟨us, .inl q, l⟩
  · obtain ⟨o, us, q, l⟩ := s _ _ h; exact ⟨us, .inr ⟨o, q⟩, l⟩
def bSortD : DCallG := fun ds M Q => ∃ a kvs, ds = [.ob a] ∧ dkAt M a kvs ∧ ((∃ ss, sKeys kvs ss ∧ ss.length < 64 ∧ ∀ ys p, sortedS ys = true → ys.Perm ss → M p = none → Q (.ob p) (mupd M p (.lst (ys.map D.str)))) ∨
  ∃ ss, iKeysD kvs ss ∧ ss.length < 64 ∧ ∀ (ys : List Int) p, ys.Perm ss → ys.Pairwise (· ≤ ·) → M p = none → Q (.ob p) (mupd M p (.lst (ys.map D.int))))
theorem bSortD_mono : MonoC bSortD := by
  rintro ds M Q Q' hQ ⟨a, kvs, h1, h2, (⟨ss, h3, h4, h⟩ | ⟨ss, h3, h4, h⟩)⟩
  · exact ⟨a, kvs, h1, h2, .inl ⟨ss, h3, h4, fun ys p a b c => hQ _ _ (h ys p a b c)⟩⟩
  · exact ⟨a, kvs, h1, h2, .inr ⟨ss, h3, h4, fun ys p a b c => hQ _ _ (h ys p a b c)⟩⟩
section
variable {X : Cx}
theorem c_sortD (hcalm : X.calm = true) : CallR X (.builtin "sorted") (upCallG X.K bSortD) := by
  rintro pins s σ H xs us Q I r ⟨ds, M, rl, sm, a, kvs, rfl, hd, h⟩
  obtain ⟨u, rfl, q⟩ := rl1 rl
  rw [rep_v q] at r
  obtain ⟨ws, e1, l1⟩ := hd.rep sm
  rcases h with ⟨ss, h3, h4, h⟩ | ⟨ss, h3, h4, h⟩
  · exact call_sortedD hcalm pins s σ H _ us Q I r ⟨a, ws, ss, rfl, e1, by rw [l1.keys]; exact h3, h4, fun ys p z1 z2 hp => fin_lst (fun p hp => h ys p z2 z1 hp) sm hp .of_strs⟩
  · exact call_sortedDI hcalm pins s σ H _ us Q I r ⟨a, ws, ss, rfl, e1, by rw [l1.keys]; exact h3, h4, fun ys p z1 z2 hp => fin_lst (fun p hp => h ys p z1 z2 hp) sm hp .of_ints⟩
end
/-! a dict is walked by its keys, while it is locked -/
def keyD : Key → D
  | .inl i => .int i
  | .inr x => .str x
theorem keyD_key (k : Key) : (keyD k).key = some k := by cases k <;> rfl
theorem keyD_rep {K : PySem.W.Frag} {H : Hp} (k : Key) : RepD K H (keyD k) (kV k) := key_kV (keyD_key k)
theorem rep_keys {K : PySem.W.Frag} {H0 : Hp} {a : Addr} {o : Obj} {kvs : List (Key × D)} {us : List (Key × V)} (h0 : H0 a = some (.frz o (.dK us))) (l0 : RepKV K H0 kvs us) : ItRep K H0 (Itk a o us) ⟨kvs.map fun kv => keyD kv.1, fun _ => True⟩ where
  go := fun i H M e s _ hi => ⟨e.fz _ _ _ h0, by rw [l0.length]; simpa using hi⟩
  yld := fun i H M x H' e s _ hi y => by
    obtain ⟨rfl, k, v, hk, rfl⟩ := y
    refine ⟨keyD k, ?_, keyD_rep k, Ext.refl, s⟩
    have := congrArg (fun l => l[i]?) l0.keys
    simp only [List.getElem?_map, hk, Option.map_some] at this
    rw [List.getElem?_map]
    cases e2 : kvs[i]? with
    | none => rw [e2] at this; cases this
    | some p => rw [e2] at this; simp only [Option.map_some, Option.some.injEq] at this ⊢; rw [← this]
  stop := fun H M e s _ => ⟨e.fz _ _ _ h0, by rw [l0.length]; simp⟩
def keysR (R : DIt → Mem → Prop) : DK := fun d M => ∃ a kvs, d = .ob a ∧ M a = some (.rdk kvs) ∧ R ⟨kvs.map fun kv => keyD kv.1, fun _ => True⟩ M
def dKeys (te : DE) : DI := fun env M R E => te env M (keysR R) E
theorem s_keys {te env M R E} : dKeys te env M R E = te env M (keysR R) E := id rfl
section
variable {X : Cx} {W : WX} {tg e : Expr} {te : DE}
theorem xi_keys (he : XE X W e te) : XI X W tg e (dKeys te) := by
  refine ⟨fun env M Q Q' E E' hQ hE => he.mono env M _ _ _ _ (fun d M1 ⟨a, kvs, h1, h2, h⟩ => ⟨a, kvs, h1, h2, hQ _ _ h⟩) hE, PIw (pi_keys he.pe) ?_⟩
  rintro σ H R ⟨env, M, re, sm, h⟩
  refine stepE he.mono re sm h (fun d M1 u H1 e1 s1 re1 r1 q => ?_) fun _ _ _ z => z
  obtain ⟨a, kvs, rfl, hm, q⟩ := q
  obtain ⟨o, us, q1, l1⟩ := s1 _ _ hm
  exact ⟨a, o, rep_v r1, .inl ⟨us, q1, q _ H1 e1 s1 (rep_keys q1 l1)⟩⟩
abbrev SqTo (K : PySem.W.Frag) (H H' : Hp) : Prop := ∀ a xs, SqT K H a xs → SqT K H' a xs
mutual
theorem RepD.monoS {K : PySem.W.Frag} {H H' : Hp} (e : SqTo K H H') : ∀ (d : D) {u : V}, RepD K H d u → RepD K H' d u
  | .v _, _, h => by unfold RepD at h ⊢; exact h
  | .tup ds, _, h => by
    unfold RepD at h ⊢
    obtain ⟨a, us, e1, q, r⟩ := h
    exact ⟨a, us, e1, e _ _ q, RepL.monoS e ds r⟩
theorem RepL.monoS {K : PySem.W.Frag} {H H' : Hp} (e : SqTo K H H') : ∀ (ds : List D) {us : List V}, RepL K H ds us → RepL K H' ds us
  | [], _, h => by unfold RepL at h ⊢; exact h
  | d :: ds, _, h => by
    unfold RepL at h ⊢
    obtain ⟨u, r, e1, q, t⟩ := h
    exact ⟨u, r, e1, RepD.monoS e d q, RepL.monoS e ds t⟩
end
theorem RepKV.monoS {κ : Type} {K : PySem.W.Frag} {H H' : Hp} (e : SqTo K H H') : ∀ {kvs : List (κ × D)} {us : List (κ × V)}, RepKV K H kvs us → RepKV K H' kvs us
  | [], _, h => h
  | (k, d) :: r, _, h => by
    obtain ⟨u, t, e1, q, z⟩ := h
    exact ⟨u, t, e1, RepD.monoS e d q, RepKV.monoS e z⟩
theorem RepO.monoS {K : PySem.W.Frag} {H H' : Hp} {a : Addr} (e : SqTo K H H') (h : H' a = H a) : ∀ {o : Ob}, RepO K H a o → RepO K H' a o
  | .lst _, ⟨us, q, r⟩ => ⟨us, by rw [h]; exact q, RepL.monoS e _ r⟩
  | .rol _, ⟨o, us, q, r⟩ => ⟨o, us, by rw [h]; exact q, RepL.monoS e _ r⟩
  | .dk _, ⟨us, q, r⟩ => ⟨us, by rw [h]; exact q, RepKV.monoS e r⟩
  | .rdk _, ⟨o, us, q, r⟩ => ⟨o, us, by rw [h]; exact q, RepKV.monoS e r⟩
  | .ctp _, ⟨o, us, q, n, r⟩ => ⟨o, us, by rw [h]; exact q, n, RepL.monoS e _ r⟩
  | .ins _ _, ⟨dx, us, q, r⟩ => ⟨dx, us, by rw [h]; exact q, RepKV.monoS e r⟩
/-- while e runs, the dict that te gives is locked -/
def lockK (a : Addr) (kvs : List (Key × D)) (Q : DK) : DK := fun d M => M a = some (.rdk kvs) ∧ Q d (mupd M a (.dk kvs))
def dLock (t : DE) : DE := fun env M Q E => ∃ a kvs, M a = some (.dk kvs) ∧ t env (mupd M a (.rdk kvs)) (lockK a kvs Q) noX
theorem s_lockK {a kvs Q d M} : lockK a kvs Q d M = (M a = some (.rdk kvs) ∧ Q d (mupd M a (.dk kvs))) := id rfl
theorem xe_lock {t : DE} (he : XE X W e t) : XE X W e (dLock t) := by
  refine ⟨fun env M Q Q' E E' hQ hE ⟨a, kvs, h1, h⟩ => ⟨a, kvs, h1, he.mono _ _ _ _ _ _ (fun d M1 z => ⟨z.1, hQ _ _ z.2⟩) (fun _ _ _ z => z) h⟩, PEw (pe_lock he.pe) ?_⟩
  rintro σ H Q ⟨env, M, re, sm, a, kvs, hm, h⟩
  obtain ⟨us, q1, l1⟩ := sm _ _ hm
  refine ⟨a, _, q1, True.intro, fun od => ?_⟩
  have ex : Ext X.K H (upd H a (.frz od (.dK us))) := Ext.mut q1 True.intro
  have sm1 : Sim X.K (upd H a (.frz od (.dK us))) (mupd M a (.rdk kvs)) := sm.put q1 True.intro ⟨od, us, upd_same, RepKV.mono ex l1⟩
  refine stepE he.mono (re.mono ex) sm1 h (fun d M1 u H1 e1 s1 re1 r1 q => ?_) fun _ _ _ z => z.elim
  have hf : H1 a = some (.frz od (.dK us)) := e1.fz _ _ _ upd_same
  refine ⟨hf, ?_⟩
  have sq : ∀ b xs, SqT X.K H1 b xs → SqT X.K (upd H1 a (.dK us)) b xs := fun b xs g => by
    rcases g with (g | ⟨ob, g⟩) | g
    · exact .inl (.inl (by rw [upd_ne (fun z => by rw [z, hf] at g; cases g)]; exact g))
    · exact .inl (.inr ⟨ob, by rw [upd_ne (fun z => by rw [z, hf] at g; cases g)]; exact g⟩)
    · exact .inr g
  have ex2 : Ext X.K H (upd H1 a (.dK us)) := ⟨fun b xs g => sq b xs (e1.sq b xs (ex.sq b xs g)), fun b o v g => by
    have hb : b ≠ a := fun z => by rw [z, q1] at g; cases g
    rw [upd_ne hb]
    exact e1.fz _ _ _ (by rw [upd_ne hb]; exact g)⟩
  refine q.2 u _ ex2 (fun b ob g => ?_) (RepD.monoS sq d r1)
  by_cases hb : b = a
  · subst hb
    rw [mupd_same] at g
    cases g
    exact ⟨us, upd_same, RepKV.monoS sq (RepKV.mono e1 (RepKV.mono ex l1))⟩
  · rw [mupd_ne hb] at g
    exact (s1 b ob g).monoS sq (upd_ne hb)
end
/-! dict comprehensions -/
/-- a: the new dict; the items, what is made so far -/
def dDcGo (keep : Mem → Prop) (p : Pat) (tt : DT) (tk tv : DE) (env : DEnv) (a : Addr) (Q : DK) : List D → List (Key × D) → Mem → Prop
  | [], acc, M => keep M ∧ M a = some (.dk acc) ∧ Q (.ob a) M
  | x :: r, acc, M => keep M ∧ match p.bind M x env with
    | some env1 => tt env1 M (fun b M2 => if b = true then tk env1 M2 (fun y M3 => tv env1 M3 (fun z M4 => ∃ k, y.key = some k ∧ M4 a = some (.dk acc) ∧ acc.length < sizeLine ∧ dDcGo keep p tt tk tv env a Q r (putD acc k z) (mupd M4 a (.dk (putD acc k z)))) noX) noX else dDcGo keep p tt tk tv env a Q r acc M2) noX
    | none => False
def dcK (p : Pat) (tt : DT) (tk tv : DE) (vs : List Nat) (env : DEnv) (Q : DK) : DIt → Mem → Prop := fun J M => ∀ a, M a = none → dDcGo J.keep p tt tk tv (wipeD env vs) a Q J.items [] (mupd M a (.dk []))
def dDc (ti : DI) (p : Pat) (tt : DT) (tk tv : DE) (vs : List Nat) : DE := fun env M Q E => ti env M (dcK p tt tk tv vs env Q) E
theorem dDcGo_mono {keep : Mem → Prop} {p : Pat} {tt : DT} {tk tv : DE} (ht : MonoT tt) (hk : MonoE tk) (he : MonoE tv) {env : DEnv} {a : Addr} {Q Q' : DK} (hQ : ∀ d M, Q d M → Q' d M) : ∀ (xs : List D) (acc : List (Key × D)) (M : Mem), dDcGo keep p tt tk tv env a Q xs acc M → dDcGo keep p tt tk tv env a Q' xs acc M
  | [], acc, M, h => ⟨h.1, h.2.1, hQ _ _ h.2.2⟩
  | x :: r, acc, M, h => by
    refine ⟨h.1, ?_⟩
    have h2 := h.2
    split
    · rename_i env1 hb1
      rw [hb1] at h2
      refine ht _ _ _ _ _ _ (fun b M2 => ?_) (fun _ _ _ z => z) h2
      cases b with
      | true =>
        rw [if_pos rfl, if_pos rfl]
        exact hk _ _ _ _ _ _ (fun y M3 => he _ _ _ _ _ _ (fun z M4 ⟨k, z1, z2, z3, z4⟩ => ⟨k, z1, z2, z3, dDcGo_mono ht hk he hQ r _ _ z4⟩) (fun _ _ _ z => z)) (fun _ _ _ z => z)
      | false =>
        rw [if_neg Bool.false_ne_true, if_neg Bool.false_ne_true]
        exact dDcGo_mono ht hk he hQ r _ _
    · rename_i hb1
      rw [hb1] at h2
      exact h2
section
variable {X : Cx} {W : WX} {kx vx tg iter : Expr} {ifs : List Expr} {scope : Scope} {own : List (Str × Nat)} {pos : Pos} {ti : DI} {p : Pat} {tt : DT} {tk tv : DE}
theorem dc_up (hi : XI X W tg iter ti) (mt : MonoT tt) (mk : MonoE tk) (me : MonoE tv) (vs : List Nat) (hv : ∀ i ∈ p.slots, i ∈ vs) : ∀ σ H Q, liftE X.K W (dDc ti p tt tk tv vs) σ H Q → tDc (liftI X.K W ti) (p.tg X.K) (liftT X.K W0 tt) (liftE X.K W0 tk) (liftE X.K W0 tv) vs σ H Q := by
  rintro σ H Q ⟨env, M, re, s, h⟩
  refine ⟨env, M, re, s, hi.mono _ _ _ _ _ _ (fun J M1 q J' H1 e1 s1 ir => ?_) (fun _ _ _ z => z) h⟩
  intro a ha
  have q := q a (s1.free ha)
  have sA : Sim X.K (upd H1 a (.dK [])) (mupd M1 a (.dk [])) := s1.new ha (repO_dk (us := []) (Ext.new ha) rfl)
  have eA : Ext X.K H1 (upd H1 a (.dK [])) := Ext.new ha
  refine ⟨fun i m H' => m = J.items.length - i ∧ i ≤ J.items.length ∧ Ext X.K H1 H' ∧ ∃ M acc, Sim X.K H' M ∧ dDcGo J.keep p tt tk tv (wipeD env vs) a (upK X.K H Q) (J.items.drop i) acc M,
    ⟨J.items.length, by simp, Nat.zero_le _, eA, _, [], sA, by simpa using q⟩, ?_⟩
  rintro i m H2 ⟨rfl, hi2, e2, M2, acc, s2, q2⟩
  by_cases hlt : i < J.items.length
  · rw [List.drop_eq_getElem_cons hlt] at q2
    obtain ⟨kp, q2⟩ := q2
    refine .inr ⟨ir.go i H2 M2 e2 s2 kp hlt, fun H' => Ext X.K H1 H' ∧ ∃ M acc, Sim X.K H' M ∧ dDcGo J.keep p tt tk tv (wipeD env vs) a (upK X.K H Q) (J.items.drop (i + 1)) acc M, fun H' n => ⟨_, by omega, rfl, hlt, n⟩, fun x H3 y => ?_⟩
    obtain ⟨d, hd, r3, e3, s3⟩ := ir.yld i H2 M2 x H3 e2 s2 kp hlt y
    rw [List.getElem?_eq_getElem hlt] at hd
    obtain rfl := Option.some.inj hd
    split at q2
    · rename_i env3 hb3
      have re3 : RepE X.K H3 (wipeD env vs) (L2.wipe σ vs) := (re.mono ((e1.trans e2).trans e3)).wipe vs
      obtain ⟨σ3, h1, hw, h3⟩ := Pat.rep s3 vs p r3 re3 hb3 hv
      refine h3 _ ⟨hw.trans (wipe_wipe vs), ?_⟩
      refine stepT mt h1 s3 q2 (fun b M4 H4 e4 s4 re4 q4 => ?_) fun _ _ _ z => z.elim
      cases b with
      | true =>
        rw [if_pos rfl] at q4 ⊢
        refine stepE mk re4 s4 q4 (fun y M5 u H5 e5 s5 re5 r5 q5 => ?_) fun _ _ _ z => z.elim
        refine stepE me re5 s5 q5 (fun z M6 v H6 e6 s6 re6 r6 q6 => ?_) fun _ _ _ z => z.elim
        obtain ⟨k, hk, ma6, lz, q6⟩ := q6
        obtain ⟨us, h6, l6⟩ := s6 _ _ ma6
        have ey := key_rep hk r5
        have ex : Ext X.K H6 (upd H6 a (.dK (putK us k v))) := Ext.mut h6 True.intro
        refine ⟨us, k, ey, h6, by rw [l6.length]; exact lz, ((((e2.trans e3).trans e4).trans e5).trans e6).trans ex, _, _, s6.put h6 True.intro (repO_dk ex (RepKV.put r6 l6)), q6⟩
      | false =>
        rw [if_neg Bool.false_ne_true] at q4 ⊢
        exact ⟨(e2.trans e3).trans e4, M4, acc, s4, q4⟩
    · exact q2.elim
  · have e : i = J.items.length := by omega
    subst e
    rw [List.drop_length] at q2
    exact .inl ⟨ir.stop H2 M2 e2 s2 q2.1, q2.2.2 (.ref a) H2 (e1.trans e2) s2 rep_of⟩
theorem xe_dc (hc : X.calm = true) (hN : X.N.Nodup) (hi : XI X W tg iter ti) (ok : BlkOk X.N X.env.scope scope own) (hg : BlkAll X scope fun Y => PG Y tg (p.tg X.K)) (ht : BlkAll X scope fun Y => XTs Y W0 ifs tt) (hk : BlkAll X scope fun Y => XE Y W0 kx tk) (he : BlkAll X scope fun Y => XE Y W0 vx tv)
    (hv : p.slots.all (fun i => decide (i ∈ own.map (·.2))) = true := by decide) (hs : ∀ x, foldedSetIterable iter X.env x = pure x := by intro _; rfl) : XE X W (.DictComp kx vx [⟨tg, iter, ifs, 0⟩] scope pos) (dDc ti p tt tk tv (own.map (·.2))) := by
  have mt := (ht X.s_0 X.H_0 0 [] []).mono
  have mk := (hk X.s_0 X.H_0 0 [] []).mono
  have me := (he X.s_0 X.H_0 0 [] []).mono
  refine ⟨fun env M Q Q' E E' hQ hE => hi.mono _ _ _ _ _ _ (fun J M1 q a ha => dDcGo_mono mt mk me hQ _ _ _ (q a ha)) hE, PEw (pe_dc (g := p.tg X.K) (tt := liftT X.K W0 tt) (tk := liftE X.K W0 tk) (tv := liftE X.K W0 tv) hc hN hi.pi ok hg (fun s H C cl fp => (ht s H C cl fp).pts) (fun s H C cl fp => (hk s H C cl fp).pe) (fun s H C cl fp => (he s H C cl fp).pe) hs) (dc_up hi mt mk me _ fun i h => ?_)⟩
  exact of_decide_eq_true (List.all_eq_true.mp hv i h)
end
end PL

namespace PL
open PySem PySem.Spec PyProof.Rows L2
/-! dict displays -/
abbrev DPs := DEnv → Mem → (List (D × D) → Mem → Prop) → DX → Prop
def dpNil : DPs := fun _ M R _ => R [] M
def dpK3 (x y : D) (R : List (D × D) → Mem → Prop) : List (D × D) → Mem → Prop := fun ps M => R ((x, y) :: ps) M
def dpK2 (x : D) (r : DPs) (env : DEnv) (R : List (D × D) → Mem → Prop) (E : DX) : DK := fun y M => r env M (dpK3 x y R) E
def dpK1 (tv : DE) (r : DPs) (env : DEnv) (R : List (D × D) → Mem → Prop) (E : DX) : DK := fun x M => tv env M (dpK2 x r env R E) E
def dpCons (tk tv : DE) (r : DPs) : DPs := fun env M R E => tk env M (dpK1 tv r env R E) E
def kvOf : List (D × D) → Option (List (Key × D))
  | [] => some []
  | (x, y) :: r => match x.key, kvOf r with
    | some k, some kvs => some ((k, y) :: kvs)
    | _, _ => none
def optKV (o : Option (List (Key × D))) (f : List (Key × D) → Prop) : Prop := match o with
  | some kvs => f kvs
  | none => False
def dispK (p : Addr) (Q : DK) : List (D × D) → Mem → Prop := fun ps M => M p = some (.dk []) ∧ optKV (kvOf ps) fun kvs => kvs.length ≤ 15 ∧ Q (.ob p) (mupd M p (.dk (mergeD [] kvs)))
def dDisp (r : DPs) : DE := fun env M Q E => ∀ p, M p = none → r env (mupd M p (.dk [])) (dispK p Q) E
section
variable {env : DEnv} {M : Mem} {Q : DK} {E : DX} {R : List (D × D) → Mem → Prop}
theorem s_dpNil : dpNil env M R E = R [] M := id rfl
theorem s_dpCons {tk tv r} : dpCons tk tv r env M R E = tk env M (dpK1 tv r env R E) E := id rfl
theorem s_dpK1 {tv r x} : dpK1 tv r env R E x M = tv env M (dpK2 x r env R E) E := id rfl
theorem s_dpK2 {x r y} : dpK2 x r env R E y M = r env M (dpK3 x y R) E := id rfl
theorem s_dpK3 {x y ps} : dpK3 x y R ps M = R ((x, y) :: ps) M := id rfl
theorem s_disp {r} : dDisp r env M Q E = ∀ p, M p = none → r env (mupd M p (.dk [])) (dispK p Q) E := id rfl
theorem s_dispK {p ps} : dispK p Q ps M = (M p = some (.dk []) ∧ optKV (kvOf ps) fun kvs => kvs.length ≤ 15 ∧ Q (.ob p) (mupd M p (.dk (mergeD [] kvs)))) := id rfl
theorem s_optKV {kvs} {f : List (Key × D) → Prop} : optKV (some kvs) f = f kvs := id rfl
theorem kv_nil : kvOf [] = some [] := id rfl
theorem kv_str {x : Str} {y : D} {r kvs} (h : kvOf r = some kvs) : kvOf ((.str x, y) :: r) = some ((.inr x, y) :: kvs) := by
  unfold kvOf
  rw [h]
  rfl
end
def RepPs (K : PySem.W.Frag) (H : Hp) : List (D × D) → List (V × V) → Prop
  | [], us => us = []
  | (x, y) :: r, us => ∃ u v t, us = (u, v) :: t ∧ RepD K H x u ∧ RepD K H y v ∧ RepPs K H r t
theorem kv_rep {K : PySem.W.Frag} {H : Hp} : ∀ {ps : List (D × D)} {kvs : List (Key × D)} {us : List (V × V)}, kvOf ps = some kvs → RepPs K H ps us → ∃ ws : List (Key × V), us = ws.map (fun kv => (kV kv.1, kv.2)) ∧ RepKV K H kvs ws
  | [], kvs, us, h, r => by
    unfold kvOf at h
    unfold RepPs at r
    cases h
    subst r
    exact ⟨[], rfl, rfl⟩
  | (x, y) :: ps, kvs, us, h, r => by
    obtain ⟨u, v, t, rfl, q1, q2, z⟩ := r
    unfold kvOf at h
    split at h
    · rename_i k kvs' hk h2
      cases h
      obtain ⟨ws, rfl, l⟩ := kv_rep h2 z
      have e := key_rep hk q1
      subst e
      exact ⟨(k, v) :: ws, rfl, ⟨v, ws, rfl, q2, l⟩⟩
    · cases h
def MonoPs (t : DPs) : Prop := ∀ env M (Q Q' : List (D × D) → Mem → Prop) (E E' : DX), (∀ d M, Q d M → Q' d M) → (∀ c f M, E c f M → E' c f M) → t env M Q E → t env M Q' E'
def liftPs (K : PySem.W.Frag) (W : WX) (t : DPs) (σ : L2.St) (H : Hp) (Q : List (V × V) → Hp → Prop) : Prop := ∃ env M, RepE K H env σ ∧ Sim K H M ∧ t env M (fun ps M' => ∀ us H', Ext K H H' → Sim K H' M' → RepPs K H' ps us → Q us H') (upX K W H σ)
structure XPs (X : Cx) (W : WX) (pos : Pos) (keys : List (Option Expr)) (values : List Expr) (t : DPs) : Prop where
  mono : MonoPs t
  run : ∀ (pins : List (Addr × Obj)) (s : Shared) (σ : L2.St) (H : Hp) (Q : List (V × V) → Hp → Prop), Inv X pins σ H s → liftPs X.K W t σ H Q →
    wpAny (model X.prog X.w) X.A (evalPairs (pairTrees keys values X.env pos)) (fun vs s' => ∃ ps H', Inv X pins σ H' s' ∧ VV ps vs ∧ Q ps H') X.xe s
section
variable {X : Cx} {W : WX} {pos : Pos} {k v : Expr} {ks : List (Option Expr)} {vs : List Expr} {tk tv : DE} {t : DPs}
theorem xps_nil : XPs X W pos [] [] dpNil := by
  refine ⟨fun env M Q Q' E E' hQ hE h => hQ _ _ h, fun pins s σ H Q I h => ?_⟩
  obtain ⟨env, M, re, sm, h⟩ := h
  exact pairTrees_nil_walk ⟨[], H, I, .nil, h [] H Ext.refl sm rfl⟩
theorem xps_cons (hk : XE X W k tk) (hv : XE X W v tv) (hr : XPs X W pos ks vs t) : XPs X W pos (some k :: ks) (v :: vs) (dpCons tk tv t) := by
  refine ⟨fun env M Q Q' E E' hQ hE => hk.mono _ _ _ _ _ _ (fun x M1 => hv.mono _ _ _ _ _ _ (fun y M2 => hr.mono _ _ _ _ _ _ (fun ps M3 => hQ _ _) hE) hE) hE, fun pins s σ H Q I h => ?_⟩
  obtain ⟨env, M, re, sm, h⟩ := h
  have q : liftE X.K W tk σ H fun u H1 => liftE X.K W tv σ H1 fun v H2 => liftPs X.K W t σ H2 fun us H3 => Q ((u, v) :: us) H3 := by
    refine stepE hk.mono re sm h (fun x M1 u H1 e1 s1 re1 r1 q => ?_) fun _ _ _ z => z
    refine stepE hv.mono re1 s1 q (fun y M2 v H2 e2 s2 re2 r2 q2 => ?_) (upX_mono e1)
    refine ⟨env, M2, re2, s2, hr.mono _ _ _ _ _ _ (fun ps M3 q3 us H3 e3 s3 r3 => ?_) (upX_mono (e1.trans e2)) q2⟩
    exact q3 ((u, v) :: us) H3 ((e1.trans e2).trans e3) s3 ⟨u, v, us, rfl, RepD.mono (e2.trans e3) _ r1, RepD.mono e3 _ r2, r3⟩
  exact pairTrees_cons_walk (thn (hk.pe.run pins s σ H _ I q) fun u s1 ⟨x, H1, I1, rx, q1⟩ => thn (hv.pe.run pins s1 σ H1 _ I1 q1) fun w2 s2 ⟨y, H2, I2, ry, q2⟩ =>
    thn (hr.run pins s2 σ H2 _ I2 q2) fun ws s3 ⟨ps, H3, I3, rel, q3⟩ => ⟨(x, y) :: ps, H3, I3, .cons ⟨rx, ry⟩ rel, q3⟩)
theorem RepKV.len {K : PySem.W.Frag} {H : Hp} {kvs : List (Key × D)} {us : List (Key × V)} (h : RepKV K H kvs us) : us.length = kvs.length := h.length
theorem xe_disp (h : XPs X W pos ks vs t) (hall : ks.all (·.isSome) = true := by rfl) (hl : ks.length = vs.length := by rfl) (h0 : ks ≠ [] := by decide) (h15 : ks.length ≤ 15 := by decide) : XE X W (.Dict ks vs pos) (dDisp t) := by
  have mono : MonoE (dDisp t) := by
    intro env M Q Q' E E' hQ hE z p hp
    refine h.mono _ _ _ _ _ _ ?_ hE (z p hp)
    rintro ps M1 ⟨z1, z2⟩
    refine ⟨z1, ?_⟩
    cases e : kvOf ps with
    | none => rw [e] at z2; exact z2
    | some kvs => rw [e] at z2; exact ⟨z2.1, hQ _ _ z2.2⟩
  refine ⟨mono, ⟨fun pins s σ H Q I q => ?_⟩⟩
  obtain ⟨env, M, re, sm, q⟩ := q
  have hn := I.hok.fresh (Nat.le_refl s.heap.objs.size)
  have I1 := I.laid (a := s.heap.objs.size) (o := .dK []) (h' := s.heap.push { cls := .type "dict", data := .dict #[] }) (t' := s.toks) (fun _ _ q => Heap.get?_push_of_some _ q) (Nat.le_refl _) (dk_empty s.heap I.big)
  have ex : Ext X.K H (upd H s.heap.objs.size (.dK [])) := Ext.new hn
  have q1 : liftPs X.K W t σ (upd H s.heap.objs.size (.dK [])) fun us H2 => H2 s.heap.objs.size = some (.dK []) ∧ ∃ kvs : List (Key × V), us = kvs.map (fun kv => (kV kv.1, kv.2)) ∧ kvs.length ≤ 15 ∧ Q (.ref s.heap.objs.size) (upd H2 s.heap.objs.size (.dK (mergeK [] kvs))) := by
    refine ⟨env, _, re.mono ex, sm.new hn (repO_dk (kvs := []) (us := []) ex rfl), h.mono _ _ _ _ _ _ (fun ps M2 z us H2 e2 s2 r2 => ?_) (upX_mono ex) (q _ (sm.free hn))⟩
    obtain ⟨z1, z2⟩ := z
    cases e : kvOf ps with
    | none => rw [e] at z2; exact z2.elim
    | some kvs =>
      rw [e] at z2
      obtain ⟨z2, z3⟩ := z2
      obtain ⟨ws, rfl, l⟩ := kv_rep e r2
      obtain ⟨xs, hx, lx⟩ := s2 _ _ z1
      unfold RepKV at lx
      subst lx
      refine ⟨hx, ws, rfl, by rw [l.length]; exact z2, ?_⟩
      have ex3 : Ext X.K H2 (upd H2 s.heap.objs.size (.dK (mergeK [] ws))) := Ext.mut hx True.intro
      exact z3 _ _ ((ex.trans e2).trans ex3) (s2.put hx True.intro (repO_dk ex3 (RepKV.merge l rfl))) rep_of
  refine wpAny_Dict_walk (knd := mixKind X.prog X.w) hall hl h0 h15 (thn (h.run pins _ σ _ _ I1 q1) fun ws s2 ⟨ps, H2, I2, rel, e, kvs, ep, lk, q2⟩ => ?_)
  subst ep
  obtain ⟨rs, c, rk⟩ := carries_of (P := X.prog) (w := X.w) rel
  obtain ⟨z, hd, vs0, r0, dd⟩ := dk_of I2.hok e
  cases r0
  refine ⟨rs, c, dd, fun h' dd' hs => ⟨.ref s.heap.objs.size, _, ?_, rfl, q2⟩⟩
  have hz : (mergeK [] kvs).length ≤ sizeLine := by
    have h1 := length_mergeK kvs []
    simp only [List.length_nil, Nat.zero_add] at h1
    rw [sizeLine_eq]; omega
  have he : ∃ q, h'.get? s.heap.objs.size = some q := let ⟨q, _, _, hq, _⟩ := dd'; ⟨q, hq⟩
  exact d_write I2 (by rw [e]; exact True.intro) hs he (dk_new hz hd (rk.merge .nil) dd')
end
section
variable {env : DEnv} {M : Mem} {Q : DK} {E : DX}
theorem s_dc {ti p tt tk tv vs} : dDc ti p tt tk tv vs env M Q E = ti env M (dcK p tt tk tv vs env Q) E := id rfl
theorem s_dcK {p tt tk tv vs its kp} : dcK p tt tk tv vs env Q ⟨its, kp⟩ M = ∀ a, M a = none → dDcGo kp p tt tk tv (wipeD env vs) a Q its [] (mupd M a (.dk [])) := id rfl
end
end PL
namespace PL
open PySem PySem.Spec PyProof.Rows L2
theorem xe_globTE {X : Cx} {W : WX} {x : Str} {ds : List D} {pos : Pos} (hg : Gl X x) (h : ∃ a : Addr, X.mg x = some (.ref a) ∧ ∀ H : Hp, RepD X.K H (.tup ds) (.ref a)) (hd : (x == ("__debug__" : Str)) = false := by decide) : XE X W (.Name x pos) (dC (.tup ds)) := by
  obtain ⟨a, h1, h2⟩ := h
  exact xe_globT hg h1 h2 hd
theorem rep_globT {K : PySem.W.Frag} {H : Hp} {a : Addr} {d : Option Addr} {t : Array Value} {n : Nat} {s : Array (Option Value)} {xs : List Str} (h : K.lookup a = some ⟨.type "tuple", d, .seq t n, s⟩) (hz : t.size ≤ sizeLine) (r : Vals (xs.map V.str) t.toList) : RepD K H (.tup (xs.map D.str)) (.ref a) := by
  unfold RepD
  exact ⟨a, xs.map V.str, rfl, .inr ⟨_, t, n, h, rfl, rfl, hz, r⟩, .of_strs⟩
end PL
namespace PL
theorem merge_nil {κ : Type} [DecidableEq κ] {kvs : List (κ × D)} : mergeD kvs [] = kvs := id rfl
theorem merge_one {k : L2.Key} {d : D} : mergeD [] [(k, d)] = [(k, d)] := id rfl
end PL
namespace PL
open PySem PySem.Spec PyProof.Rows L2
theorem Keep.putN {M M' : Mem} {p : Addr} {o : Ob} (k : Keep [] M M') (h : M p = none) : Keep [] M (mupd M' p o) := (k.weaken (T := [p]) (by simp)).trans (Keep.put (by simp)) |>.drop h
def dcZ (y : D) (N : D → D → Mem → Prop) : DK := fun z M => N y z M
def dcY (tv : DE) (env : DEnv) (N : D → D → Mem → Prop) : DK := fun y M => tv env M (dcZ y N) noX
def dcB (tk tv : DE) (env : DEnv) (N : D → D → Mem → Prop) (sk : Mem → Prop) : Bool → Mem → Prop := fun b M => bifM b (eK tk env (dcY tv env N) noX) sk M
def dcS (tt : DT) (tk tv : DE) (N : D → D → Mem → Prop) (sk : Mem → Prop) (env : DEnv) (M : Mem) : Prop := tt env M (dcB tk tv env N sk) noX
section
variable {tt : DT} {tk tv : DE} {N : D → D → Mem → Prop} {sk : Mem → Prop} {env : DEnv} {M : Mem} {y z : D} {b : Bool}
theorem s_dcZ : dcZ y N z M = N y z M := id rfl
theorem s_dcY : dcY tv env N y M = tv env M (dcZ y N) noX := id rfl
theorem s_dcB : dcB tk tv env N sk b M = bifM b (eK tk env (dcY tv env N) noX) sk M := id rfl
theorem s_dcS : dcS tt tk tv N sk env M = tt env M (dcB tk tv env N sk) noX := id rfl
end
theorem mergeD_snoc {κ : Type} [DecidableEq κ] (acc : List (κ × D)) (xs : List (κ × D)) (p : κ × D) : mergeD acc (xs ++ [p]) = putD (mergeD acc xs) p.1 p.2 := by
  unfold mergeD
  rw [List.foldl_append]
  rfl
theorem putD_len {κ : Type} [DecidableEq κ] (kvs : List (κ × D)) (k : κ) (d : D) : (putD kvs k d).length ≤ kvs.length + 1 := by
  unfold putD
  split
  · rw [List.length_map]; omega
  · simp
theorem mergeD_len {κ : Type} [DecidableEq κ] : ∀ (xs acc : List (κ × D)), (mergeD acc xs).length ≤ acc.length + xs.length
  | [], acc => Nat.le_refl _
  | p :: r, acc => by
    have h1 := mergeD_len r (putD acc p.1 p.2)
    have h2 := putD_len acc p.1 p.2
    show (mergeD (putD acc p.1 p.2) r).length ≤ _
    rw [List.length_cons]; omega
theorem dc_pure {α : Type} (f : α → D) (k : α → Key) (kd g : α → D) (b : α → Bool) {M0 : Mem} {a : Addr} {kp : Mem → Prop} {p : Pat} {tt : DT} {tk tv : DE} {env : DEnv} {Q : DK} (xs : List α) (hkd : ∀ x ∈ xs, (kd x).key = some (k x)) (ha : M0 a = none) (hk : ∀ M', Keep [] M0 M' → kp M') (hlen : xs.length ≤ sizeLine)
    (step : ∀ x ∈ xs, ∀ M' (N : D → D → Mem → Prop) (sk : Mem → Prop), Keep [] M0 M' → (b x = true → ∀ M'', Keep [] M' M'' → N (kd x) (g x) M'') → (b x = false → ∀ M'', Keep [] M' M'' → sk M'') → optE (p.bind M' (f x) env) (dcS tt tk tv N sk) M')
    (done : ∀ M', Keep [] M0 M' → M' a = some (.dk (mergeD [] ((xs.filter b).map fun x => (k x, g x)))) → Q (.ob a) M') : dDcGo kp p tt tk tv env a Q (xs.map f) [] (mupd M0 a (.dk [])) := by
  have go : ∀ (r pre : List α) (M' : Mem), xs = pre ++ r → Keep [] M0 M' → M' a = some (.dk (mergeD [] ((pre.filter b).map fun x => (k x, g x)))) → dDcGo kp p tt tk tv env a Q (r.map f) (mergeD [] ((pre.filter b).map fun x => (k x, g x))) M' := by
    intro r
    induction r with
    | nil =>
      intro pre M' e1 kk e
      rw [List.append_nil] at e1
      subst e1
      exact ⟨hk _ kk, e, done _ kk e⟩
    | cons x r ih =>
      intro pre M' e1 kk e
      refine ⟨hk _ kk, ?_⟩
      have hx : x ∈ xs := by rw [e1]; simp
      have small : (mergeD [] ((pre.filter b).map fun x => (k x, g x))).length < sizeLine := by
        have h1 := mergeD_len ((pre.filter b).map fun x => (k x, g x)) ([] : List (Key × D))
        have h2 := List.length_filter_le b pre
        have h3 : xs.length = pre.length + (r.length + 1) := by rw [e1]; simp
        simp only [List.length_map, List.length_nil] at h1
        omega
      have q := step x hx M' (fun y z M4 => ∃ k', y.key = some k' ∧ M4 a = some (.dk (mergeD [] ((pre.filter b).map fun x => (k x, g x)))) ∧ (mergeD [] ((pre.filter b).map fun x => (k x, g x))).length < sizeLine ∧ dDcGo kp p tt tk tv env a Q (r.map f) (putD (mergeD [] ((pre.filter b).map fun x => (k x, g x))) k' z) (mupd M4 a (.dk (putD (mergeD [] ((pre.filter b).map fun x => (k x, g x))) k' z))))
        (fun M2 => dDcGo kp p tt tk tv env a Q (r.map f) (mergeD [] ((pre.filter b).map fun x => (k x, g x))) M2) kk (fun hb M2 k2 => ?_) (fun hb M2 k2 => ?_)
      · unfold optE at q
        split at q
        · rename_i env1 hb
          first | exact q | (rw [hb]; exact q)
        · exact q.elim
      · have e2 : (((pre ++ [x]).filter b).map fun x => (k x, g x)) = ((pre.filter b).map fun x => (k x, g x)) ++ [(k x, g x)] := by
          rw [List.filter_append, List.map_append]
          simp [hb]
        have e3 : mergeD [] (((pre ++ [x]).filter b).map fun x => (k x, g x)) = putD (mergeD [] ((pre.filter b).map fun x => (k x, g x))) (k x) (g x) := by rw [e2, mergeD_snoc]
        refine ⟨k x, hkd x hx, k2 _ _ e (by simp), small, ?_⟩
        rw [← e3]
        exact ih (pre ++ [x]) _ (by rw [e1]; simp) (Keep.putN (kk.trans k2) ha) mupd_same
      · have e2 : (((pre ++ [x]).filter b).map fun x => (k x, g x)) = ((pre.filter b).map fun x => (k x, g x)) := by
          rw [List.filter_append, List.map_append]
          simp [hb]
        rw [← e2]
        exact ih (pre ++ [x]) _ (by rw [e1]; simp) (kk.trans k2) (by rw [e2]; exact k2 _ _ e (by simp))
  exact go xs [] _ rfl (Keep.new ha) mupd_same
end PL
namespace PL
open PySem PySem.Spec PyProof.Rows L2
theorem in_dkI {i : Int} {a : Addr} {kvs : List (Key × D)} {M : Mem} {Q : DK} (h : M a = some (.dk kvs)) : (opIn (.int i) (.ob a) M).run M Q = Q (.bl (look kvs (.inl i)).isSome) M := by
  simp [opIn, isIn, h, D.key, Res.run, mostDeep]
theorem notIn_dkI {i : Int} {a : Addr} {kvs : List (Key × D)} {M : Mem} {Q : DK} (h : M a = some (.dk kvs)) : (opNotIn (.int i) (.ob a) M).run M Q = Q (.bl (!(look kvs (.inl i)).isSome)) M := by
  simp [opNotIn, isIn, h, D.key, Res.run, mostDeep]
theorem in_dkS {x : Str} {a : Addr} {kvs : List (Key × D)} {M : Mem} {Q : DK} (h : M a = some (.dk kvs)) : (opIn (.str x) (.ob a) M).run M Q = Q (.bl (look kvs (.inr x)).isSome) M := by
  simp [opIn, isIn, h, D.key, Res.run, mostDeep]
theorem notIn_dkS {x : Str} {a : Addr} {kvs : List (Key × D)} {M : Mem} {Q : DK} (h : M a = some (.dk kvs)) : (opNotIn (.str x) (.ob a) M).run M Q = Q (.bl (!(look kvs (.inr x)).isSome)) M := by
  simp [opNotIn, isIn, h, D.key, Res.run, mostDeep]
end PL
namespace PL
open PySem PySem.Spec PyProof.Rows L2
/-! == of two lists, one of them empty -/
def eqLR (M : Mem) (x y : D) (f : Bool → Bool) : Res := match x, y with
  | .v (.ref a), .v (.ref b) => match M a, M b with
    | some (.lst xs), some (.lst ys) => .val (xs = [] ∨ ys = []) (.bl (f (decide (xs.length = ys.length))))
    | _, _ => .bad
  | _, _ => .bad
def opEqL : DOp2 := fun x y M => eqLR M x y id
def opNeL : DOp2 := fun x y M => eqLR M x y (!·)
section
variable {X : Cx}
theorem bl_eqL : ∀ x y M Q, (opEqL x y M).run M Q → (opEqL x y M).run M fun d M' => (∃ k, d = .bl k) ∧ Q d M' := fun x y M Q h => by
  unfold opEqL eqLR at h ⊢
  split at h <;> first | exact h.elim | skip
  split at h <;> first | exact h.elim | skip
  exact ⟨h.1, ⟨_, rfl⟩, h.2⟩
theorem bl_neL : ∀ x y M Q, (opNeL x y M).run M Q → (opNeL x y M).run M fun d M' => (∃ k, d = .bl k) ∧ Q d M' := fun x y M Q h => by
  unfold opNeL eqLR at h ⊢
  split at h <;> first | exact h.elim | skip
  split at h <;> first | exact h.elim | skip
  exact ⟨h.1, ⟨_, rfl⟩, h.2⟩
theorem x_eqL (hu : X.A.units + 200 < cLine) : XOp X (compareOp .Eq) opEqL := by
  rintro pins s σ H x y v u Q I rx ry ⟨dx, dy, M, r1, r2, sm, h⟩
  unfold opEqL eqLR at h
  split at h <;> first | exact h.elim | skip
  split at h <;> first | exact h.elim | skip
  rename_i a b _ _ xs ys hm1 hm2
  rw [rep_v r1] at rx
  rw [rep_v r2] at ry
  obtain rfl : v = Value.ref _ := rx
  obtain rfl : u = Value.ref _ := ry
  obtain ⟨us, ea, la⟩ := sm.seq (.inl hm1)
  obtain ⟨ws, eb, lb⟩ := sm.seq (.inl hm2)
  obtain ⟨i1, v1, p1, z1⟩ := I.list ea
  obtain ⟨i2, v2, p2, z2⟩ := I.list eb
  have l1 : i1.toArray.size = xs.length := by rw [List.size_toArray, ← v1.length, la.length]
  have l2 : i2.toArray.size = ys.length := by rw [List.size_toArray, ← v2.length, lb.length]
  by_cases e : xs.length = ys.length
  · have n1 : xs.length = 0 := by rcases h.1 with z | z <;> simp [z] at e <;> simp_all
    have q := h.2
    rw [decide_eq_true e] at q
    refine SeqAt.RcAt.lists (e := fun _ => true) p1.isList p2.isList (by rw [l1, l2, e]) (by omega) (fun j h1 _ => by rw [l1, n1] at h1; omega) X.prog X.w _ _ ?_
    rw [l1, n1]
    exact ⟨.bl true, H, I, rfl, fin_val q sm⟩
  · have q := h.2
    rw [decide_eq_false e] at q
    exact SeqAt.RcAt.lists_lengths p1.isList p2.isList (by rw [l1, l2]; simpa using e) (by omega) X.prog X.w _ _ ⟨.bl false, H, I, rfl, fin_val q sm⟩
theorem x_neL (hu : X.A.units + 200 < cLine) : XOp X (compareOp .NotEq) opNeL := by
  rintro pins s σ H x y v u Q I rx ry ⟨dx, dy, M, r1, r2, sm, h⟩
  unfold opNeL eqLR at h
  split at h <;> first | exact h.elim | skip
  split at h <;> first | exact h.elim | skip
  rename_i a b _ _ xs ys hm1 hm2
  rw [rep_v r1] at rx
  rw [rep_v r2] at ry
  obtain rfl : v = Value.ref _ := rx
  obtain rfl : u = Value.ref _ := ry
  obtain ⟨us, ea, la⟩ := sm.seq (.inl hm1)
  obtain ⟨ws, eb, lb⟩ := sm.seq (.inl hm2)
  obtain ⟨i1, v1, p1, z1⟩ := I.list ea
  obtain ⟨i2, v2, p2, z2⟩ := I.list eb
  have l1 : i1.toArray.size = xs.length := by rw [List.size_toArray, ← v1.length, la.length]
  have l2 : i2.toArray.size = ys.length := by rw [List.size_toArray, ← v2.length, lb.length]
  by_cases e : xs.length = ys.length
  · have n1 : xs.length = 0 := by rcases h.1 with z | z <;> simp [z] at e <;> simp_all
    have q := h.2
    rw [decide_eq_true e] at q
    refine SeqAt.RcNeAt.lists (e := fun _ => true) p1.isList p2.isList (by rw [l1, l2, e]) (by omega) (fun j h1 _ => by rw [l1, n1] at h1; omega) X.prog X.w _ _ ?_
    rw [l1, n1]
    exact ⟨.bl false, H, I, rfl, fin_val q sm⟩
  · have q := h.2
    rw [decide_eq_false e] at q
    exact SeqAt.RcNeAt.lists_lengths p1.isList p2.isList (by rw [l1, l2]; simpa using e) (by omega) X.prog X.w _ _ ⟨.bl true, H, I, rfl, fin_val q sm⟩
end
end PL

set_option maxHeartbeats 4000000
namespace PL
open PySem PySem.Spec PyProof.Rows L2
/-! sorted(d.items()), keys and values ints -/
abbrev entI (p : Int × Int) : Key × V := (Sum.inl p.1, V.int p.2)
def tSortIt (te : TE) : TE := fun σ H Q => te σ H fun x H1 => ∃ (a : Addr) (ms : List (Int × Int)), x = .ref a ∧ Rd H1 a (.dK (ms.map entI)) ∧ ∀ (H' : Hp) (l : Addr) (ps : List (Addr × Int × Int)), (∀ b o, H1 b = some o → H' b = some o) → H1 l = none → (ps.map (·.2)).Perm ms → (ps.map (·.2)).Pairwise (fun p q => p.1 ≤ q.1) →
  H' l = some (.lst (ps.map fun z => V.ref z.1)) → (∀ z ∈ ps, H' z.1 = some (.tup [.int z.2.1, .int z.2.2])) → Q (.ref l) H'
def backA : Value → Addr
  | .ref a => a
  | _ => 0
def kAt (as : List Addr) (ms : List (Int × Int)) (v : Value) : Int × Int := ((as.zip ms).lookup (backA v)).getD (0, 0)
theorem lookup_zip {β : Type} : ∀ {as : List Addr} {ms : List β} {j : Nat} {b : Addr} {m : β}, as.Nodup → as[j]? = some b → ms[j]? = some m → (as.zip ms).lookup b = some m
  | [], _, _, _, _, _, h, _ => by simp at h
  | _ :: _, [], _, _, _, _, _, h => by simp at h
  | a :: as, m :: ms, 0, b, m', nd, h1, h2 => by
    simp only [List.getElem?_cons_zero, Option.some.injEq] at h1 h2
    subst h1 h2
    simp
  | a :: as, m :: ms, j + 1, b, m', nd, h1, h2 => by
    simp only [List.getElem?_cons_succ] at h1 h2
    rw [List.nodup_cons] at nd
    have ne : b ≠ a := fun z => nd.1 (z ▸ List.mem_of_getElem? h1)
    rw [List.zip_cons_cons, List.lookup_cons]
    have : (b == a) = false := by simpa using ne
    rw [this]
    exact lookup_zip nd.2 h1 h2
section
variable {X : Cx} {e : Expr} {te : TE} {p apos cpos pos : Pos}
theorem pe_sortIt (hc : X.calm = true) (he : PE X e te) (hg : Gl X "sorted") (hm : X.mg "sorted" = none) (hv : bootBuiltins "sorted" = some (.builtin "sorted")) (hbase : attributeBase e "items" X.env (eval e X.env) = eval e X.env := by rfl) (hline : (apos.endLine == cpos.line) = true := by rfl)
    (hs : starEach [.Call (.Attribute e "items" apos) [] [] cpos] X.env = (false, eval (.Call (.Attribute e "items" apos) [] [] cpos) X.env) :: starEach [] X.env := by rfl) :
    PE X (.Call (.Name "sorted" p) [.Call (.Attribute e "items" apos) [] [] cpos] [] pos) (tSortIt te) := by
  refine ⟨fun pins s σ H Q I hq => ?_⟩
  refine wpAny_Call_Name_kw (ld_blt I hg hm hv ?_)
  refine PyProof.Rows.callWith_builtin1 ?_ hs rfl
  rw [hs]
  show wpAny _ _ (spliced ((false, eval (.Call (.Attribute e "items" apos) [] [] cpos) X.env) :: backTo pos (starEach [] X.env))) _ _ s
  refine Calls.spliced_cons ?_
  refine wpAny_Call_method (T := "dict") (id := "dict.items") hbase rfl hline F.plainAttrs_dict F.slot_dict_items F.type_dict_items (thn (he.run pins s σ H _ I hq) fun u s1 ⟨x, H1, I1, rx, d, ms, ex, hd, q⟩ => ?_)
  subst ex
  obtain rfl : u = Value.ref d := rx
  obtain ⟨hz, hs0, vs, kv, hdo⟩ := dk_rd I1.hok hd
  have lk : (ms.map entI).length = vs.length := Paired.length kv
  refine ⟨hdo.typeIs, hdo.mapOf.noDict, ?_⟩
  show wpAny _ _ (callWith cpos (.builtin "dict.items") [.ref d] [] []) _ X.xe s1
  refine method_meetsIn F.slot_dict_items F.entry_dict_items rfl (PySem.evalArgs_none ⟨rfl, hdo.typeIs, F.args_dict_items_1 _, _, meets_dict_items (mixKind X.prog X.w) d hs0, ⟨vs, hdo⟩, ?_⟩)
  refine Calls.spliced_nil ?_
  obtain ⟨es, ep, raw, hsz, hent⟩ := hdo.raw
  have hh : X.A.handled = none := I1.ok.hd hc
  have I2 : Inv X pins σ H1 { s1 with heap := s1.heap.push { cls := .type "dict_items", data := .fields #[.ref d] } } := I1.kept (t' := s1.toks) fun b ob q => Heap.get?_push_of_some _ q
  have view : (s1.heap.push { cls := .type "dict_items", data := .fields #[.ref d] }).IsItemsView s1.heap.objs.size d := ⟨_, Heap.get?_push_size _ rfl, rfl, rfl⟩
  refine DT.sortedI (s := { s1 with heap := s1.heap.push { cls := .type "dict_items", data := .fields #[.ref d] } }) (es := es) (ep := ep) hh view (raw.at fun o e => Heap.get?_push_of_some _ e) (by omega) fun h' tk as hk hlt hl hG => ?_
  have lak : as.length = ms.length := by rw [hl, hsz, ← lk, List.length_map]
  have nd : as.Nodup := List.Pairwise.imp (fun h => Nat.ne_of_lt h) hG.rise
  have hmz : ms.length ≤ sizeLine := by rw [List.length_map] at hz; exact hz
  have kb : ∀ b o, s1.heap.get? b = some o → h'.get? b = some o := fun b o e => hk b o (Heap.get?_push_of_some _ e)
  have low : s1.heap.objs.size < h'.objs.size := by
    have : (s1.heap.push { cls := .type "dict_items", data := .fields #[.ref d] }).objs.size = s1.heap.objs.size + 1 := Heap.size_push _ _
    have h3 : (s1.heap.push { cls := .type "dict_items", data := .fields #[.ref d] }).objs.size < h'.objs.size := hlt
    omega
  -- the pairs
  have pr : ∀ (j : Nat) (b : Addr), as[j]? = some b → ∃ (m : Int × Int) (t t' : Tok), ms[j]? = some m ∧ h'.get? b = some { cls := .type "tuple", data := .seq #[Value.int m.1 t, Value.int m.2 t'] } := by
    intro j b hj
    obtain ⟨en, he, hg⟩ := hG.pairs j b hj
    have hj2 : j < as.length := (List.getElem?_eq_some_iff.mp hj).1
    have hjm : j < ms.length := by omega
    obtain ⟨v, hv', f1, f2⟩ := L2.paired_get kv (i := j) (a := entI ms[j]) (by simp [hjm])
    obtain ⟨k1, k2⟩ := hent j (by omega) v.1 v.2 hv'
    have he2 : es[j]'(by omega) = en := by
      have : es[j]? = some en := he
      rw [Array.getElem?_eq_getElem (by omega)] at this
      exact Option.some.inj this
    rw [he2] at k1 k2
    rw [← f1] at k1
    obtain ⟨t, ht⟩ := relV_key (k := Sum.inl ms[j].1) (show keyIs (Sum.inl ms[j].1) en.key = true from k1)
    obtain ⟨t', ht'⟩ : ∃ t', v.2 = Value.int ms[j].2 t' := f2
    refine ⟨ms[j], t, t', by simp [hjm], ?_⟩
    rw [hg, ht, k2, ht']
  have hkey : ∀ (j : Nat) (b : Addr) (m : Int × Int), as[j]? = some b → ms[j]? = some m → kAt as ms (.ref b) = m := fun j b m h1 h2 => by
    unfold kAt backA
    rw [lookup_zip nd h1 h2]
    rfl
  have hob : (h'.push { cls := .type "list", data := .seq (as.map Value.ref).toArray }).get? h'.objs.size = some (seqObj "list" (as.map Value.ref).toArray 0) := Heap.get?_push_size _ rfl
  have ne0 : ∀ b o, h'.get? b = some o → b ≠ h'.objs.size := fun b o e => Nat.ne_of_lt (Heap.lt_size e)
  generalize hh2 : h'.push { cls := .type "list", data := .seq (as.map Value.ref).toArray } = h2 at hob ⊢
  have ka : ∀ b o, h'.get? b = some o → h2.get? b = some o := fun b o e => by rw [← hh2]; exact Heap.get?_push_of_some _ e
  have vat : ∀ v ∈ as.map Value.ref, ∃ (j : Nat) (b : Addr), v = .ref b ∧ as[j]? = some b := fun v hv' => by
    obtain ⟨b, hb, rfl⟩ := List.mem_map.mp hv'
    obtain ⟨j, hj⟩ := List.mem_iff_getElem?.mp hb
    exact ⟨j, b, rfl, hj⟩
  have vz : (as.map Value.ref).length ≤ sizeLine := by rw [List.length_map, lak]; exact hmz
  have sortable : 2 ≤ (as.map Value.ref).length → SrtO.SortableO X.prog X.w X.A.in1.in1 { s1 with heap := h2, toks := tk } h'.objs.size (as.map Value.ref) (fun v u => SrtO.lexB (kAt as ms v) (kAt as ms u)) := fun h2' => by
    refine SrtO.pairs_sortableO (by omega) (fun v hv' => ?_) fun o e => ?_
    · obtain ⟨j, b, rfl, hj⟩ := vat v hv'
      obtain ⟨m, t, t', hm', hg⟩ := pr j b hj
      rw [hkey j b m hj hm']
      exact ⟨b, _, t, t', 0, rfl, ka _ _ hg, rfl, rfl⟩
    · have e' : some o = some (seqObj "list" (as.map Value.ref).toArray 0) := e.symm.trans hob
      cases e'
      intro c
      exact absurd (Value.type.inj c) (by decide)
  refine wpAny_call_entry PyProof.Rows.slot_list_sort ⟨_, hob, rfl⟩ PyProof.Rows.entry_list_sort ?_ (PyProof.Rows.args_list_sort _)
  refine SrtO.list_sort_ord (s := { s1 with heap := h2, toks := tk }) (SrtO.swo_lex (kAt as ms)) hob vz sortable fun out o1 o2 => ?_
  refine ⟨.none, rfl, ?_⟩
  · obtain ⟨zs, pz, ez⟩ := perm_lift (fun z : Addr × Int × Int => Value.ref z.1) o2.perm (as.zip ms) (by
      rw [show (fun z : Addr × Int × Int => Value.ref z.1) = Value.ref ∘ Prod.fst from rfl, ← List.map_map, List.map_fst_zip (by omega)])
    subst ez
    have idx : ∀ z ∈ zs, ∃ j : Nat, as[j]? = some z.1 ∧ ms[j]? = some z.2 := by
      intro z' hz'
      obtain ⟨j, hj⟩ := List.mem_iff_getElem?.mp (pz.mem_iff.mp hz')
      exact ⟨j, List.getElem?_zip_eq_some.mp hj⟩
    have hperm : (zs.map (·.2)).Perm ms := by
      have e := pz.map (·.2)
      rw [show (as.zip ms).map (·.2) = ms from List.map_snd_zip (by omega)] at e
      exact e
    have hsort : (zs.map (·.2)).Pairwise (fun p q => p.1 ≤ q.1) := by
      have o1 : (zs.map fun z => Value.ref z.1).Pairwise fun x y => SrtO.lexB (kAt as ms y) (kAt as ms x) = false := o1
      rw [List.pairwise_map] at o1 ⊢
      refine List.Pairwise.imp_of_mem (fun {x y} hx hy h => ?_) o1
      obtain ⟨j, j1, j2⟩ := idx x hx
      obtain ⟨i, i1, i2⟩ := idx y hy
      have h := SrtO.lexB_no.mp h
      rw [hkey j _ _ j1 j2, hkey i _ _ i1 i2] at h
      omega
    show EP X pins σ Q (.ref h'.objs.size) { s1 with heap := sortedHeap h2 h'.objs.size (as.map Value.ref) (zs.map fun z => Value.ref z.1).toArray, toks := tk }
    have kF : ∀ b o, b ≠ h'.objs.size → h2.get? b = some o → (sortedHeap h2 h'.objs.size (as.map Value.ref) (zs.map fun z => Value.ref z.1).toArray).get? b = some o := fun b o hb e => (PyProof.Rows.sortedHeap_old hb (Heap.lt_size e)).trans e
    have kS : ∀ b o, s1.heap.get? b = some o → (sortedHeap h2 h'.objs.size (as.map Value.ref) (zs.map fun z => Value.ref z.1).toArray).get? b = some o := fun b o e => kF b o (ne0 _ _ (kb b o e)) (ka _ _ (kb b o e))
    obtain ⟨eF, heF⟩ := PyProof.Rows.sortedHeap_at (vs := as.map Value.ref) (out := (zs.map fun z => Value.ref z.1).toArray) hob
    generalize sortedHeap h2 h'.objs.size (as.map Value.ref) (zs.map fun z => Value.ref z.1).toArray = hF at kF kS heF ⊢
    have I3 : Inv X pins σ H1 { s1 with heap := hF, toks := tk } := I1.kept (t' := tk) kS
    have hn0 : H1 h'.objs.size = none := I1.hok.fresh (Nat.le_of_lt low)
    have hlen : (zs.map fun z => V.ref z.1).length ≤ sizeLine := by
      have e := hperm.length_eq
      rw [List.length_map] at e
      rw [List.length_map]
      omega
    have rv : Vals (zs.map fun z => V.ref z.1) (zs.map fun z => Value.ref z.1) := vals_maps (fun z : Addr × Int × Int => V.ref z.1) (fun z => Value.ref z.1) zs fun _ _ => rfl
    have I4 : Inv X pins σ (upd H1 h'.objs.size (.lst (zs.map fun z => V.ref z.1))) { s1 with heap := hF, toks := tk } :=
      I3.take (h' := hF) (t' := tk) (fun b ob _ e => e) (I1.fpOk (Nat.le_of_lt low) hn0) (show ObjOk X.prog X.w _ _ _ (.lst (zs.map fun z => V.ref z.1)) from ⟨hlen, zs.map (fun z => Value.ref z.1), eF, rv, heF⟩)
    obtain ⟨H2, I5, g, qt⟩ := L2.DX.takeT (P := fun b vs => ∃ (j : Nat) (m : Int × Int), as[j]? = some b ∧ ms[j]? = some m ∧ vs = [.int m.1, .int m.2]) I1 as _ I4 nd fun b hb => by
      obtain ⟨j, hj⟩ := List.mem_iff_getElem?.mp hb
      obtain ⟨m, t, t', hm', hg⟩ := pr j b hj
      have hbl : s1.heap.objs.size ≤ b := by
        have hG := hG.above b hb
        have e : (s1.heap.push { cls := .type "dict_items", data := .fields #[.ref d] }).objs.size = s1.heap.objs.size + 1 := Heap.size_push _ _
        have h3 : (s1.heap.push { cls := .type "dict_items", data := .fields #[.ref d] }).objs.size < b := hG
        omega
      refine ⟨hbl, ?_, [.int m.1, .int m.2], ⟨j, m, hj, hm', rfl⟩, fun H3 => ⟨(by rw [sizeLine_eq]; show 2 ≤ 16777216; omega), [Value.int m.1 t, Value.int m.2 t'], .cons ⟨t, rfl⟩ (.cons ⟨t', rfl⟩ .nil), ⟨_, kF _ _ (ne0 _ _ hg) (ka _ _ hg), rfl, 0, rfl⟩⟩⟩
      rw [upd_ne (ne0 _ _ hg)]
      exact I1.hok.fresh hbl
    have gr : ∀ b o, H1 b = some o → H2 b = some o := fun b o e => g b o (by rw [upd_ne (ne_of_none e hn0)]; exact e)
    refine ⟨.ref h'.objs.size, H2, I5, rfl, q H2 h'.objs.size zs gr hn0 hperm hsort (g _ _ upd_same) fun z' hz' => ?_⟩
    obtain ⟨i, i1, i2⟩ := idx z' hz'
    obtain ⟨vs', ⟨j, m, j1, j2, ev⟩, hH⟩ := qt z'.1 (List.mem_of_getElem? i1)
    have eij : i = j := (List.getElem?_inj (List.getElem?_eq_some_iff.mp i1).1 nd).mp (i1.trans j1.symm)
    subst eij
    have ee : m = z'.2 := Option.some.inj (j2.symm.trans i2)
    rw [ev, ee] at hH
    exact hH
end
/-! .. as a reading -/
abbrev pairI (p : Int × Int) : D := .tup [.int p.1, .int p.2]
abbrev entD (p : Int × Int) : Key × D := (Sum.inl p.1, D.int p.2)
def sortItK (Q : DK) : DK := fun d M => ∃ (a : Addr) (ms : List (Int × Int)), d = .ob a ∧ dkAt M a (ms.map entD) ∧ ∀ (ys : List (Int × Int)) l, ys.Perm ms → ys.Pairwise (fun p q => p.1 ≤ q.1) → M l = none → Q (.ob l) (mupd M l (.lst (ys.map pairI)))
def dSortIt (te : DE) : DE := fun env M Q E => te env M (sortItK Q) E
theorem s_sortIt {te env M Q E} : dSortIt te env M Q E = te env M (sortItK Q) E := id rfl
theorem RepKV.ofI {K : PySem.W.Frag} {H : Hp} : ∀ {ms : List (Int × Int)} {us : List (Key × V)}, RepKV K H (ms.map entD) us → us = ms.map entI
  | [], _, h => by unfold RepKV at h; exact h
  | m :: ms, _, h => by
    obtain ⟨u, t, rfl, q, z⟩ := h
    rw [RepKV.ofI z, rep_v q]
    rfl
section
variable {X : Cx} {W : WX} {e : Expr} {te : DE} {p apos cpos pos : Pos}
theorem xe_sortIt (hc : X.calm = true) (he : XE X W e te) (hg : Gl X "sorted") (hm : X.mg "sorted" = none) (hv : bootBuiltins "sorted" = some (.builtin "sorted")) (hbase : attributeBase e "items" X.env (eval e X.env) = eval e X.env := by rfl) (hline : (apos.endLine == cpos.line) = true := by rfl)
    (hs : starEach [.Call (.Attribute e "items" apos) [] [] cpos] X.env = (false, eval (.Call (.Attribute e "items" apos) [] [] cpos) X.env) :: starEach [] X.env := by rfl) :
    XE X W (.Call (.Name "sorted" p) [.Call (.Attribute e "items" apos) [] [] cpos] [] pos) (dSortIt te) := by
  refine ⟨fun env M Q Q' E E' hQ hE => he.mono _ _ _ _ _ _ (fun d M1 ⟨a, ms, h1, h2, h⟩ => ⟨a, ms, h1, h2, fun ys l z1 z2 z3 => hQ _ _ (h ys l z1 z2 z3)⟩) hE, PEw (pe_sortIt hc he.pe hg hm hv hbase hline hs) ?_⟩
  rintro σ H Q ⟨env, M, re, sm, h⟩
  refine stepE he.mono re sm h (fun d M1 u H1 e1 s1 re1 r1 q => ?_) fun _ _ _ z => z
  obtain ⟨a, ms, rfl, hd, q⟩ := q
  obtain ⟨us, q1, l1⟩ := hd.rep s1
  rw [l1.ofI] at q1
  refine ⟨a, ms, rep_v r1, q1, fun H' l ps gr hl hp hso hL hz => ?_⟩
  have ex : Ext X.K H1 H' := ⟨fun b xs g => by
    rcases g with (g | ⟨ob, g⟩) | g
    · exact .inl (.inl (gr _ _ g))
    · exact .inl (.inr ⟨ob, gr _ _ g⟩)
    · exact .inr g, fun b o v g => gr _ _ g⟩
  refine q (ps.map (·.2)) l hp hso (s1.free hl) _ H' (e1.trans ex) (fun b ob g => ?_) rep_of
  by_cases hb : b = l
  · subst hb
    rw [mupd_same] at g
    cases g
    refine ⟨_, hL, ?_⟩
    clear hL hp hso
    induction ps with
    | nil => exact .nil
    | cons z ps ih =>
      refine .cons ?_ (ih fun z' h' => hz z' (List.mem_cons_of_mem _ h'))
      unfold RepD
      exact ⟨z.1, _, rfl, SqT.of (hz z (List.mem_cons_self)), .cons rep_of (.cons rep_of .nil)⟩
  · rw [mupd_ne hb] at g
    obtain ⟨x, hx⟩ := (s1 b ob g).there
    exact (s1 b ob g).mono ex (by rw [gr _ _ hx, hx])
end
end PL

set_option maxHeartbeats 4000000
namespace K05
open PySem PySem.Spec PyProof.Rows L2 PL
def topS (i : Nat) : Stmt := PySem.Challenge.pw_cellchains_k05_pictures_that_hold.main.body.getD i (.Pass ⟨0, 0, 0, 0⟩)
abbrev s_is_name : Stmt := topS 6
theorem sc_is_name : FnScope ["datum", "sign"] ["datum"] (defScope s_is_name) := ⟨rfl, rfl, rfl, by decide +kernel, rfl, by decide +kernel, by decide +kernel⟩
abbrev s_is_tuple : Stmt := topS 8
theorem sc_is_tuple : FnScope ["datum", "many"] ["datum", "many"] (defScope s_is_tuple) := ⟨rfl, rfl, rfl, by decide +kernel, rfl, by decide +kernel, by decide +kernel⟩
abbrev s_is_place : Stmt := topS 9
theorem sc_is_place : FnScope ["datum"] ["datum"] (defScope s_is_place) := ⟨rfl, rfl, rfl, by decide +kernel, rfl, by decide +kernel, by decide +kernel⟩
abbrev s_is_pair : Stmt := topS 10
theorem sc_is_pair : FnScope ["datum"] ["datum"] (defScope s_is_pair) := ⟨rfl, rfl, rfl, by decide +kernel, rfl, by decide +kernel, by decide +kernel⟩
abbrev s_are_pairs : Stmt := topS 11
theorem sc_are_pairs : FnScope ["datum", "pair"] ["datum"] (defScope s_are_pairs) := ⟨rfl, rfl, rfl, by decide +kernel, rfl, by decide +kernel, by decide +kernel⟩
abbrev s_is_picture : Stmt := topS 12
theorem sc_is_picture : FnScope ["datum", "part"] ["datum"] (defScope s_is_picture) := ⟨rfl, rfl, rfl, by decide +kernel, rfl, by decide +kernel, by decide +kernel⟩
abbrev s_taken_cell : Stmt := topS 13
theorem sc_taken_cell : FnScope ["left", "begin", "end", "address"] ["left", "begin", "end"] (defScope s_taken_cell) := ⟨rfl, rfl, rfl, by decide +kernel, rfl, by decide +kernel, by decide +kernel⟩
abbrev s_taken_chain : Stmt := topS 14
theorem sc_taken_chain : FnScope ["left", "begin", "end"] ["left", "begin", "end"] (defScope s_taken_chain) := ⟨rfl, rfl, rfl, by decide +kernel, rfl, by decide +kernel, by decide +kernel⟩
abbrev s_holds : Stmt := topS 15
theorem sc_holds : FnScope ["picture", "stack", "heap", "places", "same", "unlike", "cells", "chains", "left", "one", "other"] ["picture", "stack", "heap"] (defScope s_holds) := ⟨rfl, rfl, rfl, by decide +kernel, rfl, by decide +kernel, by decide +kernel⟩
abbrev s__law_start : Stmt := topS 17
theorem sc__law_start : FnScope ["script"] ["script"] (defScope s__law_start) := ⟨rfl, rfl, rfl, by decide +kernel, rfl, by decide +kernel, by decide +kernel⟩
abbrev s__law_draw : Stmt := topS 18
theorem sc__law_draw : FnScope ["state", "most", "found", "cell", "mixed"] ["state", "most"] (defScope s__law_draw) := ⟨rfl, rfl, rfl, by decide +kernel, rfl, by decide +kernel, by decide +kernel⟩
abbrev s__law_one_of : Stmt := topS 19
theorem sc__law_one_of : FnScope ["state", "items"] ["state", "items"] (defScope s__law_one_of) := ⟨rfl, rfl, rfl, by decide +kernel, rfl, by decide +kernel, by decide +kernel⟩
abbrev s__law_place : Stmt := topS 20
theorem sc__law_place : FnScope ["state", "names"] ["state", "names"] (defScope s__law_place) := ⟨rfl, rfl, rfl, by decide +kernel, rfl, by decide +kernel, by decide +kernel⟩
abbrev s__law_pairs : Stmt := topS 21
theorem sc__law_pairs : FnScope ["state", "names", "many", "k"] ["state", "names", "many"] (defScope s__law_pairs) := ⟨rfl, rfl, rfl, by decide +kernel, rfl, by decide +kernel, by decide +kernel⟩
abbrev s__law_picture : Stmt := topS 22
theorem sc__law_picture : FnScope ["state", "names", "most", "same", "unlike", "edges", "cells"] ["state", "names", "most"] (defScope s__law_picture) := ⟨rfl, rfl, rfl, by decide +kernel, rfl, by decide +kernel, by decide +kernel⟩
abbrev s__law_walked : Stmt := topS 23
theorem sc__law_walked : FnScope ["left", "here", "end", "turn"] ["left", "here", "end"] (defScope s__law_walked) := ⟨rfl, rfl, rfl, by decide +kernel, rfl, by decide +kernel, by decide +kernel⟩
abbrev s__law_holds : Stmt := topS 24
theorem sc__law_holds : FnScope ["picture", "places", "heap", "one", "other", "left"] ["picture", "places", "heap"] (defScope s__law_holds) := ⟨rfl, rfl, rfl, by decide +kernel, rfl, by decide +kernel, by decide +kernel⟩
abbrev s__law_stacks : Stmt := topS 25
theorem sc__law_stacks : FnScope ["names", "most", "found", "name", "longer", "row", "address"] ["names", "most"] (defScope s__law_stacks) := ⟨rfl, rfl, rfl, by decide +kernel, rfl, by decide +kernel, by decide +kernel⟩
abbrev s__law_chained : Stmt := topS 26
theorem sc__law_chained : FnScope ["heaps", "begin", "end", "most", "found", "heap", "one", "inner", "two"] ["heaps", "begin", "end", "most"] (defScope s__law_chained) := ⟨rfl, rfl, rfl, by decide +kernel, rfl, by decide +kernel, by decide +kernel⟩
abbrev s__law_heaps : Stmt := topS 27
theorem sc__law_heaps : FnScope ["picture", "places", "most", "heaps", "one", "other", "longer", "heap", "more"] ["picture", "places", "most"] (defScope s__law_heaps) := ⟨rfl, rfl, rfl, by decide +kernel, rfl, by decide +kernel, by decide +kernel⟩
abbrev s__law_models : Stmt := topS 28
theorem sc__law_models : FnScope ["picture", "names", "most", "found", "row", "places", "k", "one", "other", "heap"] ["picture", "names", "most"] (defScope s__law_models) := ⟨rfl, rfl, rfl, by decide +kernel, rfl, by decide +kernel, by decide +kernel⟩
abbrev s__law_says : Stmt := topS 29
theorem sc__law_says : FnScope ["found", "due"] ["found", "due"] (defScope s__law_says) := ⟨rfl, rfl, rfl, by decide +kernel, rfl, by decide +kernel, by decide +kernel⟩
abbrev s__law_some_heap : Stmt := topS 30
theorem sc__law_some_heap : FnScope ["state", "heap", "found", "pick"] ["state", "heap"] (defScope s__law_some_heap) := ⟨rfl, rfl, rfl, by decide +kernel, rfl, by decide +kernel, by decide +kernel⟩
abbrev s__law_faults : Stmt := topS 31
theorem sc__law_faults : FnScope ["picture", "found", "pair"] ["picture"] (defScope s__law_faults) := ⟨rfl, rfl, rfl, by decide +kernel, rfl, by decide +kernel, by decide +kernel⟩
abbrev s_law : Stmt := topS 32
theorem sc_law : FnScope ["script", "state", "names", "turn", "picture", "worlds", "again", "places", "name", "heap", "stack", "cells", "odd"] ["script"] (defScope s_law) := ⟨rfl, rfl, rfl, by decide +kernel, rfl, by decide +kernel, by decide +kernel⟩
structure GF (K : PySem.W.Frag) (mg : Str → Option Value) : Prop where
  dict : mg "dict" = none
  any : mg "any" = none
  tuple : mg "tuple" = none
  range : mg "range" = none
  all : mg "all" = none
  isinstance : mg "isinstance" = none
  list : mg "list" = none
  len : mg "len" = none
  abs : mg "abs" = none
  int : mg "int" = none
  str : mg "str" = none
  sorted : mg "sorted" = none
  LETTERS : ∃ u, mg "LETTERS" = some u ∧ RelV (.str "abcdefghijklmnopqrstuvwxyz") u
  DIGITS : ∃ u, mg "DIGITS" = some u ∧ RelV (.str "0123456789") u
  MOST_SIGNS : ∃ u, mg "MOST_SIGNS" = some u ∧ RelV (.int 16) u
  RESERVED : ∃ a : Addr, mg "RESERVED" = some (.ref a) ∧ ∀ H : Hp, RepD K H (.tup ((["proc", "end", "local", "need", "ensure", "set", "next", "new", "free", "if", "else", "while", "call", "nil", "cell", "chain", "none"] : List Str).map D.str)) (.ref a)
  NIL : ∃ u, mg "NIL" = some u ∧ RelV (.str "nil") u
end K05

set_option maxHeartbeats 4000000
namespace K05
open PySem PySem.Spec PyProof.Rows L2 PL
variable {P : Program} {w : World} {K : PySem.W.Frag} {mg : Str → Option Value} {base : Heap} 
local macro_rules | `(tactic| simp! [$ls,*]) => `(tactic| simp only [to_nx, to_rt, to_bk, to_ct, to_ex, lp_nx, lp_rt, lp_bk, lp_ct, lp_ex, ret_nx, ret_rt, ret_ex, s_exK, s_bif1, s_bif0, s_optB, s_optE, s_nxD, s_ifK, s_asgN, s_asgT, s_asgL, b_nil, b_nm, b_tp, s_next, s_seq, s_drop, s_ret, s_retN, s_ifS, s_asg, s_brk, s_cont, s_put, s_put1, s_put2, s_put3, s_aug, s_augV, s_augK, s_augK2, s_bin, s_bin1, s_bin2, s_var, s_varK, s_C, s_cb, s_cbK, s_call, s_callK, s_m, s_m1, s_m2, s_nil, s_cons, s_cons1, s_cons2, s_tup, s_tupK, s_lst, s_lstK, s_truth, s_trK, s_tK, s_eK, s_cK, s_and, s_andK, s_or, s_orK, s_not, s_notK, s_ife, s_ifeK, s_andV, s_orV, s_andvK, s_orvK, s_andvK2, s_orvK2, s_notV, s_notvK, s_blK, s_neg, s_negK, s_sl, s_sl1, s_sl2, s_sl3, s_noPart, s_part, s_partK, s_rev, s_revK, s_for, s_forK, s_lc, s_lcK, s_yes, s_walk, s_walkT, s_walkS, s_walkA, s_walkL, s_walkR, s_rng1, s_rng2, s_rng1K, s_rng2K, s_callL, s_callLK, s_callLO, s_clK, s_raise, r_val, r_new, r_put, s_whK, s_lcY, s_lcT, s_lcE, s_cg, s_cgK, s_rng3, s_rng3K, s_lcB, s_lcS, wipeD, Pat.bind, seqOf, rg, s_dict0, s_sortSet, s_sortSetK, q_is_tuple, q_is_str, q_is_int, q_is_bool, q_is_list, q_isR, ofS_inj, String.reduceEq, q_eqI, q_neI, q_eqS, q_neS, decide_true, decide_false, Int.reduceEq, reduceCtorEq, i_NoneType_tuple, i_NoneType_str, i_NoneType_int, i_NoneType_bool, i_NoneType_list, i_bool_tuple, i_bool_str, i_bool_int, i_bool_bool, i_bool_list, i_int_tuple, i_int_str, i_int_int, i_int_bool, i_int_list, i_str_tuple, i_str_str, i_str_int, i_str_bool, i_str_list, i_tuple_tuple, i_tuple_str, i_tuple_int, i_tuple_bool, i_tuple_list, i_list_tuple, i_list_str, i_list_int, i_list_bool, i_list_list, i_dict_tuple, i_dict_str, i_dict_int, i_dict_bool, i_dict_list, tyN, startD, mupd_same, mupd_ne, ne_eq, not_false_eq_true, List.map_cons, List.map_nil, List.length_cons, List.length_nil, List.replicate_succ, List.replicate_zero, Nat.zero_add, Nat.reduceAdd, Nat.reduceSub, Int.cast_ofNat_Int, List.cons_append, List.nil_append, List.getElem?_cons_zero, List.getElem?_cons_succ, List.set_cons_zero, List.set_cons_succ, opIx, atI_cons, ixN, opPut, opAdd, opSub, opMul, opFdiv, opMod, opPow, opLt, opLe, opGt, opGe, opIs, opIsNot, D.isNon, truth, bLen, bAbs, bInt, bTuple, bList, isTy, mAppend, mExtend, mPop, Int.reduceLE, Int.reduceLT, Int.reduceToNat, Int.reduceNeg, Int.reduceNe, Option.bind_some, if_true, if_false, ite_true, ite_false, true_and, and_true, Bool.not_true, Bool.not_false, opIadd, Nat.reduceLT, Nat.reduceLeDiff, Int.ofNat_lt, s_dpNil, s_dpCons, s_dpK1, s_dpK2, s_dpK3, s_disp, s_dispK, s_optKV, kvOf, s_dc, s_dcK, s_keys, s_lockK, s_sortIt, mGet, mDPop, dgetR, bDictC, bTupC, opEqD, opNeD, eqDR, D.key, merge_one, optKV, id, $ls,*])
theorem fn_start (S : Src K mg "_law_start" s__law_start ["script"]) (G : GF K mg) : Fn P w K mg base 1 "_law_start" (sp_start K) [] := by
  refine S.fn mono_start fun f fd F => fn_ok F sc__law_start (fun ds M Q E h => by obtain ⟨a, m, rfl, _⟩ := h; rfl) ⟨_, fun cdv A outer s H E hr => have hu := hr.u200
    (xss_one (xs_ret (xe_lst (n := 4) (xa_cons (xe_callTyG bListS_mono c_listS (by rfl) G.list (by decide +kernel) (xa_cons (xe_var 0) xa_nil)) (xa_cons xe_int (xa_cons xe_int (xa_cons xe_int xa_nil))))))), fun ds M Q E h => ?_⟩
  obtain ⟨a, ns, rfl, hs, h⟩ := h
  simp! []
  refine ⟨a, ns, rfl, hs, fun p hp => ?_⟩
  simp! []
  intro q hq
  have hqp : q ≠ p := (mupd_none ▸ hq : _ ∧ _).1
  have hq' : M q = none := (mupd_none ▸ hq : _ ∧ _).2
  exact h _ _ _ hq' hp ⟨0, 0, 0, ns, by simp only [mupd_same], by rw [mupd_ne (Ne.symm hqp), mupd_same], by decide, by decide, Ne.symm hqp⟩ ((Keep.new hp).trans (Keep.new hq))
theorem fn_draw (S : Src K mg "_law_draw" s__law_draw ["state", "most"]) (G : GF K mg) : Fn P w K mg base 1 "_law_draw" sp_draw [] := by
  refine S.fn mono_draw fun f fd F => fn_ok F sc__law_draw (fun ds M Q E h => by obtain ⟨a, b, m, rfl, _⟩ := h; rfl) ⟨_, fun cdv A outer s H E hr => have hu := hr.u200
    (xss_cons (xs_put hu (xe_bin x_add (xe_ix hu (xe_var 0) xe_int) xe_int) (xe_var 0) xe_int)
 (xss_cons (xs_if (xt_cmp x_gt (xe_ix hu (xe_var 0) xe_int) xe_int (nomark _) bl_gt)
 (xss_cons (xs_set 2 sc__law_draw.nd (xe_bin x_mod (xe_callTy c_int (by rfl) G.int (by decide +kernel) (xa_cons (xe_ix hu (xe_var 0) xe_int) xa_nil)) (xe_var 1)))
 (xss_cons (xs_put hu (xe_bin x_fdiv (xe_ix hu (xe_var 0) xe_int) (xe_var 1)) (xe_var 0) xe_int)
 (xss_one (xs_ret (xe_var 2)))))
 xss_nil)
 (xss_cons (xs_set 3 sc__law_draw.nd xe_int)
 (xss_cons (xs_if (xt_cmp x_gt (xe_callB c_len (by rfl) G.len (by decide +kernel) (xa_cons (xe_ix hu (xe_var 0) xe_int) xa_nil)) xe_int (nomark _) bl_gt)
 (xss_one (xs_set 3 sc__law_draw.nd (xe_callB c_abs (by rfl) G.abs (by decide +kernel) (xa_cons (xe_ix hu (xe_ix hu (xe_var 0) xe_int) (xe_bin x_mod (xe_callTy c_int (by rfl) G.int (by decide +kernel) (xa_cons (xe_ix hu (xe_var 0) xe_int) xa_nil)) (xe_callB c_len (by rfl) G.len (by decide +kernel) (xa_cons (xe_ix hu (xe_var 0) xe_int) xa_nil)))) xa_nil))))
 xss_nil)
 (xss_cons (xs_put hu (xe_bin x_add (xe_ix hu (xe_var 0) xe_int) xe_int) (xe_var 0) xe_int)
 (xss_cons (xs_if (xt_cmp x_ge (xe_var 3) (xe_bin x_pow xe_int xe_int) (nomark _) bl_ge)
 (xss_cons (xs_put hu (xe_bin x_fdiv (xe_var 3) (xe_var 1)) (xe_var 0) xe_int)
 (xss_one (xs_ret (xe_bin x_mod (xe_callTy c_int (by rfl) G.int (by decide +kernel) (xa_cons (xe_var 3) xa_nil)) (xe_var 1)))))
 xss_nil)
 (xss_cons (xs_set 4 sc__law_draw.nd (xe_bin x_mod (xe_callTy c_int (by rfl) G.int (by decide +kernel) (xa_cons (xe_bin x_add (xe_bin x_mul (xe_bin x_add (xe_var 3) xe_int) xe_int) (xe_bin x_mul (xe_ix hu (xe_var 0) xe_int) xe_int)) xa_nil)) xe_int))
 (xss_cons (xs_set 4 sc__law_draw.nd (xe_bin x_mod (xe_callTy c_int (by rfl) G.int (by decide +kernel) (xa_cons (xe_bin x_add (xe_bin x_add (xe_bin x_mul (xe_var 4) xe_int) (xe_bin x_fdiv (xe_var 3) xe_int)) (xe_ix hu (xe_var 0) xe_int)) xa_nil)) xe_int))
 (xss_one (xs_ret (xe_bin x_mod (xe_bin x_fdiv (xe_var 4) xe_int) (xe_var 1)))))))))))), fun ds M Q E h => ?_⟩
  obtain ⟨a, b, m, rfl, ⟨p, q, c, ns, ha, hb, hp, hq, hne⟩, h0, h1, h⟩ := h
  have fin : ∀ (r : Int) (M' : Mem) (p q : Int), 0 ≤ r → r < m → 0 ≤ p → 0 ≤ q → M' a = some (.lst [.ob b, .int p, .int q, .int (c + 1)]) → (∀ b, b ≠ a → M' b = M b) → Q (.int r) M' := fun r M' p q r0 r1 p0 q0 e k =>
    h r M' r0 r1 ⟨p, q, c + 1, ns, e, by rw [k b hne]; exact hb, p0, q0, hne⟩ fun b' o e' n => by rw [k b' (by simpa using n)]; exact e'
  simp! [ha]
  refine bif_dec (fun hq0 => ?_) fun hq0 => ?_
  · simp! [ha, h0, h1]
    exact fin _ _ p (q / m) (Int.emod_nonneg _ (by omega)) (Int.emod_lt_of_pos _ h0) hp (Int.ediv_nonneg hq (by omega)) (by simp only [mupd_same]) fun b' hb' => by simp only [mupd_ne hb']
  · simp! [ha, hb, mupd_ne hne]
    refine bif_midD (fun e M' => ∃ cell : Int, e = [some (D.ob a), some (D.int m), none, some (D.int cell), none] ∧ M' = mupd M a (.lst [.ob b, .int p, .int q, .int (c + 1)]) ∧ 0 ≤ cell) (fun hl N hN => ?_) (fun hl N hN => ?_) ?_
    · rw [List.length_map] at hl
      simp! [ha, hb, mupd_ne hne, List.length_map]
      refine ⟨hl, ?_⟩
      have h2 := Int.emod_nonneg p (b := (ns.length : Int)) (by omega)
      have h3 := Int.emod_lt_of_pos p (b := (ns.length : Int)) hl
      have hx : atI (ns.map D.int) (p % (ns.length : Int)) = some (D.int (ns[(p % (ns.length : Int)).toNat]'(by omega))) := by rw [atI_map', atI_get h2 h3]; rfl
      simp! [hx]
      exact hN _ _ ⟨_, rfl, rfl, by split <;> omega⟩
    · simp! []
      exact hN _ _ ⟨_, rfl, rfl, by omega⟩
    · rintro e M' ⟨cell, rfl, rfl, hc⟩
      simp! [ha, hb, mupd_ne hne]
      refine ⟨by decide, bif_dec (fun hl => ?_) fun hl => ?_⟩
      · simp! [ha, h0, h1]
        exact fin _ _ (p + 1) (cell / m) (Int.emod_nonneg _ (by omega)) (Int.emod_lt_of_pos _ h0) (by omega) (Int.ediv_nonneg hc (by omega)) (by simp only [mupd_same]) fun b' hb' => by simp only [mupd_ne hb']
      · simp! [ha, h0]
        exact ⟨IntMulOk.of_right (intBits_le_64 (by decide) (by decide)), IntMulOk.of_right (intBits_le_64 (by decide) (by decide)), IntMulOk.of_right (intBits_le_64 (by decide) (by decide)),
          fin _ _ (p + 1) q (Int.emod_nonneg _ (by omega)) (Int.emod_lt_of_pos _ h0) (by omega) hq (by simp only [mupd_same]) fun b' hb' => by simp only [mupd_ne hb']⟩
theorem fn_one_of (S : Src K mg "_law_one_of" s__law_one_of ["state", "items"]) (G : GF K mg) (F__law_draw : Fn P w K mg base 1 "_law_draw" sp_draw []) : Fn P w K mg base 2 "_law_one_of" sp_one_of [] := by
  refine S.fn mono_one_of fun f fd F => fn_ok F sc__law_one_of (fun ds M Q E h => by obtain ⟨a, b, m, es, rfl, _⟩ := h; rfl) ⟨_, fun cdv A outer s H E hr => have hu := hr.u200
    (xss_one (xs_ret (xe_ix hu (xe_var 1) (xe_call F__law_draw (hr.mono (by first | decide | omega)) bx_takes (by rfl) (xa_cons (xe_var 0) (xa_cons (xe_callB c_len (by rfl) G.len (by decide +kernel) (xa_cons (xe_var 1) xa_nil)) xa_nil)))))), fun ds M Q E h => ?_⟩
  obtain ⟨a, b, d, es, rfl, hs, hd, hn, h0, h1, h⟩ := h
  have hz : es.length ≤ sizeLine := by rw [sizeLine_eq]; omega
  have hp := List.length_pos_iff.mpr h0
  simp! []
  refine len_seqI hd hz ?_
  simp! []
  refine ⟨a, b, _, rfl, hs, by omega, by omega, fun r M' r0 r1 hs' k => ?_⟩
  simp! []
  obtain ⟨x, hx, hm⟩ := atI_some (xs := es) r0 r1
  exact ix_seqI (seqI_keep hd k hn) hz hx (h x M' hm hs' k)
end K05

namespace K05
open PySem PySem.Spec PyProof.Rows L2 PL
/-! ### cells: address -> address -/
abbrev Cells := List (Int × Int)
def dropI (ms : Cells) (k : Int) : Cells := ms.filter fun p => decide (p.1 ≠ k)
def GoodH (ms : Cells) : Prop := (ms.map (·.1)).Nodup ∧ ms.length ≤ 20 ∧ ∀ p ∈ ms, 0 ≤ p.2
theorem GoodH.nil : GoodH [] := ⟨List.nodup_nil, by decide, fun p h => by cases h⟩
theorem dropI_len (ms : Cells) (k : Int) : (dropI ms k).length ≤ ms.length := List.length_filter_le _ _
theorem nodup_filter {ms : Cells} {b : Int × Int → Bool} (h : (ms.map (·.1)).Nodup) : ((ms.filter b).map (·.1)).Nodup := List.Nodup.sublist (List.Sublist.map _ List.filter_sublist) h
theorem GoodH.drop {ms : Cells} (h : GoodH ms) (k : Int) : GoodH (dropI ms k) := ⟨nodup_filter h.1, Nat.le_trans (dropI_len ms k) h.2.1, fun p hp => h.2.2 p (List.mem_filter.mp hp).1⟩
theorem look_ent (ms : Cells) (k : Int) : look (ms.map entD) (.inl k) = (look ms k).map D.int := by
  induction ms with
  | nil => rfl
  | cons p r ih =>
    simp only [List.map_cons, look, Sum.inl.injEq]
    split
    · rfl
    · exact ih
theorem dropD_ent (ms : Cells) (k : Int) : dropD (ms.map entD) (.inl k) = (dropI ms k).map entD := by
  unfold dropD dropI
  rw [List.filter_map]
  congr 1
  apply List.filter_congr
  intro p _
  simp
theorem look_mem {ms : Cells} {k v : Int} (h : look ms k = some v) : (k, v) ∈ ms := by
  induction ms with
  | nil => simp [look] at h
  | cons p r ih =>
    unfold look at h
    split at h
    · rename_i e
      cases h
      exact e ▸ List.mem_cons_self
    · exact List.mem_cons_of_mem _ (ih h)
theorem look_of_mem {ms : Cells} (nd : (ms.map (·.1)).Nodup) {p : Int × Int} (h : p ∈ ms) : look ms p.1 = some p.2 := by
  induction ms with
  | nil => cases h
  | cons q r ih =>
    rw [List.map_cons, List.nodup_cons] at nd
    rcases List.mem_cons.mp h with e | e
    · subst e; simp [look]
    · have : q.1 ≠ p.1 := fun z => nd.1 (z ▸ List.mem_map.mpr ⟨p, e, rfl⟩)
      simp only [look, if_neg this]
      exact ih nd.2 e
theorem dropI_lt {ms : Cells} {k v : Int} (h : look ms k = some v) : (dropI ms k).length < ms.length := by
  have : (k, v) ∈ ms := look_mem h
  unfold dropI
  exact List.length_filter_lt_length_iff_exists.mpr ⟨_, this, by simp⟩
theorem putD_fresh {kvs : List (Key × D)} {k : Key} {d : D} (h : k ∉ kvs.map (·.1)) : putD kvs k d = kvs ++ [(k, d)] := by
  unfold putD
  rw [if_neg]
  rw [List.any_eq_true]
  rintro ⟨kv, h1, h2⟩
  exact h (List.mem_map.mpr ⟨kv, h1, of_decide_eq_true h2⟩)
theorem merge_nodup : ∀ (xs acc : List (Key × D)), ((acc ++ xs).map (·.1)).Nodup → mergeD acc xs = acc ++ xs
  | [], acc, _ => by simp [mergeD]
  | p :: r, acc, h => by
    have e : putD acc p.1 p.2 = acc ++ [p] := putD_fresh fun hm => by
      rw [List.map_append, List.nodup_append] at h
      exact h.2.2 p.1 hm p.1 (by simp) rfl
    show mergeD (putD acc p.1 p.2) r = _
    rw [e, merge_nodup r (acc ++ [p]) (by simpa using h)]
    simp
theorem ent_nodup {ms : Cells} (h : (ms.map (·.1)).Nodup) : ((ms.map entD).map (·.1)).Nodup := by
  rw [List.map_map]
  rw [List.Nodup, List.pairwise_map] at h ⊢
  exact List.Pairwise.imp (fun {a b} h z => h (Sum.inl.inj z)) h
theorem merge_ent {ms : Cells} (h : (ms.map (·.1)).Nodup) : mergeD [] (ms.map entD) = ms.map entD := by
  rw [merge_nodup _ [] (by simpa using ent_nodup h)]
  rfl
def putI (ms : Cells) (k v : Int) : Cells := if (ms.any fun p => decide (p.1 = k)) = true then ms.map (fun p => if p.1 = k then (p.1, v) else p) else ms ++ [(k, v)]
theorem putD_ent (ms : Cells) (k v : Int) : putD (ms.map entD) (.inl k) (.int v) = (putI ms k v).map entD := by
  unfold putD putI
  have e : ((ms.map entD).any fun kv => decide (kv.1 = Sum.inl k)) = ms.any fun p => decide (p.1 = k) := by
    rw [List.any_map]
    congr 1
    funext p
    simp
  rw [e]
  split
  · rw [List.map_map, List.map_map]
    congr 1
    funext p
    simp only [Function.comp, entD, Sum.inl.injEq]
    split <;> rfl
  · simp
theorem GoodH.put {ms : Cells} (h : GoodH ms) {k v : Int} (hl : ms.length < 20) (hv : 0 ≤ v) : GoodH (putI ms k v) := by
  unfold putI
  split
  · refine ⟨?_, by rw [List.length_map]; exact h.2.1, fun p hp => ?_⟩
    · rw [List.map_map]
      have : ((fun x : Int × Int => x.1) ∘ fun p => if p.1 = k then (p.1, v) else p) = (·.1) := by
        funext p
        simp only [Function.comp]
        split <;> rfl
      rw [this]
      exact h.1
    · obtain ⟨q, hq, e⟩ := List.mem_map.mp hp
      split at e
      · rw [← e]; exact hv
      · rw [← e]; exact h.2.2 q hq
  · rename_i hn
    refine ⟨?_, by rw [List.length_append]; simp; omega, fun p hp => ?_⟩
    · rw [List.map_append, List.nodup_append]
      refine ⟨h.1, by simp, fun a ha b hb e => hn ?_⟩
      obtain ⟨q, hq, e2⟩ := List.mem_map.mp ha
      rw [List.any_eq_true]
      refine ⟨q, hq, ?_⟩
      simp at hb
      rw [decide_eq_true_eq, e2, e, hb]
    · rcases List.mem_append.mp hp with h1 | h1
      · exact h.2.2 p h1
      · rw [List.mem_singleton.mp h1]; exact hv
theorem putI_len (ms : Cells) (k v : Int) : (putI ms k v).length ≤ ms.length + 1 := by
  unfold putI
  split <;> simp
/-! ### what pictures ask -/
abbrev Prs := List (Str × Str)
structure Pic where
  same : Prs
  unlike : Prs
  cells : Prs
  chains : Prs
abbrev prsD (ps : Prs) : D := .tup (ps.map fun p => .tup [.str p.1, .str p.2])
abbrev Pic.enc (p : Pic) : D := .tup [prsD p.same, prsD p.unlike, prsD p.cells, prsD p.chains]
def takeCell (ms : Cells) (b e : Int) : Option Cells := if (look ms b).getD (-1) ≠ e then none else some (dropI ms b)
def chain : Nat → Cells → Int → Int → Option Cells
  | 0, ms, b, e => if b = e then some ms else none
  | n + 1, ms, b, e => if b = e then some ms else match look ms b with
    | some v => chain n (dropI ms b) v e
    | none => none
theorem chain_more : ∀ (n m : Nat) (ms : Cells) (b e : Int), ms.length ≤ n → n ≤ m → chain m ms b e = chain n ms b e
  | 0, 0, _, _, _, _, _ => rfl
  | 0, m + 1, ms, b, e, h, _ => by
    have : ms = [] := List.eq_nil_of_length_eq_zero (by omega)
    subst this
    simp [chain, look]
  | n + 1, 0, _, _, _, _, h => by omega
  | n + 1, m + 1, ms, b, e, h, h2 => by
    simp only [chain]
    split
    · rfl
    · split
      · rename_i v hv
        exact chain_more n m _ _ _ (by have := dropI_lt hv; omega) (by omega)
      · rfl
def takeChain (ms : Cells) (b e : Int) : Option Cells := chain ms.length ms b e
theorem takeChain_len {n : Nat} : ∀ {ms ms' : Cells} {b e : Int}, chain n ms b e = some ms' → ms'.length ≤ ms.length := by
  induction n with
  | zero =>
    intro ms ms' b e h
    unfold chain at h
    split at h
    · cases h; exact Nat.le_refl _
    · cases h
  | succ n ih =>
    intro ms ms' b e h
    unfold chain at h
    split at h
    · cases h; exact Nat.le_refl _
    · split at h
      · exact Nat.le_trans (ih h) (dropI_len _ _)
      · cases h
theorem GoodH.chain {n : Nat} : ∀ {ms ms' : Cells} {b e : Int}, GoodH ms → K05.chain n ms b e = some ms' → GoodH ms' := by
  induction n with
  | zero =>
    intro ms ms' b e g h
    unfold K05.chain at h
    split at h
    · cases h; exact g
    · cases h
  | succ n ih =>
    intro ms ms' b e g h
    unfold K05.chain at h
    split at h
    · cases h; exact g
    · split at h
      · exact ih (g.drop _) h
      · cases h
def allCells (f : Str → Int) : Prs → Cells → Option Cells
  | [], ms => some ms
  | p :: r, ms => match takeCell ms (f p.1) (f p.2) with
    | some m => allCells f r m
    | none => none
def allChains (f : Str → Int) : Prs → Cells → Option Cells
  | [], ms => some ms
  | p :: r, ms => match takeChain ms (f p.1) (f p.2) with
    | some m => allChains f r m
    | none => none
def hold (f : Str → Int) (p : Pic) (ms : Cells) : Bool :=
  (p.same.all fun q => decide (f q.1 = f q.2)) && !(p.unlike.any fun q => decide (f q.1 = f q.2)) && match allCells f p.cells ms with
  | some m => match allChains f p.chains m with
    | some m2 => m2.isEmpty
    | none => false
  | none => false
/-- a thing holds cells -/
def HAt (M : Mem) (a : Addr) (ms : Cells) : Prop := M a = some (.dk (ms.map entD))
/-- a dict tells where names lie -/
def PlAt (M : Mem) (a : Addr) (f : Str → Int) (S : List Str) : Prop := ∃ kvs, M a = some (.dk kvs) ∧ ∀ x ∈ S, look kvs (.inr x) = some (.int (f x))
theorem PlAt.keep {M M' : Mem} {a : Addr} {f : Str → Int} {S : List Str} {T : List Addr} (h : PlAt M a f S) (k : Keep T M M') (ha : a ∉ T := by simp) : PlAt M' a f S := by
  obtain ⟨kvs, h1, h2⟩ := h
  exact ⟨kvs, k _ _ h1 ha, h2⟩
def Names (S : List Str) (ps : Prs) : Prop := ∀ p ∈ ps, p.1 ∈ S ∧ p.2 ∈ S
structure Pic.In (S : List Str) (p : Pic) : Prop where
  same : Names S p.same
  unlike : Names S p.unlike
  cells : Names S p.cells
  chains : Names S p.chains
end K05

set_option maxHeartbeats 4000000
namespace K05
open PySem PySem.Spec PyProof.Rows L2 PL
variable {P : Program} {w : World} {K : PySem.W.Frag} {mg : Str → Option Value} {base : Heap}
local macro_rules | `(tactic| simp! [$ls,*]) => `(tactic| simp only [to_nx, to_rt, to_bk, to_ct, to_ex, lp_nx, lp_rt, lp_bk, lp_ct, lp_ex, ret_nx, ret_rt, ret_ex, s_exK, s_bif1, s_bif0, s_optB, s_optE, s_nxD, s_ifK, s_asgN, s_asgT, s_asgL, b_nil, b_nm, b_tp, s_next, s_seq, s_drop, s_ret, s_retN, s_ifS, s_asg, s_brk, s_cont, s_put, s_put1, s_put2, s_put3, s_aug, s_augV, s_augK, s_augK2, s_bin, s_bin1, s_bin2, s_var, s_varK, s_C, s_cb, s_cbK, s_call, s_callK, s_m, s_m1, s_m2, s_nil, s_cons, s_cons1, s_cons2, s_tup, s_tupK, s_lst, s_lstK, s_truth, s_trK, s_tK, s_eK, s_cK, s_and, s_andK, s_or, s_orK, s_not, s_notK, s_ife, s_ifeK, s_andV, s_orV, s_andvK, s_orvK, s_andvK2, s_orvK2, s_notV, s_notvK, s_blK, s_neg, s_negK, s_sl, s_sl1, s_sl2, s_sl3, s_noPart, s_part, s_partK, s_rev, s_revK, s_for, s_forK, s_lc, s_lcK, s_yes, s_walk, s_walkT, s_walkS, s_walkA, s_walkL, s_walkR, s_rng1, s_rng2, s_rng1K, s_rng2K, s_callL, s_callLK, s_callLO, s_clK, s_raise, r_val, r_new, r_put, s_whK, s_lcY, s_lcT, s_lcE, s_cg, s_cgK, s_rng3, s_rng3K, s_lcB, s_lcS, wipeD, Pat.bind, seqOf, rg, s_dict0, s_sortSet, s_sortSetK, q_is_tuple, q_is_str, q_is_int, q_is_bool, q_is_list, q_isR, ofS_inj, String.reduceEq, q_eqI, q_neI, q_eqS, q_neS, decide_true, decide_false, Int.reduceEq, reduceCtorEq, i_NoneType_tuple, i_NoneType_str, i_NoneType_int, i_NoneType_bool, i_NoneType_list, i_bool_tuple, i_bool_str, i_bool_int, i_bool_bool, i_bool_list, i_int_tuple, i_int_str, i_int_int, i_int_bool, i_int_list, i_str_tuple, i_str_str, i_str_int, i_str_bool, i_str_list, i_tuple_tuple, i_tuple_str, i_tuple_int, i_tuple_bool, i_tuple_list, i_list_tuple, i_list_str, i_list_int, i_list_bool, i_list_list, i_dict_tuple, i_dict_str, i_dict_int, i_dict_bool, i_dict_list, tyN, startD, mupd_same, mupd_ne, ne_eq, not_false_eq_true, List.map_cons, List.map_nil, List.length_cons, List.length_nil, List.replicate_succ, List.replicate_zero, Nat.zero_add, Nat.reduceAdd, Nat.reduceSub, Int.cast_ofNat_Int, List.cons_append, List.nil_append, List.getElem?_cons_zero, List.getElem?_cons_succ, List.set_cons_zero, List.set_cons_succ, opIx, atI_cons, ixN, opPut, opAdd, opSub, opMul, opFdiv, opMod, opPow, opLt, opLe, opGt, opGe, opIs, opIsNot, D.isNon, truth, bLen, bAbs, bInt, bTuple, bList, isTy, mAppend, mExtend, mPop, Int.reduceLE, Int.reduceLT, Int.reduceToNat, Int.reduceNeg, Int.reduceNe, Option.bind_some, if_true, if_false, ite_true, ite_false, true_and, and_true, Bool.not_true, Bool.not_false, opIadd, Nat.reduceLT, Nat.reduceLeDiff, Int.ofNat_lt, s_dpNil, s_dpCons, s_dpK1, s_dpK2, s_dpK3, s_disp, s_dispK, s_optKV, kvOf, s_dc, s_dcK, s_keys, s_lockK, s_sortIt, mGet, mDPop, dgetR, bDictC, bTupC, opEqD, opNeD, eqDR, D.key, merge_one, optKV, id, opEqL, opNeL, eqLR, $ls,*])
def resD (M : Mem) : Option Cells → D → Prop
  | none, d => d = .non
  | some ms, d => ∃ r, d = .ob r ∧ HAt M r ms
/-- the cell is taken -/
def sp_tcell : DSp := fun ds M Q E => ∃ (a : Addr) (b e : Int) (ms : Cells), ds = [.ob a, .int b, .int e] ∧ HAt M a ms ∧ GoodH ms ∧ ∀ d M', resD M' (takeCell ms b e) d → Keep [] M M' → Q d M'
theorem mono_tcell : MonoSp sp_tcell := by
  rintro ds M Q Q' E E' hQ hE ⟨a, b, e, ms, h1, h2, h3, h⟩
  exact ⟨a, b, e, ms, h1, h2, h3, fun d M' z1 z2 => hQ _ _ (h d M' z1 z2)⟩
theorem fn_tcell (S0 : Src K mg "taken_cell" s_taken_cell ["left", "begin", "end"]) (G : GF K mg) : Fn P w K mg base 1 "taken_cell" sp_tcell [] := by
  refine S0.fn mono_tcell fun f fd F => fn_ok F sc_taken_cell (fun ds M Q E h => by obtain ⟨a, b, e, ms, rfl, _⟩ := h; rfl) ⟨_, fun cdv A outer s H E hr => have hu := hr.u200
    (xss_cons (xs_if (xt_cmp (x_ne hu) (xe_bm PySem.F.plainAttrs_dict PySem.F.slot_dict_get PySem.F.type_dict_get (m_get hu) (xe_var 0) (xa_cons (xe_var 1) (xa_cons (xe_neg xe_int) xa_nil))) (xe_var 2) (nomark _) bl_ne)
 (xss_one (xs_ret xe_non))
 xss_nil)
 (xss_one (xs_ret (xe_lock (xe_dc (own := [("address", 3)]) (p := .nm 3) rfl sc_taken_cell.nd (xi_keys (xe_var 0)) (blkOk_by (by show blkC ["left", "begin", "end", "address"] (defScope s_taken_cell) _ _ = true; decide +kernel)) (fun _ _ _ _ _ => (xg_name 3 sc_taken_cell.nd)) (fun _ _ _ _ _ => (xts_one (xt_cmp (x_ne hu) (xe_var 3) (xe_var 1) (nomark _) bl_ne))) (fun _ _ _ _ _ => (xe_var 3)) (fun _ _ _ _ _ => (xe_ix hu (xe_var 0) (xe_var 3)))))))), fun ds M Q E h => ?_⟩
  obtain ⟨a, b, e, ms, rfl, ha, hg, h⟩ := h
  have ha' : M a = some (.dk (ms.map entD)) := ha
  simp! [ha', look_ent]
  have eg : ((look ms b).map D.int).getD (D.int (-1)) = D.int ((look ms b).getD (-1)) := by cases look ms b <;> rfl
  rw [eg]
  simp! []
  refine bif_of (fun z => ?_) fun z => ?_
  · have z : ¬ (look ms b).getD (-1) = e := by simpa using z
    simp! []
    refine h _ _ ?_ Keep.refl
    unfold takeCell
    rw [if_pos z]
    rfl
  · have z : (look ms b).getD (-1) = e := by simpa using z
    simp! []
    refine ⟨a, _, ha', ?_⟩
    simp! []
    refine ⟨a, _, rfl, mupd_same, ?_⟩
    simp! []
    intro r hr
    rw [show ((ms.map entD).map fun kv => keyD kv.1) = ms.map fun p => D.int p.1 by rw [List.map_map]; rfl]
    refine dc_pure (fun p : Int × Int => D.int p.1) (fun p => Sum.inl p.1) (fun p => D.int p.1) (fun p => D.int p.2) (fun p => decide (p.1 ≠ b)) ms (fun _ _ => rfl) hr (fun _ _ => trivial) (by have := hg.2.1; rw [sizeLine_eq]; omega) (fun p hp M1 N sk k hy hn => ?_) fun M1 k e1 => ?_
    · have ka := k _ _ (mupd_same : mupd M a (.rdk (ms.map entD)) a = _) (by simp)
      simp! [s_dcS, s_dcB, s_dcY, s_dcZ]
      refine bif_of (fun z2 => ?_) fun z2 => ?_
      · simp! [s_dcS, s_dcB, s_dcY, s_dcZ, ka, look_ent, look_of_mem hg.1 hp, Option.map_some]
        exact hy (by simpa using z2) _ Keep.refl
      · exact hn (by simpa using z2) _ Keep.refl
    · have ka := k _ _ (mupd_same : mupd M a (.rdk (ms.map entD)) a = _) (by simp)
      simp! [ka]
      have ra : r ≠ a := ne_new' (mupd_same : mupd M a (.rdk (ms.map entD)) a = _) hr
      refine h _ _ ?_ ?_
      · unfold takeCell
        rw [if_neg (by simpa using z)]
        refine ⟨r, rfl, ?_⟩
        show mupd M1 a _ r = _
        rw [mupd_ne ra, e1]
        have e2 : ((ms.filter fun p => decide (p.1 ≠ b)).map fun x => ((Sum.inl x.1 : Key), D.int x.2)) = (dropI ms b).map entD := rfl
        rw [e2, merge_ent (hg.drop b).1]
      · intro c o hc _
        by_cases hca : c = a
        · subst hca
          rw [ha'] at hc
          cases hc
          exact mupd_same
        · rw [mupd_ne hca]
          exact k _ _ (by rw [mupd_ne hca]; exact hc) (by simp)
def sp_tchain : DSp := fun ds M Q E => ∃ (a : Addr) (b e : Int) (ms : Cells), ds = [.ob a, .int b, .int e] ∧ HAt M a ms ∧ GoodH ms ∧ ∀ d M', resD M' (takeChain ms b e) d → Keep [] M M' → Q d M'
theorem mono_tchain : MonoSp sp_tchain := by
  rintro ds M Q Q' E E' hQ hE ⟨a, b, e, ms, h1, h2, h3, h⟩
  exact ⟨a, b, e, ms, h1, h2, h3, fun d M' z1 z2 => hQ _ _ (h d M' z1 z2)⟩
theorem fn_tchain (S0 : Src K mg "taken_chain" s_taken_chain ["left", "begin", "end"]) (G : GF K mg) : Fn P w K mg base 1 "taken_chain" sp_tchain [] := by
  refine S0.fn mono_tchain fun f fd F => fn_ok F sc_taken_chain (fun ds M Q E h => by obtain ⟨a, b, e, ms, rfl, _⟩ := h; rfl) ⟨_, fun cdv A outer s H E hr => have hu := hr.u200
    (xss_cons (xs_set 0 sc_taken_chain.nd (xe_callTy (c_dictC rfl) (by rfl) G.dict (by decide +kernel) (xa_cons (xe_var 0) xa_nil)))
 (xss_cons (xs_while bx_passes (xt_cmp (x_ne hu) (xe_var 1) (xe_var 2) (nomark _) bl_ne)
 (xss_cons (xs_if (xt_cmp (x_notin hu) (xe_var 1) (xe_var 0) rfl bl_notin)
 (xss_one (xs_ret xe_non))
 xss_nil)
 (xss_one (xs_set 1 sc_taken_chain.nd (xe_bm PySem.F.plainAttrs_dict PySem.F.slot_dict_pop PySem.F.type_dict_pop m_dpop (xe_var 0) (xa_cons (xe_var 1) xa_nil))))))
 (xss_one (xs_ret (xe_var 0))))), fun ds M Q E h => ?_⟩
  obtain ⟨a, b, e, ms, rfl, ha, hg, h⟩ := h
  have ha' : M a = some (.dk (ms.map entD)) := ha
  simp! [ha']
  intro r hr
  refine while_inv (n := ms.length) (fun n env M' => ∃ (ms' : Cells) (b' : Int), n = ms'.length ∧ env = [some (.ob r), some (.int b'), some (.int e)] ∧ HAt M' r ms' ∧ GoodH ms' ∧ Keep [] M M' ∧ takeChain ms b e = chain ms'.length ms' b' e) ?_ ⟨ms, b, rfl, rfl, mupd_same, hg, Keep.new hr, rfl⟩
  rintro n env M1 N ⟨ms', b', rfl, rfl, hr1, hg1, k1, e1⟩ hN
  have hr1' : M1 r = some (.dk (ms'.map entD)) := hr1
  simp! [hr1', look_ent]
  refine bif_of (fun z => ?_) fun z => ?_
  · have z : ¬ b' = e := by simpa using z
    simp! [notIn_dkI hr1', look_ent, Option.isSome_map]
    refine bif_of (fun z2 => ?_) fun z2 => ?_
    · have z2 : look ms' b' = none := by simpa using z2
      simp! []
      refine h _ _ ?_ k1
      rw [e1]
      have : chain ms'.length ms' b' e = none := by
        cases ms'.length <;> simp [chain, z, z2]
      rw [this]
      rfl
    · obtain ⟨v, z2⟩ : ∃ v, look ms' b' = some v := Option.isSome_iff_exists.mp (by simpa using z2)
      have lt := dropI_lt z2
      simp! [hr1', look_ent, z2, Option.map_some, dropD_ent]
      refine hN (dropI ms' b').length _ _ lt ⟨dropI ms' b', v, rfl, rfl, mupd_same, hg1.drop b', Keep.putN k1 hr, ?_⟩
      rw [e1]
      obtain ⟨n, en⟩ : ∃ n, ms'.length = n + 1 := ⟨ms'.length - 1, by omega⟩
      rw [en]
      simp only [chain, if_neg z, z2]
      exact chain_more _ _ _ _ _ (Nat.le_refl _) (by omega)
  · have z : b' = e := by simpa using z
    simp! []
    refine h _ _ ?_ k1
    rw [e1]
    have : chain ms'.length ms' b' e = some ms' := by
      cases ms'.length <;> simp [chain, z]
    rw [this]
    exact ⟨r, rfl, hr1⟩
end K05

set_option maxHeartbeats 4000000
namespace K05
open PySem PySem.Spec PyProof.Rows L2 PL
variable {P : Program} {w : World} {K : PySem.W.Frag} {mg : Str → Option Value} {base : Heap}
local macro_rules | `(tactic| simp! [$ls,*]) => `(tactic| simp only [to_nx, to_rt, to_bk, to_ct, to_ex, lp_nx, lp_rt, lp_bk, lp_ct, lp_ex, ret_nx, ret_rt, ret_ex, s_exK, s_bif1, s_bif0, s_optB, s_optE, s_nxD, s_ifK, s_asgN, s_asgT, s_asgL, b_nil, b_nm, b_tp, s_next, s_seq, s_drop, s_ret, s_retN, s_ifS, s_asg, s_brk, s_cont, s_put, s_put1, s_put2, s_put3, s_aug, s_augV, s_augK, s_augK2, s_bin, s_bin1, s_bin2, s_var, s_varK, s_C, s_cb, s_cbK, s_call, s_callK, s_m, s_m1, s_m2, s_nil, s_cons, s_cons1, s_cons2, s_tup, s_tupK, s_lst, s_lstK, s_truth, s_trK, s_tK, s_eK, s_cK, s_and, s_andK, s_or, s_orK, s_not, s_notK, s_ife, s_ifeK, s_andV, s_orV, s_andvK, s_orvK, s_andvK2, s_orvK2, s_notV, s_notvK, s_blK, s_neg, s_negK, s_sl, s_sl1, s_sl2, s_sl3, s_noPart, s_part, s_partK, s_rev, s_revK, s_for, s_forK, s_lc, s_lcK, s_yes, s_walk, s_walkT, s_walkS, s_walkA, s_walkL, s_walkR, s_rng1, s_rng2, s_rng1K, s_rng2K, s_callL, s_callLK, s_callLO, s_clK, s_raise, r_val, r_new, r_put, s_whK, s_lcY, s_lcT, s_lcE, s_cg, s_cgK, s_rng3, s_rng3K, s_lcB, s_lcS, wipeD, Pat.bind, seqOf, rg, s_dict0, s_sortSet, s_sortSetK, q_is_tuple, q_is_str, q_is_int, q_is_bool, q_is_list, q_isR, ofS_inj, String.reduceEq, q_eqI, q_neI, q_eqS, q_neS, decide_true, decide_false, Int.reduceEq, reduceCtorEq, i_NoneType_tuple, i_NoneType_str, i_NoneType_int, i_NoneType_bool, i_NoneType_list, i_bool_tuple, i_bool_str, i_bool_int, i_bool_bool, i_bool_list, i_int_tuple, i_int_str, i_int_int, i_int_bool, i_int_list, i_str_tuple, i_str_str, i_str_int, i_str_bool, i_str_list, i_tuple_tuple, i_tuple_str, i_tuple_int, i_tuple_bool, i_tuple_list, i_list_tuple, i_list_str, i_list_int, i_list_bool, i_list_list, i_dict_tuple, i_dict_str, i_dict_int, i_dict_bool, i_dict_list, tyN, startD, mupd_same, mupd_ne, ne_eq, not_false_eq_true, List.map_cons, List.map_nil, List.length_cons, List.length_nil, List.replicate_succ, List.replicate_zero, Nat.zero_add, Nat.reduceAdd, Nat.reduceSub, Int.cast_ofNat_Int, List.cons_append, List.nil_append, List.getElem?_cons_zero, List.getElem?_cons_succ, List.set_cons_zero, List.set_cons_succ, opIx, atI_cons, ixN, opPut, opAdd, opSub, opMul, opFdiv, opMod, opPow, opLt, opLe, opGt, opGe, opIs, opIsNot, D.isNon, truth, bLen, bAbs, bInt, bTuple, bList, isTy, mAppend, mExtend, mPop, Int.reduceLE, Int.reduceLT, Int.reduceToNat, Int.reduceNeg, Int.reduceNe, Option.bind_some, if_true, if_false, ite_true, ite_false, true_and, and_true, Bool.not_true, Bool.not_false, opIadd, Nat.reduceLT, Nat.reduceLeDiff, Int.ofNat_lt, s_dpNil, s_dpCons, s_dpK1, s_dpK2, s_dpK3, s_disp, s_dispK, s_optKV, kvOf, s_dc, s_dcK, s_keys, s_lockK, s_sortIt, mGet, mDPop, dgetR, bDictC, bTupC, opEqD, opNeD, eqDR, D.key, merge_one, optKV, id, opEqL, opNeL, eqLR, $ls,*])
abbrev nil : Str := Str.ofString "nil"
theorem look_in {κ β : Type} [DecidableEq κ] {k : κ} {d : β} : ∀ {kvs : List (κ × β)}, (kvs.map (·.1)).Nodup → (k, d) ∈ kvs → look kvs k = some d
  | [], _, h => by cases h
  | q :: r, nd, h => by
    rw [List.map_cons, List.nodup_cons] at nd
    rcases List.mem_cons.mp h with e | e
    · subst e; simp [look]
    · have : q.1 ≠ k := fun z => nd.1 (z ▸ List.mem_map.mpr ⟨(k, d), e, rfl⟩)
      show (if q.1 = k then _ else _) = _
      rw [if_neg this]
      exact look_in nd.2 e
abbrev plKV (f : Str → Int) (names : List Str) : List (Key × D) := names.map fun n => ((Sum.inr n : Key), D.int (f n))
theorem plKV_keys (f : Str → Int) (names : List Str) : (plKV f names).map (·.1) = names.map Sum.inr := by rw [List.map_map]; rfl
theorem inr_nodup {names : List Str} (h : names.Nodup) : (names.map (Sum.inr : Str → Key)).Nodup := by
  rw [List.Nodup, List.pairwise_map]
  exact List.Pairwise.imp (fun {a b} h z => h (Sum.inr.inj z)) h
theorem pl_merge {f : Str → Int} {names : List Str} (h : names.Nodup) : mergeD [] (plKV f names) = plKV f names := by
  rw [merge_nodup _ [] (by rw [List.nil_append, plKV_keys]; exact inr_nodup h)]
  rfl
theorem pl_put {f : Str → Int} {names : List Str} (hn : nil ∉ names) : putD (plKV f names) (.inr nil) (.int 0) = plKV f names ++ [(.inr nil, .int 0)] := putD_fresh (by
  rw [plKV_keys]
  intro hm
  obtain ⟨x, hx, e⟩ := List.mem_map.mp hm
  exact hn (Sum.inr.inj e ▸ hx))
theorem pl_look {f : Str → Int} {names : List Str} (h : names.Nodup) (hn : nil ∉ names) (h0 : f nil = 0) : ∀ x ∈ nil :: names, look (plKV f names ++ [(.inr nil, .int 0)]) (.inr x) = some (.int (f x)) := by
  intro x hx
  refine look_in ?_ ?_
  · rw [List.map_append, plKV_keys, List.nodup_append]
    refine ⟨inr_nodup h, by simp, fun a ha b hb e => ?_⟩
    obtain ⟨y, hy, e2⟩ := List.mem_map.mp ha
    simp at hb
    rw [← e2, hb] at e
    exact hn (Sum.inr.inj e ▸ hy)
  · rcases List.mem_cons.mp hx with e | e
    · subst e
      rw [h0]
      simp
    · exact List.mem_append_left _ (List.mem_map.mpr ⟨x, e, rfl⟩)
theorem pairsKV_pl (f : Str → Int) : ∀ names : List Str, pairsKV (names.map fun n => D.tup [.str n, .int (f n)]) = some (plKV f names)
  | [] => rfl
  | n :: r => by
    show (match pairKV (D.tup [.str n, .int (f n)]), pairsKV (r.map fun n => D.tup [.str n, .int (f n)]) with | some p, some ps => some (p :: ps) | _, _ => none) = _
    rw [pairsKV_pl f r]
    rfl
theorem pairsKV_ent : ∀ ms : Cells, pairsKV (ms.map pairI) = some (ms.map entD)
  | [] => rfl
  | n :: r => by
    show (match pairKV (pairI n), pairsKV (r.map pairI) with | some p, some ps => some (p :: ps) | _, _ => none) = _
    rw [pairsKV_ent r]
    rfl
abbrev stackD (f : Str → Int) (names : List Str) : List D := names.map fun n => D.tup [.str n, .int (f n)]
abbrev prD (p : Str × Str) : D := .tup [.str p.1, .str p.2]
def sp_holds : DSp := fun ds M Q E => ∃ (p : Pic) (s c : Addr) (f : Str → Int) (names : List Str) (ms : Cells), ds = [p.enc, .ob s, .ob c] ∧ M s = some (.ctp (stackD f names)) ∧ M c = some (.ctp (ms.map pairI)) ∧ GoodH ms ∧ names.Nodup ∧ nil ∉ names ∧ f nil = 0 ∧
  p.In (nil :: names) ∧ p.same.length ≤ 1000 ∧ p.unlike.length ≤ 1000 ∧ names.length ≤ 1000 ∧ ∀ M', Keep [] M M' → Q (.bl (hold f p ms)) M'
theorem mono_holds : MonoSp sp_holds := by
  rintro ds M Q Q' E E' hQ hE ⟨p, s, c, f, names, ms, h1, h2, h3, h4, h5, h6, h7, h8, h9, h10, h11, h⟩
  exact ⟨p, s, c, f, names, ms, h1, h2, h3, h4, h5, h6, h7, h8, h9, h10, h11, fun M' z => hQ _ _ (h M' z)⟩
theorem fn_holds (S0 : Src K mg "holds" s_holds ["picture", "stack", "heap"]) (G : GF K mg) (F_taken_cell : Fn P w K mg base 1 "taken_cell" sp_tcell []) (F_taken_chain : Fn P w K mg base 1 "taken_chain" sp_tchain []) : Fn P w K mg base 2 "holds" sp_holds [] := by
  refine S0.fn mono_holds fun g fd F => fn_ok F sc_holds (fun ds M Q E h => by obtain ⟨p, s, c, f, names, ms, rfl, _⟩ := h; rfl) ⟨_, fun cdv A outer s H E hr => have hu := hr.u200
    (xss_cons (xs_set 3 sc_holds.nd (xe_callTy (c_dictC rfl) (by rfl) G.dict (by decide +kernel) (xa_cons (xe_var 1) xa_nil)))
 (xss_cons (xs_put hu xe_int (xe_var 3) (xe_globE (by rfl) G.NIL))
 (xss_cons (xs_asg (p := .tp [.nm 4, .nm 5, .nm 6, .nm 7]) (xe_var 0) (xg_tup rfl (xgs_cons (xg_name 4 sc_holds.nd) (xgs_cons (xg_name 5 sc_holds.nd) (xgs_cons (xg_name 6 sc_holds.nd) (xgs_cons (xg_name 7 sc_holds.nd) xgs_nil))))))
 (xss_cons (xs_if (xt_not (xt_val (xe_callB (c_all rfl) (by rfl) G.all (by decide +kernel) (xa_cons (xe_lc (own := [("one", 9), ("other", 10)]) (p := .tp [.nm 9, .nm 10]) rfl sc_holds.nd (xi_walk (xe_var 4)) (blkOk_by (by show blkC ["picture", "stack", "heap", "places", "same", "unlike", "cells", "chains", "left", "one", "other"] (defScope s_holds) _ _ = true; decide +kernel)) (fun _ _ _ _ _ => (xg_tup rfl (xgs_cons (xg_name 9 sc_holds.nd) (xgs_cons (xg_name 10 sc_holds.nd) xgs_nil)))) (fun _ _ _ _ _ => xts_nil) (fun _ _ _ _ _ => (xe_cmp (x_eq hu) (xe_ix hu (xe_var 3) (xe_var 9)) (xe_ix hu (xe_var 3) (xe_var 10)) (nomark _)))) xa_nil))))
 (xss_one (xs_ret xe_bl))
 xss_nil)
 (xss_cons (xs_if (xt_val (xe_callB (c_any rfl) (by rfl) G.any (by decide +kernel) (xa_cons (xe_lc (own := [("one", 9), ("other", 10)]) (p := .tp [.nm 9, .nm 10]) rfl sc_holds.nd (xi_walk (xe_var 5)) (blkOk_by (by show blkC ["picture", "stack", "heap", "places", "same", "unlike", "cells", "chains", "left", "one", "other"] (defScope s_holds) _ _ = true; decide +kernel)) (fun _ _ _ _ _ => (xg_tup rfl (xgs_cons (xg_name 9 sc_holds.nd) (xgs_cons (xg_name 10 sc_holds.nd) xgs_nil)))) (fun _ _ _ _ _ => xts_nil) (fun _ _ _ _ _ => (xe_cmp (x_eq hu) (xe_ix hu (xe_var 3) (xe_var 9)) (xe_ix hu (xe_var 3) (xe_var 10)) (nomark _)))) xa_nil)))
 (xss_one (xs_ret xe_bl))
 xss_nil)
 (xss_cons (xs_set 8 sc_holds.nd (xe_callTy (c_dictC rfl) (by rfl) G.dict (by decide +kernel) (xa_cons (xe_var 2) xa_nil)))
 (xss_cons (xs_for (p := .tp [.nm 9, .nm 10]) bx_passes rfl (xi_walk (xe_var 6)) (xg_tup rfl (xgs_cons (xg_name 9 sc_holds.nd) (xgs_cons (xg_name 10 sc_holds.nd) xgs_nil)))
 (xss_cons (xs_set 8 sc_holds.nd (xe_call F_taken_cell (hr.mono (by first | decide | omega)) bx_takes (by rfl) (xa_cons (xe_var 8) (xa_cons (xe_ix hu (xe_var 3) (xe_var 9)) (xa_cons (xe_ix hu (xe_var 3) (xe_var 10)) xa_nil)))))
 (xss_one (xs_if (xt_cmp x_is (xe_var 8) xe_non (nomark _) bl_is)
 (xss_one (xs_ret xe_bl))
 xss_nil))))
 (xss_cons (xs_for (p := .tp [.nm 9, .nm 10]) bx_passes rfl (xi_walk (xe_var 7)) (xg_tup rfl (xgs_cons (xg_name 9 sc_holds.nd) (xgs_cons (xg_name 10 sc_holds.nd) xgs_nil)))
 (xss_cons (xs_set 8 sc_holds.nd (xe_call F_taken_chain (hr.mono (by first | decide | omega)) bx_takes (by rfl) (xa_cons (xe_var 8) (xa_cons (xe_ix hu (xe_var 3) (xe_var 9)) (xa_cons (xe_ix hu (xe_var 3) (xe_var 10)) xa_nil)))))
 (xss_one (xs_if (xt_cmp x_is (xe_var 8) xe_non (nomark _) bl_is)
 (xss_one (xs_ret xe_bl))
 xss_nil))))
 (xss_one (xs_ret (xe_cmp (x_eqD hu) (xe_var 8) xe_dict0 (nomark _)))))))))))), fun ds M Q E h => ?_⟩
  obtain ⟨p, s, c, f, names, ms, rfl, hs, hc, hg, hnd, hnil, h0, hp, hl1, hl2, hl3, h⟩ := h
  simp! [hs, pairsKV_pl]
  intro pl hpl
  simp! [pl_merge hnd]
  refine ⟨by rw [List.length_map, sizeLine_eq]; omega, fun r hr => ?_⟩
  rw [pl_put hnil]
  rw [pl_put hnil] at hr
  have k1 : Keep [] M (mupd (mupd M pl (.dk (plKV f names))) pl (.dk (plKV f names ++ [(.inr nil, .int 0)]))) := Keep.putN (Keep.new hpl) hpl
  have hpl1 : mupd (mupd M pl (.dk (plKV f names))) pl (.dk (plKV f names ++ [(.inr nil, .int 0)])) pl = some (.dk (plKV f names ++ [(.inr nil, .int 0)])) := mupd_same
  generalize mupd (mupd M pl (.dk (plKV f names))) pl (.dk (plKV f names ++ [(.inr nil, .int 0)])) = M1 at k1 hpl1 hr ⊢
  have lk := pl_look hnd hnil h0
  have at_ : ∀ {M' : Mem}, Keep [] M1 M' → M' pl = some (.dk (plKV f names ++ [(.inr nil, .int 0)])) := fun k => k _ _ hpl1 (by simp)
  refine lc_pure prD (fun p => D.bl (decide (f p.1 = f p.2))) (fun _ => true) p.same hr (fun _ _ => trivial) (by rw [sizeLine_eq]; omega) (fun q hq M2 N sk k hy _ => ?_) fun M2 k2 e2 => ?_
  · simp! [at_ k, lk _ (hp.same q hq).1, lk _ (hp.same q hq).2]
    exact hy rfl _ Keep.refl
  simp! []
  refine run_all (g := fun p : Str × Str => decide (f p.1 = f p.2)) e2 ?_
  rw [filter_tt]
  simp! []
  refine bif_of (fun z => ?_) fun z => ?_
  · simp! []
    have : hold f p ms = false := by
      unfold hold
      have z : (p.same.all fun p => decide (f p.1 = f p.2)) = false := by simpa using z
      rw [z]
      rfl
    rw [← this]
    exact h _ (k1.trans k2)
  have z1 : (p.same.all fun p => decide (f p.1 = f p.2)) = true := by simpa using z
  simp! []
  intro r2 hr2
  refine lc_pure prD (fun p => D.bl (decide (f p.1 = f p.2))) (fun _ => true) p.unlike hr2 (fun _ _ => trivial) (by rw [sizeLine_eq]; omega) (fun q hq M3 N sk k hy _ => ?_) fun M3 k3 e3 => ?_
  · simp! [at_ (k2.trans k), lk _ (hp.unlike q hq).1, lk _ (hp.unlike q hq).2]
    exact hy rfl _ Keep.refl
  simp! []
  refine run_any (g := fun p : Str × Str => decide (f p.1 = f p.2)) e3 ?_
  rw [filter_tt]
  simp! []
  refine bif_of (fun z => ?_) fun z => ?_
  · simp! []
    have : hold f p ms = false := by
      unfold hold
      have z : (p.unlike.any fun p => decide (f p.1 = f p.2)) = true := z
      rw [z, z1]
      rfl
    rw [← this]
    exact h _ ((k1.trans k2).trans k3)
  have z2 : (p.unlike.any fun p => decide (f p.1 = f p.2)) = false := z
  have kk := (k1.trans k2).trans k3
  have hold_eq : hold f p ms = match allCells f p.cells ms with
    | some m => match allChains f p.chains m with
      | some m2 => m2.isEmpty
      | none => false
    | none => false := by
    unfold hold
    rw [z1, z2]
    rfl
  have hc3 := kk _ _ hc (by simp)
  have k23 := k2.trans k3
  simp! [hc3, pairsKV_ent]
  intro l hl
  rw [merge_ent hg.1]
  refine loop_inv prD (fun rest env M' => ∃ (l' : Addr) (ms' : Cells) (d9 d10 : Option D), (∀ q ∈ rest, q.1 ∈ nil :: names ∧ q.2 ∈ nil :: names) ∧ env = [some p.enc, some (D.ob s), some (D.ob c), some (D.ob pl), some (prsD p.same), some (prsD p.unlike), some (prsD p.cells), some (prsD p.chains), some (D.ob l'), d9, d10] ∧
    HAt M' l' ms' ∧ GoodH ms' ∧ Keep [] M3 M' ∧ allCells f p.cells ms = allCells f rest ms') (fun _ _ _ _ => trivial) ?_ ?_ p.cells _ _ ⟨l, ms, _, _, hp.cells, rfl, mupd_same, hg, Keep.new hl, rfl⟩
  · rintro q rest env M4 N ⟨l', ms', d9, d10, hq, rfl, hl', hg', k4, e4⟩ hN
    obtain ⟨q1, q2⟩ := hq q List.mem_cons_self
    simp! [at_ (k23.trans k4), lk _ q1, lk _ q2]
    refine ⟨l', f q.1, f q.2, ms', rfl, hl', hg', fun d M5 hd k5 => ?_⟩
    simp only [allCells] at e4
    cases et : takeCell ms' (f q.1) (f q.2) with
    | none =>
      rw [et] at hd e4
      have hd : d = .non := hd
      subst hd
      simp! []
      have : hold f p ms = false := by rw [hold_eq, e4]
      rw [← this]
      exact h _ ((kk.trans k4).trans k5)
    | some m =>
      rw [et] at hd e4
      obtain ⟨r3, rfl, hr3⟩ := hd
      simp! []
      refine hN _ _ ⟨r3, m, _, _, fun x hx => hq x (List.mem_cons_of_mem _ hx), rfl, hr3, ?_, k4.trans k5, e4⟩
      unfold takeCell at et
      split at et
      · cases et
      · cases et
        exact hg'.drop _
  · rintro env M4 ⟨l', ms', d9, d10, _, rfl, hl', hg', k4, e4⟩
    simp! []
    refine loop_inv prD (fun rest env M' => ∃ (l2 : Addr) (ms2 : Cells) (d9 d10 : Option D), (∀ q ∈ rest, q.1 ∈ nil :: names ∧ q.2 ∈ nil :: names) ∧ env = [some p.enc, some (D.ob s), some (D.ob c), some (D.ob pl), some (prsD p.same), some (prsD p.unlike), some (prsD p.cells), some (prsD p.chains), some (D.ob l2), d9, d10] ∧
      HAt M' l2 ms2 ∧ GoodH ms2 ∧ Keep [] M3 M' ∧ allChains f p.chains ms' = allChains f rest ms2) (fun _ _ _ _ => trivial) ?_ ?_ p.chains _ _ ⟨l', ms', _, _, hp.chains, rfl, hl', hg', k4, rfl⟩
    · rintro q rest env M5 N ⟨l2, ms2, d9, d10, hq, rfl, hl2, hg2, k5, e5⟩ hN
      obtain ⟨q1, q2⟩ := hq q List.mem_cons_self
      simp! [at_ (k23.trans k5), lk _ q1, lk _ q2]
      refine ⟨l2, f q.1, f q.2, ms2, rfl, hl2, hg2, fun d M6 hd k6 => ?_⟩
      simp only [allChains] at e5
      cases et : takeChain ms2 (f q.1) (f q.2) with
      | none =>
        rw [et] at hd e5
        have hd : d = .non := hd
        subst hd
        simp! []
        have : hold f p ms = false := by rw [hold_eq, e4]; simp only [allCells]; rw [e5]
        rw [← this]
        exact h _ ((kk.trans k5).trans k6)
      | some m =>
        rw [et] at hd e5
        obtain ⟨r3, rfl, hr3⟩ := hd
        simp! []
        exact hN _ _ ⟨r3, m, _, _, fun x hx => hq x (List.mem_cons_of_mem _ hx), rfl, hr3, hg2.chain et, k5.trans k6, e5⟩
    · rintro env M5 ⟨l2, ms2, d9, d10, _, rfl, hl2, hg2, k5, e5⟩
      have hl2' : M5 l2 = some (.dk (ms2.map entD)) := hl2
      simp! []
      intro o ho
      have lo : l2 ≠ o := ne_new hl2' ho
      simp! [mupd_ne lo, hl2', List.length_map]
      refine ⟨?_, ?_⟩
      · cases ms2 with
        | nil => exact .inl rfl
        | cons _ _ => exact .inr (by simp)
      · have : hold f p ms = decide (ms2.length = 0) := by
          rw [hold_eq, e4]
          simp only [allCells]
          rw [e5]
          simp only [allChains]
          cases ms2 <;> simp
        rw [← this]
        exact h _ ((kk.trans k5).trans (Keep.new ho))
end K05

set_option maxHeartbeats 4000000
namespace K05
open PySem PySem.Spec PyProof.Rows L2 PL
variable {P : Program} {w : World} {K : PySem.W.Frag} {mg : Str → Option Value} {base : Heap}
local macro_rules | `(tactic| simp! [$ls,*]) => `(tactic| simp only [to_nx, to_rt, to_bk, to_ct, to_ex, lp_nx, lp_rt, lp_bk, lp_ct, lp_ex, ret_nx, ret_rt, ret_ex, s_exK, s_bif1, s_bif0, s_optB, s_optE, s_nxD, s_ifK, s_asgN, s_asgT, s_asgL, b_nil, b_nm, b_tp, s_next, s_seq, s_drop, s_ret, s_retN, s_ifS, s_asg, s_brk, s_cont, s_put, s_put1, s_put2, s_put3, s_aug, s_augV, s_augK, s_augK2, s_bin, s_bin1, s_bin2, s_var, s_varK, s_C, s_cb, s_cbK, s_call, s_callK, s_m, s_m1, s_m2, s_nil, s_cons, s_cons1, s_cons2, s_tup, s_tupK, s_lst, s_lstK, s_truth, s_trK, s_tK, s_eK, s_cK, s_and, s_andK, s_or, s_orK, s_not, s_notK, s_ife, s_ifeK, s_andV, s_orV, s_andvK, s_orvK, s_andvK2, s_orvK2, s_notV, s_notvK, s_blK, s_neg, s_negK, s_sl, s_sl1, s_sl2, s_sl3, s_noPart, s_part, s_partK, s_rev, s_revK, s_for, s_forK, s_lc, s_lcK, s_yes, s_walk, s_walkT, s_walkS, s_walkA, s_walkL, s_walkR, s_rng1, s_rng2, s_rng1K, s_rng2K, s_callL, s_callLK, s_callLO, s_clK, s_raise, r_val, r_new, r_put, s_whK, s_lcY, s_lcT, s_lcE, s_cg, s_cgK, s_rng3, s_rng3K, s_lcB, s_lcS, wipeD, Pat.bind, seqOf, rg, s_dict0, s_sortSet, s_sortSetK, q_is_tuple, q_is_str, q_is_int, q_is_bool, q_is_list, q_isR, ofS_inj, String.reduceEq, q_eqI, q_neI, q_eqS, q_neS, decide_true, decide_false, Int.reduceEq, reduceCtorEq, i_NoneType_tuple, i_NoneType_str, i_NoneType_int, i_NoneType_bool, i_NoneType_list, i_bool_tuple, i_bool_str, i_bool_int, i_bool_bool, i_bool_list, i_int_tuple, i_int_str, i_int_int, i_int_bool, i_int_list, i_str_tuple, i_str_str, i_str_int, i_str_bool, i_str_list, i_tuple_tuple, i_tuple_str, i_tuple_int, i_tuple_bool, i_tuple_list, i_list_tuple, i_list_str, i_list_int, i_list_bool, i_list_list, i_dict_tuple, i_dict_str, i_dict_int, i_dict_bool, i_dict_list, tyN, startD, mupd_same, mupd_ne, ne_eq, not_false_eq_true, List.map_cons, List.map_nil, List.length_cons, List.length_nil, List.replicate_succ, List.replicate_zero, Nat.zero_add, Nat.reduceAdd, Nat.reduceSub, Int.cast_ofNat_Int, List.cons_append, List.nil_append, List.getElem?_cons_zero, List.getElem?_cons_succ, List.set_cons_zero, List.set_cons_succ, opIx, atI_cons, ixN, opPut, opAdd, opSub, opMul, opFdiv, opMod, opPow, opLt, opLe, opGt, opGe, opIs, opIsNot, D.isNon, truth, bLen, bAbs, bInt, bTuple, bList, isTy, mAppend, mExtend, mPop, Int.reduceLE, Int.reduceLT, Int.reduceToNat, Int.reduceNeg, Int.reduceNe, Option.bind_some, if_true, if_false, ite_true, ite_false, true_and, and_true, Bool.not_true, Bool.not_false, opIadd, Nat.reduceLT, Nat.reduceLeDiff, Int.ofNat_lt, s_dpNil, s_dpCons, s_dpK1, s_dpK2, s_dpK3, s_disp, s_dispK, s_optKV, kvOf, s_dc, s_dcK, s_keys, s_lockK, s_sortIt, mGet, mDPop, dgetR, bDictC, bTupC, opEqD, opNeD, eqDR, D.key, merge_one, optKV, id, opEqL, opNeL, eqLR, $ls,*])
theorem fn_walked (S0 : Src K mg "_law_walked" s__law_walked ["left", "here", "end"]) (G : GF K mg) : Fn P w K mg base 1 "_law_walked" sp_tchain [] := by
  refine S0.fn mono_tchain fun f fd F => fn_ok F sc__law_walked (fun ds M Q E h => by obtain ⟨a, b, e, ms, rfl, _⟩ := h; rfl) ⟨_, fun cdv A outer s H E hr => have hu := hr.u200
    (xss_cons (xs_set 0 sc__law_walked.nd (xe_callTy (c_dictC rfl) (by rfl) G.dict (by decide +kernel) (xa_cons (xe_var 0) xa_nil)))
 (xss_cons (xs_for (p := .nm 3) bx_passes rfl (xi_range1 (by rfl) G.range (xa_cons xe_int xa_nil)) (xg_name 3 sc__law_walked.nd)
 (xss_cons (xs_if (xt_cmp (x_eq hu) (xe_var 1) (xe_var 2) (nomark _) bl_eq)
 (xss_one (xs_ret (xe_var 0)))
 xss_nil)
 (xss_cons (xs_if (xt_cmp (x_notin hu) (xe_var 1) (xe_var 0) rfl bl_notin)
 (xss_one (xs_ret xe_non))
 xss_nil)
 (xss_one (xs_set 1 sc__law_walked.nd (xe_bm PySem.F.plainAttrs_dict PySem.F.slot_dict_pop PySem.F.type_dict_pop m_dpop (xe_var 0) (xa_cons (xe_var 1) xa_nil)))))))
 (xss_one (xs_ret xe_non)))), fun ds M Q E h => ?_⟩
  obtain ⟨a, b, e, ms, rfl, ha, hg, h⟩ := h
  have ha' : M a = some (.dk (ms.map entD)) := ha
  simp! [ha']
  intro r hr
  refine ⟨by decide, ?_⟩
  refine loop_inv (fun i : Nat => D.int (0 + (i : Int))) (fun rest env M' => ∃ (ms' : Cells) (b' : Int) (d3 : Option D), ms'.length + 1 ≤ rest.length ∧ env = [some (.ob r), some (.int b'), some (.int e), d3] ∧ HAt M' r ms' ∧ GoodH ms' ∧ Keep [] M M' ∧ takeChain ms b e = chain ms'.length ms' b' e) (fun _ _ _ _ => trivial) ?_ ?_ (List.range _) _ _ ⟨ms, b, none, by rw [List.length_range]; have := hg.2.1; show _ ≤ 99; omega, rfl, mupd_same, hg, Keep.new hr, rfl⟩
  · rintro x rest env M1 N ⟨ms', b', d3, hl, rfl, hr1, hg1, k1, e1⟩ hN
    have hr1' : M1 r = some (.dk (ms'.map entD)) := hr1
    simp! [hr1', look_ent]
    refine bif_dec (fun z => ?_) fun z => ?_
    · simp! []
      refine h _ _ ?_ k1
      rw [e1]
      have : chain ms'.length ms' b' e = some ms' := by
        cases ms'.length <;> simp [chain, z]
      rw [this]
      exact ⟨r, rfl, hr1⟩
    · simp! [notIn_dkI hr1', look_ent, Option.isSome_map]
      refine bif_of (fun z2 => ?_) fun z2 => ?_
      · have z2 : look ms' b' = none := by simpa using z2
        simp! []
        refine h _ _ ?_ k1
        rw [e1]
        have : chain ms'.length ms' b' e = none := by
          cases ms'.length <;> simp [chain, z, z2]
        rw [this]
        rfl
      · obtain ⟨v, z2⟩ : ∃ v, look ms' b' = some v := Option.isSome_iff_exists.mp (by simpa using z2)
        have lt := dropI_lt z2
        simp! [hr1', look_ent, z2, Option.map_some, dropD_ent]
        simp only [List.length_cons] at hl
        refine hN _ _ ⟨dropI ms' b', v, _, by omega, rfl, mupd_same, hg1.drop b', Keep.putN k1 hr, ?_⟩
        rw [e1]
        obtain ⟨n, en⟩ : ∃ n, ms'.length = n + 1 := ⟨ms'.length - 1, by omega⟩
        rw [en]
        simp only [chain, if_neg z, z2]
        exact chain_more _ _ _ _ _ (Nat.le_refl _) (by omega)
  · rintro env M1 ⟨ms', b', d3, hl, _⟩
    simp at hl
def sp_lholds : DSp := fun ds M Q E => ∃ (p : Pic) (pl c : Addr) (f : Str → Int) (S : List Str) (ms : Cells), ds = [p.enc, .ob pl, .ob c] ∧ PlAt M pl f S ∧ HAt M c ms ∧ GoodH ms ∧ (∀ x, 0 ≤ f x) ∧ p.In S ∧ ∀ M', Keep [] M M' → Q (.bl (hold f p ms)) M'
theorem mono_lholds : MonoSp sp_lholds := by
  rintro ds M Q Q' E E' hQ hE ⟨p, s, c, f, names, ms, h1, h2, h3, h4, h5, h6, h⟩
  exact ⟨p, s, c, f, names, ms, h1, h2, h3, h4, h5, h6, fun M' z => hQ _ _ (h M' z)⟩
theorem fn_lholds (S0 : Src K mg "_law_holds" s__law_holds ["picture", "places", "heap"]) (G : GF K mg) (F__law_walked : Fn P w K mg base 1 "_law_walked" sp_tchain []) : Fn P w K mg base 2 "_law_holds" sp_lholds [] := by
  refine S0.fn mono_lholds fun g fd F => fn_ok F sc__law_holds (fun ds M Q E h => by obtain ⟨p, s, c, f, names, ms, rfl, _⟩ := h; rfl) ⟨_, fun cdv A outer s H E hr => have hu := hr.u200
    (xss_cons (xs_for (p := .tp [.nm 3, .nm 4]) bx_passes rfl (xi_walk (xe_ix hu (xe_var 0) xe_int)) (xg_tup rfl (xgs_cons (xg_name 3 sc__law_holds.nd) (xgs_cons (xg_name 4 sc__law_holds.nd) xgs_nil)))
 (xss_one (xs_if (xt_cmp (x_ne hu) (xe_ix hu (xe_var 1) (xe_var 3)) (xe_ix hu (xe_var 1) (xe_var 4)) (nomark _) bl_ne)
 (xss_one (xs_ret xe_bl))
 xss_nil)))
 (xss_cons (xs_for (p := .tp [.nm 3, .nm 4]) bx_passes rfl (xi_walk (xe_ix hu (xe_var 0) xe_int)) (xg_tup rfl (xgs_cons (xg_name 3 sc__law_holds.nd) (xgs_cons (xg_name 4 sc__law_holds.nd) xgs_nil)))
 (xss_one (xs_if (xt_cmp (x_eq hu) (xe_ix hu (xe_var 1) (xe_var 3)) (xe_ix hu (xe_var 1) (xe_var 4)) (nomark _) bl_eq)
 (xss_one (xs_ret xe_bl))
 xss_nil)))
 (xss_cons (xs_set 5 sc__law_holds.nd (xe_callTy (c_dictC rfl) (by rfl) G.dict (by decide +kernel) (xa_cons (xe_var 2) xa_nil)))
 (xss_cons (xs_for (p := .tp [.nm 3, .nm 4]) bx_passes rfl (xi_walk (xe_ix hu (xe_var 0) xe_int)) (xg_tup rfl (xgs_cons (xg_name 3 sc__law_holds.nd) (xgs_cons (xg_name 4 sc__law_holds.nd) xgs_nil)))
 (xss_cons (xs_if (xt_cmp (x_ne hu) (xe_bm PySem.F.plainAttrs_dict PySem.F.slot_dict_get PySem.F.type_dict_get (m_get hu) (xe_var 5) (xa_cons (xe_ix hu (xe_var 1) (xe_var 3)) (xa_cons (xe_neg xe_int) xa_nil))) (xe_ix hu (xe_var 1) (xe_var 4)) (nomark _) bl_ne)
 (xss_one (xs_ret xe_bl))
 xss_nil)
 (xss_one (xs_expr (xe_bm PySem.F.plainAttrs_dict PySem.F.slot_dict_pop PySem.F.type_dict_pop m_dpop (xe_var 5) (xa_cons (xe_ix hu (xe_var 1) (xe_var 3)) xa_nil))))))
 (xss_cons (xs_for (p := .tp [.nm 3, .nm 4]) bx_passes rfl (xi_walk (xe_ix hu (xe_var 0) xe_int)) (xg_tup rfl (xgs_cons (xg_name 3 sc__law_holds.nd) (xgs_cons (xg_name 4 sc__law_holds.nd) xgs_nil)))
 (xss_cons (xs_set 5 sc__law_holds.nd (xe_call F__law_walked (hr.mono (by first | decide | omega)) bx_takes (by rfl) (xa_cons (xe_var 5) (xa_cons (xe_ix hu (xe_var 1) (xe_var 3)) (xa_cons (xe_ix hu (xe_var 1) (xe_var 4)) xa_nil)))))
 (xss_one (xs_if (xt_cmp x_is (xe_var 5) xe_non (nomark _) bl_is)
 (xss_one (xs_ret xe_bl))
 xss_nil))))
 (xss_one (xs_ret (xe_cmp (x_eqD hu) (xe_var 5) xe_dict0 (nomark _))))))))), fun ds M Q E h => ?_⟩
  obtain ⟨p, pl, c, f, S, ms, rfl, ⟨kvs, hpl, lk⟩, hc, hg, f0, hp, h⟩ := h
  have hc' : M c = some (.dk (ms.map entD)) := hc
  simp! [atI_cons, ixN]
  refine loop_inv prD (fun rest env M' => ∃ (d3 d4 : Option D), (∀ q ∈ rest, q.1 ∈ S ∧ q.2 ∈ S) ∧ env = [some p.enc, some (.ob pl), some (.ob c), d3, d4, none] ∧ M' = M ∧ (p.same.all fun q => decide (f q.1 = f q.2)) = rest.all fun q => decide (f q.1 = f q.2)) (fun _ _ _ _ => trivial) ?_ ?_ p.same _ _ ⟨none, none, hp.same, rfl, rfl, rfl⟩
  · rintro q rest env M1 N ⟨d3, d4, hq, rfl, rfl, e1⟩ hN
    obtain ⟨q1, q2⟩ := hq q List.mem_cons_self
    simp! [hpl, lk _ q1, lk _ q2]
    refine bif_of (fun z => ?_) fun z => ?_
    · simp! []
      have : hold f p ms = false := by
        unfold hold
        rw [e1]
        have z : ¬ f q.1 = f q.2 := by simpa using z
        simp [z]
      rw [← this]
      exact h _ Keep.refl
    · have z : f q.1 = f q.2 := by simpa using z
      simp! []
      exact hN _ _ ⟨_, _, fun x hx => hq x (List.mem_cons_of_mem _ hx), rfl, rfl, by rw [e1]; simp [z]⟩
  rintro env M1 ⟨d3, d4, _, rfl, rfl, e1⟩
  have e1 : (p.same.all fun q => decide (f q.1 = f q.2)) = true := e1
  simp! [atI_cons, ixN]
  refine loop_inv prD (fun rest env M' => ∃ (d3 d4 : Option D), (∀ q ∈ rest, q.1 ∈ S ∧ q.2 ∈ S) ∧ env = [some p.enc, some (.ob pl), some (.ob c), d3, d4, none] ∧ M' = M1 ∧ (p.unlike.any fun q => decide (f q.1 = f q.2)) = rest.any fun q => decide (f q.1 = f q.2)) (fun _ _ _ _ => trivial) ?_ ?_ p.unlike _ _ ⟨_, _, hp.unlike, rfl, rfl, rfl⟩
  · rintro q rest env M2 N ⟨d3, d4, hq, rfl, rfl, e2⟩ hN
    obtain ⟨q1, q2⟩ := hq q List.mem_cons_self
    simp! [hpl, lk _ q1, lk _ q2]
    refine bif_dec (fun z => ?_) fun z => ?_
    · simp! []
      have : hold f p ms = false := by
        unfold hold
        rw [e1, e2]
        simp [z]
      rw [← this]
      exact h _ Keep.refl
    · simp! []
      exact hN _ _ ⟨_, _, fun x hx => hq x (List.mem_cons_of_mem _ hx), rfl, rfl, by rw [e2]; simp [z]⟩
  rintro env M2 ⟨d3, d4, _, rfl, rfl, e2⟩
  have e2 : (p.unlike.any fun q => decide (f q.1 = f q.2)) = false := e2
  have hold_eq : hold f p ms = match allCells f p.cells ms with
    | some m => match allChains f p.chains m with
      | some m2 => m2.isEmpty
      | none => false
    | none => false := by
    unfold hold
    rw [e1, e2]
    rfl
  simp! [hc']
  intro l hl
  have pl_at : ∀ {M' : Mem}, Keep [] M2 M' → M' pl = some (.dk kvs) := fun k => k _ _ hpl (by simp)
  refine loop_inv prD (fun rest env M' => ∃ (ms' : Cells) (d3 d4 : Option D), (∀ q ∈ rest, q.1 ∈ S ∧ q.2 ∈ S) ∧ env = [some p.enc, some (.ob pl), some (.ob c), d3, d4, some (.ob l)] ∧ HAt M' l ms' ∧ GoodH ms' ∧ Keep [] M2 M' ∧ allCells f p.cells ms = allCells f rest ms') (fun _ _ _ _ => trivial) ?_ ?_ p.cells _ _ ⟨ms, _, _, hp.cells, rfl, mupd_same, hg, Keep.new hl, rfl⟩
  · rintro q rest env M3 N ⟨ms', d3, d4, hq, rfl, hl', hg', k3, e3⟩ hN
    obtain ⟨q1, q2⟩ := hq q List.mem_cons_self
    have hl2 : M3 l = some (.dk (ms'.map entD)) := hl'
    have eg : ((look ms' (f q.1)).map D.int).getD (D.int (-1)) = D.int ((look ms' (f q.1)).getD (-1)) := by cases look ms' (f q.1) <;> rfl
    simp! [pl_at k3, lk _ q1, lk _ q2, hl2, look_ent, eg]
    simp only [allCells, takeCell] at e3
    refine bif_of (fun z => ?_) fun z => ?_
    · have z : ¬ (look ms' (f q.1)).getD (-1) = f q.2 := by simpa using z
      simp! []
      have : hold f p ms = false := by rw [hold_eq, e3, if_pos z]
      rw [← this]
      exact h _ k3
    · have z : (look ms' (f q.1)).getD (-1) = f q.2 := by simpa using z
      obtain ⟨v, hv⟩ : ∃ v, look ms' (f q.1) = some v := by
        cases e : look ms' (f q.1) with
        | some v => exact ⟨v, rfl⟩
        | none =>
          rw [e] at z
          have := f0 q.2
          have z : (-1 : Int) = f q.2 := z
          omega
      simp! [pl_at k3, lk _ q1, hl2, look_ent, hv, Option.map_some, dropD_ent]
      refine hN _ _ ⟨dropI ms' (f q.1), _, _, fun x hx => hq x (List.mem_cons_of_mem _ hx), rfl, mupd_same, hg'.drop _, Keep.putN k3 hl, ?_⟩
      rw [e3, if_neg (by simpa using z)]
  rintro env M3 ⟨ms', d3, d4, _, rfl, hl', hg', k3, e3⟩
  simp! [atI_cons, ixN]
  refine loop_inv prD (fun rest env M' => ∃ (l2 : Addr) (ms2 : Cells) (d3 d4 : Option D), (∀ q ∈ rest, q.1 ∈ S ∧ q.2 ∈ S) ∧ env = [some p.enc, some (.ob pl), some (.ob c), d3, d4, some (.ob l2)] ∧ HAt M' l2 ms2 ∧ GoodH ms2 ∧ Keep [] M2 M' ∧ allChains f p.chains ms' = allChains f rest ms2) (fun _ _ _ _ => trivial) ?_ ?_ p.chains _ _ ⟨l, ms', _, _, hp.chains, rfl, hl', hg', k3, rfl⟩
  · rintro q rest env M5 N ⟨l2, ms2, d9, d10, hq, rfl, hl2, hg2, k5, e5⟩ hN
    obtain ⟨q1, q2⟩ := hq q List.mem_cons_self
    simp! [pl_at k5, lk _ q1, lk _ q2]
    refine ⟨l2, f q.1, f q.2, ms2, rfl, hl2, hg2, fun d M6 hd k6 => ?_⟩
    simp only [allChains] at e5
    cases et : takeChain ms2 (f q.1) (f q.2) with
    | none =>
      rw [et] at hd e5
      have hd : d = .non := hd
      subst hd
      simp! []
      have : hold f p ms = false := by rw [hold_eq, e3]; simp only [allCells]; rw [e5]
      rw [← this]
      exact h _ (k5.trans k6)
    | some m =>
      rw [et] at hd e5
      obtain ⟨r3, rfl, hr3⟩ := hd
      simp! []
      exact hN _ _ ⟨r3, m, _, _, fun x hx => hq x (List.mem_cons_of_mem _ hx), rfl, hr3, hg2.chain et, k5.trans k6, e5⟩
  · rintro env M5 ⟨l2, ms2, d9, d10, _, rfl, hl2, hg2, k5, e5⟩
    have hl2' : M5 l2 = some (.dk (ms2.map entD)) := hl2
    simp! []
    intro o ho
    have lo : l2 ≠ o := ne_new hl2' ho
    simp! [mupd_ne lo, hl2', List.length_map]
    refine ⟨?_, ?_⟩
    · cases ms2 with
      | nil => exact .inl rfl
      | cons _ _ => exact .inr (by simp)
    · have : hold f p ms = decide (ms2.length = 0) := by
        rw [hold_eq, e3]
        simp only [allCells]
        rw [e5]
        simp only [allChains]
        cases ms2 <;> simp
      rw [← this]
      exact h _ (k5.trans (Keep.new ho))
def sp_says : DSp := fun ds M Q E => ∃ a : Bool, ds = [.bl a, .bl a] ∧ Q (.bl true) M
theorem mono_says : MonoSp sp_says := by
  rintro ds M Q Q' E E' hQ hE ⟨a, h1, h⟩
  exact ⟨a, h1, hQ _ _ h⟩
theorem fn_says (S0 : Src K mg "_law_says" s__law_says ["found", "due"]) (G : GF K mg) : Fn P w K mg base 1 "_law_says" sp_says [] := by
  refine S0.fn mono_says fun g fd F => fn_ok F sc__law_says (fun ds M Q E h => by obtain ⟨a, rfl, _⟩ := h; rfl) ⟨_, fun cdv A outer s H E hr => have hu := hr.u200
    (xss_cons (xs_if (xt_val (xe_var 1))
 (xss_one (xs_ret (xe_cmp x_is (xe_var 0) xe_bl (nomark _))))
 xss_nil)
 (xss_one (xs_ret (xe_cmp x_is (xe_var 0) xe_bl (nomark _))))), fun ds M Q E h => ?_⟩
  obtain ⟨a, rfl, h⟩ := h
  simp! []
  cases a with
  | true =>
    simp! []
    exact h
  | false =>
    simp! []
    exact h
end K05

set_option maxHeartbeats 4000000
namespace K05
open PySem PySem.Spec PyProof.Rows L2 PL
variable {P : Program} {w : World} {K : PySem.W.Frag} {mg : Str → Option Value} {base : Heap}
local macro_rules | `(tactic| simp! [$ls,*]) => `(tactic| simp only [to_nx, to_rt, to_bk, to_ct, to_ex, lp_nx, lp_rt, lp_bk, lp_ct, lp_ex, ret_nx, ret_rt, ret_ex, s_exK, s_bif1, s_bif0, s_optB, s_optE, s_nxD, s_ifK, s_asgN, s_asgT, s_asgL, b_nil, b_nm, b_tp, s_next, s_seq, s_drop, s_ret, s_retN, s_ifS, s_asg, s_brk, s_cont, s_put, s_put1, s_put2, s_put3, s_aug, s_augV, s_augK, s_augK2, s_bin, s_bin1, s_bin2, s_var, s_varK, s_C, s_cb, s_cbK, s_call, s_callK, s_m, s_m1, s_m2, s_nil, s_cons, s_cons1, s_cons2, s_tup, s_tupK, s_lst, s_lstK, s_truth, s_trK, s_tK, s_eK, s_cK, s_and, s_andK, s_or, s_orK, s_not, s_notK, s_ife, s_ifeK, s_andV, s_orV, s_andvK, s_orvK, s_andvK2, s_orvK2, s_notV, s_notvK, s_blK, s_neg, s_negK, s_sl, s_sl1, s_sl2, s_sl3, s_noPart, s_part, s_partK, s_rev, s_revK, s_for, s_forK, s_lc, s_lcK, s_yes, s_walk, s_walkT, s_walkS, s_walkA, s_walkL, s_walkR, s_rng1, s_rng2, s_rng1K, s_rng2K, s_callL, s_callLK, s_callLO, s_clK, s_raise, r_val, r_new, r_put, s_whK, s_lcY, s_lcT, s_lcE, s_cg, s_cgK, s_rng3, s_rng3K, s_lcB, s_lcS, wipeD, Pat.bind, seqOf, rg, s_dict0, s_sortSet, s_sortSetK, q_is_tuple, q_is_str, q_is_int, q_is_bool, q_is_list, q_isR, ofS_inj, String.reduceEq, q_eqI, q_neI, q_eqS, q_neS, decide_true, decide_false, Int.reduceEq, reduceCtorEq, i_NoneType_tuple, i_NoneType_str, i_NoneType_int, i_NoneType_bool, i_NoneType_list, i_bool_tuple, i_bool_str, i_bool_int, i_bool_bool, i_bool_list, i_int_tuple, i_int_str, i_int_int, i_int_bool, i_int_list, i_str_tuple, i_str_str, i_str_int, i_str_bool, i_str_list, i_tuple_tuple, i_tuple_str, i_tuple_int, i_tuple_bool, i_tuple_list, i_list_tuple, i_list_str, i_list_int, i_list_bool, i_list_list, i_dict_tuple, i_dict_str, i_dict_int, i_dict_bool, i_dict_list, tyN, startD, mupd_same, mupd_ne, ne_eq, not_false_eq_true, List.map_cons, List.map_nil, List.length_cons, List.length_nil, List.replicate_succ, List.replicate_zero, Nat.zero_add, Nat.reduceAdd, Nat.reduceSub, Int.cast_ofNat_Int, List.cons_append, List.nil_append, List.getElem?_cons_zero, List.getElem?_cons_succ, List.set_cons_zero, List.set_cons_succ, opIx, atI_cons, ixN, opPut, opAdd, opSub, opMul, opFdiv, opMod, opPow, opLt, opLe, opGt, opGe, opIs, opIsNot, D.isNon, truth, bLen, bAbs, bInt, bTuple, bList, isTy, mAppend, mExtend, mPop, Int.reduceLE, Int.reduceLT, Int.reduceToNat, Int.reduceNeg, Int.reduceNe, Option.bind_some, if_true, if_false, ite_true, ite_false, true_and, and_true, Bool.not_true, Bool.not_false, opIadd, Nat.reduceLT, Nat.reduceLeDiff, Int.ofNat_lt, s_dpNil, s_dpCons, s_dpK1, s_dpK2, s_dpK3, s_disp, s_dispK, s_optKV, kvOf, s_dc, s_dcK, s_keys, s_lockK, s_sortIt, mGet, mDPop, dgetR, bDictC, bTupC, opEqD, opNeD, eqDR, D.key, merge_one, optKV, id, opEqL, opNeL, eqLR, $ls,*])
/-- the drawn numbers, the names -/
structure NmAt (M : Mem) (s b nm : Addr) (S : List Str) : Prop where
  st : StAt M s b
  at_ : M nm = some (.lst (S.map D.str))
  ne : nm ≠ s
  nonempty : S ≠ []
  few : S.length ≤ 1000
theorem NmAt.keep {M M' : Mem} {s b nm : Addr} {S : List Str} (h : NmAt M s b nm S) (hs : StAt M' s b) (k : Keep [s] M M') : NmAt M' s b nm S := ⟨hs, k _ _ h.at_ (by simpa using h.ne), h.ne, h.nonempty, h.few⟩
theorem NmAt.new {M : Mem} {s b nm l : Addr} {o : Ob} {S : List Str} (h : NmAt M s b nm S) (hl : M l = none) : NmAt (mupd M l o) s b nm S := h.keep (h.st.new hl) (Keep.new hl)
theorem NmAt.keep0 {M M' : Mem} {s b nm : Addr} {S : List Str} (h : NmAt M s b nm S) (k : Keep [] M M') : NmAt M' s b nm S := h.keep (h.st.keep k) (k.weaken (by simp))
def sp_place : DSp := fun ds M Q E => ∃ (s b nm : Addr) (S : List Str), ds = [.ob s, .ob nm] ∧ NmAt M s b nm S ∧ ∀ x M', x ∈ nil :: S → NmAt M' s b nm S → Keep [s] M M' → Q (.str x) M'
theorem mono_place : MonoSp sp_place := by
  rintro ds M Q Q' E E' hQ hE ⟨s, b, nm, S, h1, h2, h⟩
  exact ⟨s, b, nm, S, h1, h2, fun x M' z1 z2 z3 => hQ _ _ (h x M' z1 z2 z3)⟩
theorem fn_place (S0 : Src K mg "_law_place" s__law_place ["state", "names"]) (G : GF K mg) (F__law_draw : Fn P w K mg base 1 "_law_draw" sp_draw []) (F__law_one_of : Fn P w K mg base 2 "_law_one_of" sp_one_of []) : Fn P w K mg base 3 "_law_place" sp_place [] := by
  refine S0.fn mono_place fun g fd F => fn_ok F sc__law_place (fun ds M Q E h => by obtain ⟨s, b, nm, S, rfl, _⟩ := h; rfl) ⟨_, fun cdv A outer s H E hr => have hu := hr.u200
    (xss_cons (xs_if (xt_cmp (x_eq hu) (xe_call F__law_draw (hr.mono (by first | decide | omega)) bx_takes (by rfl) (xa_cons (xe_var 0) (xa_cons xe_int xa_nil))) xe_int (nomark _) bl_eq)
 (xss_one (xs_ret xe_str))
 xss_nil)
 (xss_one (xs_ret (xe_call F__law_one_of (hr.mono (by first | decide | omega)) bx_takes (by rfl) (xa_cons (xe_var 0) (xa_cons (xe_var 1) xa_nil)))))), fun ds M Q E h => ?_⟩
  obtain ⟨s, b, nm, S, rfl, hn, h⟩ := h
  simp! []
  refine ⟨s, b, 4, rfl, hn.st, by decide, by decide, fun r M1 r0 r1 hs1 k1 => ?_⟩
  have hn1 := hn.keep hs1 k1
  simp! []
  refine bif_dec (fun z => ?_) fun z => ?_
  · simp! []
    exact h _ _ List.mem_cons_self hn1 k1
  · simp! []
    refine ⟨s, b, .ob nm, S.map D.str, rfl, hs1, by simp only [seqI, hn1.at_], by simpa [ofA] using hn.ne, by simpa using hn.nonempty, by have := hn.few; rw [List.length_map]; omega, fun d M2 hd hs2 k2 => ?_⟩
    obtain ⟨y, hy, rfl⟩ := List.mem_map.mp hd
    exact h _ _ (List.mem_cons_of_mem _ hy) (hn1.keep hs2 k2) (k1.trans k2)
def sp_pairs : DSp := fun ds M Q E => ∃ (s b nm : Addr) (S : List Str) (n : Nat), ds = [.ob s, .ob nm, .int n] ∧ NmAt M s b nm S ∧ n ≤ 1000 ∧ ∀ (ps : Prs) M', ps.length = n → Names (nil :: S) ps → NmAt M' s b nm S → Keep [s] M M' → Q (prsD ps) M'
theorem mono_pairs : MonoSp sp_pairs := by
  rintro ds M Q Q' E E' hQ hE ⟨s, b, nm, S, n, h1, h2, h3, h⟩
  exact ⟨s, b, nm, S, n, h1, h2, h3, fun x M' z1 z2 z3 z4 => hQ _ _ (h x M' z1 z2 z3 z4)⟩
theorem outs_prs {T : List Str} : ∀ {ds : List D}, (∀ d ∈ ds, ∃ x ∈ T, ∃ y ∈ T, d = prD (x, y)) → ∃ ps : Prs, ds = ps.map prD ∧ Names T ps
  | [], _ => ⟨[], rfl, fun p h => by cases h⟩
  | d :: ds, h => by
    obtain ⟨ps, rfl, h2⟩ := outs_prs (T := T) (ds := ds) fun d hd => h d (List.mem_cons_of_mem _ hd)
    obtain ⟨x, hx, y, hy, rfl⟩ := h d List.mem_cons_self
    refine ⟨(x, y) :: ps, rfl, fun p hp => ?_⟩
    rcases List.mem_cons.mp hp with e | e
    · rw [e]; exact ⟨hx, hy⟩
    · exact h2 p e
theorem fn_pairs (S0 : Src K mg "_law_pairs" s__law_pairs ["state", "names", "many"]) (G : GF K mg) (F__law_place : Fn P w K mg base 3 "_law_place" sp_place []) : Fn P w K mg base 4 "_law_pairs" sp_pairs [] := by
  refine S0.fn mono_pairs fun g fd F => fn_ok F sc__law_pairs (fun ds M Q E h => by obtain ⟨s, b, nm, S, n, rfl, _⟩ := h; rfl) ⟨_, fun cdv A outer s H E hr => have hu := hr.u200
    (xss_one (xs_ret (xe_callTy c_tuple (by rfl) G.tuple (by decide +kernel) (xa_cons (xe_lc (own := [("k", 3)]) (p := .nm 3) rfl sc__law_pairs.nd (xi_range1 (by rfl) G.range (xa_cons (xe_var 2) xa_nil)) (blkOk_by (by show blkC ["state", "names", "many", "k"] (defScope s__law_pairs) _ _ = true; decide +kernel)) (fun _ _ _ _ _ => (xg_name 3 sc__law_pairs.nd)) (fun _ _ _ _ _ => xts_nil) (fun _ _ _ _ _ => (xe_tup (n := 2) (xa_cons (xe_call F__law_place (hr.mono (by first | decide | omega)) takes0 (by rfl) (xa_cons (xe_var 0) (xa_cons (xe_var 1) xa_nil))) (xa_cons (xe_call F__law_place (hr.mono (by first | decide | omega)) takes0 (by rfl) (xa_cons (xe_var 0) (xa_cons (xe_var 1) xa_nil))) xa_nil))))) xa_nil)))), fun ds M Q E h => ?_⟩
  obtain ⟨s, b, nm, S, n, rfl, hn, hl, h⟩ := h
  simp! []
  refine ⟨by omega, fun r hr => ?_⟩
  have rs := (hn.st.ne hr).1
  refine lc_rule (fun i : Nat => D.int (0 + (i : Int))) (fun _ o => ∃ x ∈ nil :: S, ∃ y ∈ nil :: S, o = some (prD (x, y))) (fun M => StAt M s b) [s] (List.range n) hr (by simpa using rs) hn.st (fun M' o hj => hj.put rs (hn.st.ne hr).2) (fun _ _ => trivial) (by rw [List.length_range, sizeLine_eq]; omega)
    (fun i hi M1 N sk hs1 k1 hy _ => ?_) fun M1 ds ho hs1 k1 e1 => ?_
  · simp! []
    refine ⟨s, b, nm, S, rfl, hn.keep hs1 k1, fun x M2 hx hn2 k2 => ?_⟩
    simp! []
    refine ⟨s, b, nm, S, rfl, hn2, fun y M3 hy' hn3 k3 => ?_⟩
    simp! []
    exact hy _ _ ⟨x, hx, y, hy', rfl⟩ hn3.st (k2.trans k3)
  · have hlen := ho.lenEq (fun _ ⟨_, _, _, _, z⟩ => by cases z)
    obtain ⟨ps, rfl, hps⟩ := outs_prs (ho.all (P := fun d => ∃ x ∈ nil :: S, ∃ y ∈ nil :: S, d = prD (x, y)) fun _ d ⟨x, hx, y, hy, h⟩ => ⟨x, hx, y, hy, Option.some.inj h⟩)
    simp only [List.length_map, List.length_range] at hlen
    simp! [e1]
    exact h ps _ hlen hps (hn.keep hs1 k1) k1
def sp_pict : DSp := fun ds M Q E => ∃ (s b nm : Addr) (S : List Str) (m : Nat), ds = [.ob s, .ob nm, .int m] ∧ NmAt M s b nm S ∧ m ≤ 100 ∧ ∀ (p : Pic) M', p.In (nil :: S) → p.same.length ≤ 1 → p.unlike.length ≤ 2 → p.cells.length + p.chains.length ≤ m → NmAt M' s b nm S → Keep [s] M M' → Q p.enc M'
theorem mono_pict : MonoSp sp_pict := by
  rintro ds M Q Q' E E' hQ hE ⟨s, b, nm, S, m, h1, h2, h3, h⟩
  exact ⟨s, b, nm, S, m, h1, h2, h3, fun x M' z1 z2 z3 z4 z5 z6 => hQ _ _ (h x M' z1 z2 z3 z4 z5 z6)⟩
theorem fn_pict (S0 : Src K mg "_law_picture" s__law_picture ["state", "names", "most"]) (G : GF K mg) (F__law_draw : Fn P w K mg base 1 "_law_draw" sp_draw []) (F__law_pairs : Fn P w K mg base 4 "_law_pairs" sp_pairs []) : Fn P w K mg base 5 "_law_picture" sp_pict [] := by
  refine S0.fn mono_pict fun g fd F => fn_ok F sc__law_picture (fun ds M Q E h => by obtain ⟨s, b, nm, S, m, rfl, _⟩ := h; rfl) ⟨_, fun cdv A outer s H E hr => have hu := hr.u200
    (xss_cons (xs_set 3 sc__law_picture.nd (xe_call F__law_pairs (hr.mono (by first | decide | omega)) bx_takes (by rfl) (xa_cons (xe_var 0) (xa_cons (xe_var 1) (xa_cons (xe_callTy c_int (by rfl) G.int (by decide +kernel) (xa_cons (xe_cmp (x_eq hu) (xe_call F__law_draw (hr.mono (by first | decide | omega)) bx_takes (by rfl) (xa_cons (xe_var 0) (xa_cons xe_int xa_nil))) xe_int (nomark _)) xa_nil)) xa_nil)))))
 (xss_cons (xs_set 4 sc__law_picture.nd (xe_call F__law_pairs (hr.mono (by first | decide | omega)) bx_takes (by rfl) (xa_cons (xe_var 0) (xa_cons (xe_var 1) (xa_cons (xe_call F__law_draw (hr.mono (by first | decide | omega)) bx_takes (by rfl) (xa_cons (xe_var 0) (xa_cons xe_int xa_nil))) xa_nil)))))
 (xss_cons (xs_set 5 sc__law_picture.nd (xe_call F__law_draw (hr.mono (by first | decide | omega)) bx_takes (by rfl) (xa_cons (xe_var 0) (xa_cons (xe_bin x_add (xe_var 2) xe_int) xa_nil))))
 (xss_cons (xs_set 6 sc__law_picture.nd (xe_call F__law_draw (hr.mono (by first | decide | omega)) bx_takes (by rfl) (xa_cons (xe_var 0) (xa_cons (xe_bin x_add (xe_var 5) xe_int) xa_nil))))
 (xss_one (xs_ret (xe_tup (n := 4) (xa_cons (xe_var 3) (xa_cons (xe_var 4) (xa_cons (xe_call F__law_pairs (hr.mono (by first | decide | omega)) bx_takes (by rfl) (xa_cons (xe_var 0) (xa_cons (xe_var 1) (xa_cons (xe_var 6) xa_nil)))) (xa_cons (xe_call F__law_pairs (hr.mono (by first | decide | omega)) bx_takes (by rfl) (xa_cons (xe_var 0) (xa_cons (xe_var 1) (xa_cons (xe_bin x_sub (xe_var 5) (xe_var 6)) xa_nil)))) xa_nil))))))))))), fun ds M Q E h => ?_⟩
  obtain ⟨s, b, nm, S, m, rfl, hn, hm, h⟩ := h
  simp! []
  refine ⟨s, b, 4, rfl, hn.st, by decide, by decide, fun r1 M1 _ _ hs1 k1 => ?_⟩
  have hn1 := hn.keep hs1 k1
  obtain ⟨j, hj, j1⟩ : ∃ j : Nat, (if decide (r1 = 0) = true then (1 : Int) else 0) = j ∧ j ≤ 1 := by
    by_cases z : r1 = 0
    · exact ⟨1, by simp [z], Nat.le_refl _⟩
    · exact ⟨0, by simp [z], by decide⟩
  simp! []
  first | rw [hj] | skip
  refine ⟨s, b, nm, S, j, rfl, hn1, by omega, fun ps1 M2 hl1 hp1 hn2 k2 => ?_⟩
  simp! []
  refine ⟨s, b, 3, rfl, hn2.st, by decide, by decide, fun r2 M3 r20 r21 hs3 k3 => ?_⟩
  obtain ⟨j2, rfl⟩ : ∃ j : Nat, r2 = j := ⟨r2.toNat, by omega⟩
  simp! []
  refine ⟨s, b, nm, S, j2, rfl, hn2.keep hs3 k3, by omega, fun ps2 M4 hl2 hp2 hn4 k4 => ?_⟩
  simp! []
  refine ⟨s, b, (m : Int) + 1, rfl, hn4.st, by omega, by omega, fun r3 M5 r30 r31 hs5 k5 => ?_⟩
  simp! []
  refine ⟨s, b, r3 + 1, rfl, hs5, by omega, by omega, fun r4 M6 r40 r41 hs6 k6 => ?_⟩
  obtain ⟨j4, rfl⟩ : ∃ j : Nat, r4 = j := ⟨r4.toNat, by omega⟩
  have hn6 := (hn4.keep hs5 k5).keep hs6 k6
  simp! []
  refine ⟨s, b, nm, S, j4, rfl, hn6, by omega, fun ps3 M7 hl3 hp3 hn7 k7 => ?_⟩
  obtain ⟨j5, hj5⟩ : ∃ j : Nat, r3 - (j4 : Int) = j := ⟨(r3 - j4).toNat, by omega⟩
  simp! [hj5]
  refine ⟨s, b, nm, S, j5, rfl, hn7, by omega, fun ps4 M8 hl4 hp4 hn8 k8 => ?_⟩
  simp! []
  exact h ⟨ps1, ps2, ps3, ps4⟩ _ ⟨hp1, hp2, hp3, hp4⟩ (by show ps1.length ≤ 1; omega) (by show ps2.length ≤ 2; omega) (by show ps3.length + ps4.length ≤ m; omega) hn8 (((((((k1.trans k2).trans k3).trans k4).trans k5).trans k6).trans k7).trans k8)
end K05

set_option maxHeartbeats 4000000
namespace K05
open PySem PySem.Spec PyProof.Rows L2 PL
variable {P : Program} {w : World} {K : PySem.W.Frag} {mg : Str → Option Value} {base : Heap}
local macro_rules | `(tactic| simp! [$ls,*]) => `(tactic| simp only [to_nx, to_rt, to_bk, to_ct, to_ex, lp_nx, lp_rt, lp_bk, lp_ct, lp_ex, ret_nx, ret_rt, ret_ex, s_exK, s_bif1, s_bif0, s_optB, s_optE, s_nxD, s_ifK, s_asgN, s_asgT, s_asgL, b_nil, b_nm, b_tp, s_next, s_seq, s_drop, s_ret, s_retN, s_ifS, s_asg, s_brk, s_cont, s_put, s_put1, s_put2, s_put3, s_aug, s_augV, s_augK, s_augK2, s_bin, s_bin1, s_bin2, s_var, s_varK, s_C, s_cb, s_cbK, s_call, s_callK, s_m, s_m1, s_m2, s_nil, s_cons, s_cons1, s_cons2, s_tup, s_tupK, s_lst, s_lstK, s_truth, s_trK, s_tK, s_eK, s_cK, s_and, s_andK, s_or, s_orK, s_not, s_notK, s_ife, s_ifeK, s_andV, s_orV, s_andvK, s_orvK, s_andvK2, s_orvK2, s_notV, s_notvK, s_blK, s_neg, s_negK, s_sl, s_sl1, s_sl2, s_sl3, s_noPart, s_part, s_partK, s_rev, s_revK, s_for, s_forK, s_lc, s_lcK, s_yes, s_walk, s_walkT, s_walkS, s_walkA, s_walkL, s_walkR, s_rng1, s_rng2, s_rng1K, s_rng2K, s_callL, s_callLK, s_callLO, s_clK, s_raise, r_val, r_new, r_put, s_whK, s_lcY, s_lcT, s_lcE, s_cg, s_cgK, s_rng3, s_rng3K, s_lcB, s_lcS, wipeD, Pat.bind, seqOf, rg, s_dict0, s_sortSet, s_sortSetK, q_is_tuple, q_is_str, q_is_int, q_is_bool, q_is_list, q_isR, ofS_inj, String.reduceEq, q_eqI, q_neI, q_eqS, q_neS, decide_true, decide_false, Int.reduceEq, reduceCtorEq, i_NoneType_tuple, i_NoneType_str, i_NoneType_int, i_NoneType_bool, i_NoneType_list, i_bool_tuple, i_bool_str, i_bool_int, i_bool_bool, i_bool_list, i_int_tuple, i_int_str, i_int_int, i_int_bool, i_int_list, i_str_tuple, i_str_str, i_str_int, i_str_bool, i_str_list, i_tuple_tuple, i_tuple_str, i_tuple_int, i_tuple_bool, i_tuple_list, i_list_tuple, i_list_str, i_list_int, i_list_bool, i_list_list, i_dict_tuple, i_dict_str, i_dict_int, i_dict_bool, i_dict_list, tyN, startD, mupd_same, mupd_ne, ne_eq, not_false_eq_true, List.map_cons, List.map_nil, List.length_cons, List.length_nil, List.replicate_succ, List.replicate_zero, Nat.zero_add, Nat.reduceAdd, Nat.reduceSub, Int.cast_ofNat_Int, List.cons_append, List.nil_append, List.getElem?_cons_zero, List.getElem?_cons_succ, List.set_cons_zero, List.set_cons_succ, opIx, atI_cons, ixN, opPut, opAdd, opSub, opMul, opFdiv, opMod, opPow, opLt, opLe, opGt, opGe, opIs, opIsNot, D.isNon, truth, bLen, bAbs, bInt, bTuple, bList, isTy, mAppend, mExtend, mPop, Int.reduceLE, Int.reduceLT, Int.reduceToNat, Int.reduceNeg, Int.reduceNe, Option.bind_some, if_true, if_false, ite_true, ite_false, true_and, and_true, Bool.not_true, Bool.not_false, opIadd, Nat.reduceLT, Nat.reduceLeDiff, Int.ofNat_lt, s_dpNil, s_dpCons, s_dpK1, s_dpK2, s_dpK3, s_disp, s_dispK, s_optKV, kvOf, s_dc, s_dcK, s_keys, s_lockK, s_sortIt, mGet, mDPop, dgetR, bDictC, bTupC, opEqD, opNeD, eqDR, D.key, merge_one, optKV, id, opEqL, opNeL, eqLR, $ls,*])
abbrev rowD (r : List Int) : D := .tup (r.map D.int)
def sp_stacks : DSp := fun ds M Q E => ∃ (nm : Addr) (S : List Str), ds = [.ob nm, .int 3] ∧ M nm = some (.lst (S.map D.str)) ∧ S.length ≤ 3 ∧ ∀ (rows : List (List Int)) r M', (∀ x ∈ rows, x.length = S.length ∧ ∀ i ∈ x, 0 ≤ i) → rows.length ≤ 64 → M r = none → M' r = some (.lst (rows.map rowD)) → Keep [] M M' → Q (.ob r) M'
theorem mono_stacks : MonoSp sp_stacks := by
  rintro ds M Q Q' E E' hQ hE ⟨nm, S, h1, h2, h3, h⟩
  exact ⟨nm, S, h1, h2, h3, fun rows r M' z1 z2 z3 z4 z5 => hQ _ _ (h rows r M' z1 z2 z3 z4 z5)⟩
theorem fn_stacks (S0 : Src K mg "_law_stacks" s__law_stacks ["names", "most"]) (G : GF K mg) : Fn P w K mg base 1 "_law_stacks" sp_stacks [] := by
  refine S0.fn mono_stacks fun g fd F => fn_ok F sc__law_stacks (fun ds M Q E h => by obtain ⟨nm, S, rfl, _⟩ := h; rfl) ⟨_, fun cdv A outer s H E hr => have hu := hr.u200
    (xss_cons (xs_set 2 sc__law_stacks.nd (xe_lst (n := 1) (xa_cons (xe_tup (n := 0) xa_nil) xa_nil)))
 (xss_cons (xs_for (p := .nm 3) bx_passes rfl (xi_walk (xe_var 0)) (xg_name 3 sc__law_stacks.nd)
 (xss_cons (xs_set 4 sc__law_stacks.nd (xe_lst (n := 0) xa_nil))
 (xss_cons (xs_for (p := .nm 5) bx_passes rfl (xi_walk (xe_var 2)) (xg_name 5 sc__law_stacks.nd)
 (xss_one (xs_set 4 sc__law_stacks.nd (xe_bin x_add (xe_var 4) (xe_lc (own := [("address", 6)]) (p := .nm 6) rfl sc__law_stacks.nd (xi_range1 (by rfl) G.range (xa_cons (xe_bin x_add (xe_var 1) xe_int) xa_nil)) (blkOk_by (by show blkC ["names", "most", "found", "name", "longer", "row", "address"] (defScope s__law_stacks) _ _ = true; decide +kernel)) (fun _ _ _ _ _ => (xg_name 6 sc__law_stacks.nd)) (fun _ _ _ _ _ => xts_nil) (fun _ _ _ _ _ => (xe_bin x_add (xe_var 5) (xe_tup (n := 1) (xa_cons (xe_var 6) xa_nil)))))))))
 (xss_one (xs_set 2 sc__law_stacks.nd (xe_var 4))))))
 (xss_one (xs_ret (xe_var 2))))), fun ds M Q E h => ?_⟩
  obtain ⟨nm, S, rfl, hnm, hl, h⟩ := h
  simp! []
  intro r hr
  have nr : nm ≠ r := ne_new hnm hr
  simp! [mupd_ne nr, hnm]
  refine loop_inv D.str (fun rest env M' => ∃ (l : Addr) (rows : List (List Int)) (k : Nat) (d3 d4 d5 d6 : Option D), k + rest.length = S.length ∧ (∀ x ∈ rows, x.length = k ∧ ∀ i ∈ x, 0 ≤ i) ∧ rows.length ≤ 4 ^ k ∧ M l = none ∧ M' l = some (.lst (rows.map rowD)) ∧ Keep [] M M' ∧ env = [some (.ob nm), some (.int 3), some (.ob l), d3, d4, d5, d6])
    (fun _ _ M' ⟨_, _, _, _, _, _, _, _, _, _, _, _, k, _⟩ => .inl (k _ _ hnm (by simp))) ?_ ?_ S _ _ ⟨r, [[]], 0, _, _, _, _, by omega, (fun x hx => by rw [List.mem_singleton.mp hx]; exact ⟨rfl, fun i hi => by cases hi⟩), by simp, hr, mupd_same, Keep.new hr, rfl⟩
  · rintro x rest env M1 N ⟨l, rows, k, d3, d4, d5, d6, hk, hrows, hcnt, hl0, hl1, k1, rfl⟩ hN
    simp only [List.length_cons] at hk
    have c16 : rows.length ≤ 16 := Nat.le_trans hcnt (Nat.le_trans (Nat.pow_le_pow_right (by decide) (show k ≤ 2 by omega)) (by decide))
    simp! []
    intro o ho
    have lo : l ≠ o := ne_new hl1 ho
    simp! [mupd_ne lo, hl1]
    refine loop_inv rowD (fun rest2 env M' => ∃ (l2 : Addr) (rows2 : List (List Int)) (d5 d6 : Option D), (∀ x ∈ rest2, x.length = k ∧ ∀ i ∈ x, 0 ≤ i) ∧ (∀ x ∈ rows2, x.length = k + 1 ∧ ∀ i ∈ x, 0 ≤ i) ∧ rows2.length + 4 * rest2.length ≤ 4 * rows.length ∧ M l2 = none ∧ M' l2 = some (.lst (rows2.map rowD)) ∧ Keep [] M1 M' ∧ env = [some (.ob nm), some (.int 3), some (.ob l), some (.str x), some (.ob l2), d5, d6])
      (fun _ _ M' ⟨_, _, _, _, _, _, _, _, _, k, _⟩ => .inl (k _ _ hl1 (by simp))) ?_ ?_ rows _ _ ⟨o, [], _, _, hrows, (fun x hx => by cases hx), by simp, Keep.fresh k1 ho, mupd_same, Keep.new ho, rfl⟩
    · rintro row rest2 env M2 N2 ⟨l2, rows2, d5, d6, hr2, hrows2, hc2, hl20, hl21, k2, rfl⟩ hN2
      obtain ⟨hrl, hrp⟩ := hr2 row List.mem_cons_self
      simp only [List.length_cons] at hc2
      simp! []
      refine ⟨by decide, fun t ht => ?_⟩
      refine lc_pure (fun i : Nat => D.int (0 + (i : Int))) (fun i => rowD (row ++ [(0 + (i : Int))])) (fun _ => true) (List.range _) ht (fun _ _ => trivial) (by rw [List.length_range, sizeLine_eq]; decide) (fun i hi M3 N3 sk k3 hy _ => ?_) fun M3 k3 e3 => ?_
      · simp! [List.length_map]
        refine ⟨by rw [sizeLine_eq]; omega, ?_⟩
        rw [show D.tup (row.map D.int ++ [D.int (0 + (i : Int))]) = rowD (row ++ [0 + (i : Int)]) by simp]
        exact hy rfl M3 Keep.refl
      · rw [filter_tt] at e3
        have hl22 := k3 _ _ hl21 (by simp)
        simp! [hl22, e3, List.length_map, List.length_range]
        refine ⟨by rw [sizeLine_eq]; show rows2.length + 4 ≤ _; omega, fun q hq => ?_⟩
        have k12 := (k1.trans k2).trans k3
        refine hN2 _ _ ⟨q, rows2 ++ (List.range 4).map (fun i : Nat => row ++ [(0 + (i : Int))]), _, _, fun x hx => hr2 x (List.mem_cons_of_mem _ hx), fun x hx => ?_, ?_, Keep.fresh k12 hq, ?_, (k2.trans k3).trans (Keep.new hq), rfl⟩
        · rcases List.mem_append.mp hx with z | z
          · exact hrows2 x z
          · obtain ⟨i, _, rfl⟩ := List.mem_map.mp z
            refine ⟨by simp [hrl], fun j hj => ?_⟩
            rcases List.mem_append.mp hj with z2 | z2
            · exact hrp j z2
            · rw [List.mem_singleton.mp z2]; omega
        · simp only [List.length_append, List.length_map, List.length_range]; omega
        · rw [mupd_same]
          simp only [List.map_append, List.map_map]
          rfl
    · rintro env M2 ⟨l2, rows2, d5, d6, _, hrows2, hc2, hl20, hl21, k2, rfl⟩
      simp! []
      refine hN _ _ ⟨l2, rows2, k + 1, _, _, _, _, by omega, hrows2, ?_, hl20, hl21, k1.trans k2, rfl⟩
      simp only [List.length_nil] at hc2
      rw [Nat.pow_succ]
      omega
  · rintro env M1 ⟨l, rows, k, d3, d4, d5, d6, hk, hrows, hcnt, hl0, hl1, k1, rfl⟩
    have hk : k = S.length := hk
    subst hk
    simp! []
    exact h rows l M1 hrows (Nat.le_trans hcnt (Nat.le_trans (Nat.pow_le_pow_right (by decide) hl) (by decide))) hl0 hl1 k1
theorem putI_any (ms : Cells) (k v : Int) : ((putI ms k v).any fun p => decide (p.1 = k)) = true := by
  unfold putI
  split
  · rename_i h
    rw [List.any_eq_true] at h ⊢
    obtain ⟨p, h1, h2⟩ := h
    refine ⟨(p.1, v), List.mem_map.mpr ⟨p, h1, ?_⟩, h2⟩
    rw [if_pos (of_decide_eq_true h2)]
  · rw [List.any_eq_true]
    exact ⟨(k, v), by simp, by simp⟩
theorem putI_twice (ms : Cells) (k v v' : Int) : (putI (putI ms k v) k v').length = (putI ms k v).length := by
  have h := putI_any ms k v
  generalize putI ms k v = xs at h ⊢
  unfold putI
  rw [if_pos h, List.length_map]
/-- a thing holds good cells, at most n -/
def Cl (M : Mem) (n : Nat) (a : Addr) : Prop := ∃ ms, HAt M a ms ∧ GoodH ms ∧ ms.length ≤ n
theorem Cl.keep {M M' : Mem} {n : Nat} {a : Addr} {T : List Addr} (h : Cl M n a) (k : Keep T M M') (ha : a ∉ T := by simp) : Cl M' n a := by
  obtain ⟨ms, h1, h2⟩ := h
  exact ⟨ms, k _ _ h1 ha, h2⟩
theorem Cl.put {M : Mem} {n : Nat} {a l : Addr} {o : Ob} {ds : List D} (h : Cl M n a) (hl : M l = some (.lst ds)) : Cl (mupd M l o) n a := by
  obtain ⟨ms, h1, h2⟩ := h
  refine ⟨ms, ?_, h2⟩
  have : a ≠ l := fun e => by
    have h1 : M a = some (.dk (ms.map entD)) := h1
    rw [e, hl] at h1
    cases h1
  show mupd M l o a = _
  rw [mupd_ne this]
  exact h1
theorem Cl.le {M : Mem} {n m : Nat} {a : Addr} (h : Cl M n a) (hm : n ≤ m) : Cl M m a := by
  obtain ⟨ms, h1, h2, h3⟩ := h
  exact ⟨ms, h1, h2, Nat.le_trans h3 hm⟩
theorem look_ent_some (ms : Cells) (k : Int) : (look (ms.map entD) (.inl k)).isSome = (look ms k).isSome := by rw [look_ent, Option.isSome_map]
def sp_chained : DSp := fun ds M Q E => ∃ (hs : Addr) (b e : Int) (as : List Addr) (n : Nat), ds = [.ob hs, .int b, .int e, .int 3] ∧ M hs = some (.lst (as.map D.ob)) ∧ 0 ≤ b ∧ 0 ≤ e ∧ (∀ a ∈ as, Cl M n a) ∧ n ≤ 18 ∧ as.length ≤ 1000000 ∧
  ∀ (bs : List Addr) r M', (∀ a ∈ bs, Cl M' (n + 2) a) → bs.length ≤ 4 * as.length → M r = none → M' r = some (.lst (bs.map D.ob)) → Keep [] M M' → Q (.ob r) M'
theorem mono_chained : MonoSp sp_chained := by
  rintro ds M Q Q' E E' hQ hE ⟨hs, b, e, as, n, h1, h2, h3, h4, h5, h6, h7, h⟩
  exact ⟨hs, b, e, as, n, h1, h2, h3, h4, h5, h6, h7, fun bs r M' z1 z2 z3 z4 z5 => hQ _ _ (h bs r M' z1 z2 z3 z4 z5)⟩
theorem fn_chained (S0 : Src K mg "_law_chained" s__law_chained ["heaps", "begin", "end", "most"]) (G : GF K mg) : Fn P w K mg base 1 "_law_chained" sp_chained [] := by
  refine S0.fn mono_chained fun g fd F => fn_ok F sc__law_chained (fun ds M Q E h => by obtain ⟨hs, b, e, as, n, rfl, _⟩ := h; rfl) ⟨_, fun cdv A outer s H E hr => have hu := hr.u200
    (xss_cons (xs_set 4 sc__law_chained.nd (xe_lst (n := 0) xa_nil))
 (xss_cons (xs_for (p := .nm 5) bx_passes rfl (xi_walk (xe_var 0)) (xg_name 5 sc__law_chained.nd)
 (xss_one (xs_if (xt_cmp (x_eq hu) (xe_var 1) (xe_var 2) (nomark _) bl_eq)
 (xss_one (xs_expr (xe_bm PySem.F.plainAttrs_list PySem.F.slot_list_append PySem.F.type_list_append m_append (xe_var 4) (xa_cons (xe_var 5) xa_nil))))
 (xss_one (xs_if (xt_wh (xw_and (xt_cmp x_gt (xe_var 1) xe_int (nomark _) bl_gt) (xw_and1 (xt_cmp (x_notin hu) (xe_var 1) (xe_var 5) rfl bl_notin))))
 (xss_cons (xs_set 6 sc__law_chained.nd (xe_callTy (c_dictC rfl) (by rfl) G.dict (by decide +kernel) (xa_cons (xe_var 5) xa_nil)))
 (xss_cons (xs_put hu (xe_var 2) (xe_var 6) (xe_var 1))
 (xss_cons (xs_expr (xe_bm PySem.F.plainAttrs_list PySem.F.slot_list_append PySem.F.type_list_append m_append (xe_var 4) (xa_cons (xe_var 6) xa_nil)))
 (xss_one (xs_for (p := .nm 7) bx_passes rfl (xi_range2 (by rfl) G.range (xa_cons xe_int (xa_cons (xe_bin x_add (xe_var 3) xe_int) xa_nil))) (xg_name 7 sc__law_chained.nd)
 (xss_one (xs_if (xt_wh (xw_and (xt_cmp (x_notin hu) (xe_var 7) (xe_var 6) rfl bl_notin) (xw_and1 (xt_cmp (x_ne hu) (xe_var 7) (xe_var 2) (nomark _) bl_ne))))
 (xss_cons (xs_set 8 sc__law_chained.nd (xe_callTy (c_dictC rfl) (by rfl) G.dict (by decide +kernel) (xa_cons (xe_var 6) xa_nil)))
 (xss_cons (xs_put hu (xe_var 7) (xe_var 8) (xe_var 1))
 (xss_cons (xs_put hu (xe_var 2) (xe_var 8) (xe_var 7))
 (xss_one (xs_expr (xe_bm PySem.F.plainAttrs_list PySem.F.slot_list_append PySem.F.type_list_append m_append (xe_var 4) (xa_cons (xe_var 8) xa_nil)))))))
 xss_nil)))))))
 xss_nil)))))
 (xss_one (xs_ret (xe_var 4))))), fun ds M Q E h => ?_⟩
  obtain ⟨hs, b, e, as, n, rfl, hhs, hb, he, has, hn, hlen, h⟩ := h
  have sz : sizeLine = 16777216 := sizeLine_eq
  simp! []
  intro r hr
  have nr : hs ≠ r := ne_new hhs hr
  simp! [mupd_ne nr, hhs]
  refine loop_inv D.ob (fun rest env M' => ∃ (bs : List Addr) (d5 d6 d7 d8 : Option D), (∀ a ∈ rest, a ∈ as) ∧ (∀ a ∈ bs, Cl M' (n + 2) a) ∧ bs.length + 4 * rest.length ≤ 4 * as.length ∧ M' r = some (.lst (bs.map D.ob)) ∧ Keep [] M M' ∧ env = [some (.ob hs), some (.int b), some (.int e), some (.int 3), some (.ob r), d5, d6, d7, d8])
    (fun _ _ M' ⟨_, _, _, _, _, _, _, _, _, k, _⟩ => .inl (k _ _ hhs (by simp))) ?_ ?_ as _ _ ⟨[], _, _, _, _, fun a h => h, (fun a h => by cases h), by simp, mupd_same, Keep.new hr, rfl⟩
  · rintro a rest env M1 N ⟨bs, d5, d6, d7, d8, hrest, hbs, hcnt, hr1, k1, rfl⟩ hN
    have ha := (has a (hrest a List.mem_cons_self)).keep k1
    have hrest2 : ∀ a ∈ rest, a ∈ as := fun x hx => hrest x (List.mem_cons_of_mem _ hx)
    obtain ⟨ms, hms, hg, hl⟩ := ha
    have hms' : M1 a = some (.dk (ms.map entD)) := hms
    simp only [List.length_cons] at hcnt
    simp! []
    refine bif_dec (fun z => ?_) fun z => ?_
    · simp! [hr1]
      refine ⟨by rw [List.length_map]; omega, ?_⟩
      refine hN _ _ ⟨bs ++ [a], _, _, _, _, hrest2, fun x hx => ?_, by simp only [List.length_append, List.length_cons, List.length_nil]; omega, by rw [mupd_same]; simp, Keep.putN k1 hr, rfl⟩
      rcases List.mem_append.mp hx with z | z
      · exact (hbs x z).put hr1
      · rw [List.mem_singleton.mp z]
        exact (Cl.le ⟨ms, hms, hg, hl⟩ (by omega)).put hr1
    · simp! []
      refine bif_of (fun z2 => ?_) fun z2 => ?_
      · simp! [notIn_dkI hms', look_ent_some]
        refine bif_of (fun z3 => ?_) fun z3 => ?_
        · simp! [hms']
          intro o ho
          have ro : r ≠ o := ne_new hr1 ho
          simp! [List.length_map]
          refine ⟨by omega, ?_⟩
          rw [putD_ent]
          have ho1 : mupd (mupd M1 o (.dk (ms.map entD))) o (.dk ((putI ms b e).map entD)) o = some (.dk ((putI ms b e).map entD)) := mupd_same
          have kM : Keep [] M1 (mupd (mupd M1 o (.dk (ms.map entD))) o (.dk ((putI ms b e).map entD))) := Keep.putN (Keep.new ho) ho
          generalize mupd (mupd M1 o (.dk (ms.map entD))) o (.dk ((putI ms b e).map entD)) = M2 at ho1 kM ⊢
          have g1 : GoodH (putI ms b e) := hg.put (by omega) he
          have l1 := putI_len ms b e
          have hr2 := kM _ _ hr1 (by simp)
          simp! [hr2, List.length_map]
          refine ⟨by omega, by decide, ?_⟩
          have hr3 : mupd M2 r (.lst (bs.map D.ob ++ [.ob o])) r = some (.lst (bs.map D.ob ++ [.ob o])) := mupd_same
          have ho3 : mupd M2 r (.lst (bs.map D.ob ++ [.ob o])) o = some (.dk ((putI ms b e).map entD)) := by rw [mupd_ne ro.symm]; exact ho1
          refine loop_inv (fun i : Nat => D.int (1 + (i : Int))) (fun rest2 env M' => ∃ (bs2 : List Addr) (d7 d8 : Option D), (∀ a ∈ bs2, Cl M' (n + 2) a) ∧ bs2.length + rest2.length + 4 * rest.length ≤ 4 * as.length ∧ M' r = some (.lst (bs2.map D.ob)) ∧ M' o = some (.dk ((putI ms b e).map entD)) ∧ Keep [] M M' ∧ env = [some (.ob hs), some (.int b), some (.int e), some (.int 3), some (.ob r), some (.ob a), some (.ob o), d7, d8])
            (fun _ _ _ _ => trivial) ?_ ?_ (List.range _) _ _ ⟨bs ++ [o], _, _, fun x hx => ?_, ?_, by rw [hr3]; simp, ho3, Keep.putN (k1.trans kM) hr, rfl⟩
          · rintro i rest2 env M3 N2 ⟨bs2, d7, d8, hbs2, hc2, hr4, ho4, k4, rfl⟩ hN2
            simp only [List.length_cons] at hc2
            simp! [notIn_dkI ho4, look_ent_some]
            refine bif_of (fun y1 => ?_) fun y1 => ?_
            · simp! []
              refine bif_of (fun y2 => ?_) fun y2 => ?_
              · simp! [ho4]
                intro q hq
                have rq : r ≠ q := ne_new hr4 hq
                simp! [List.length_map]
                refine ⟨by omega, ?_⟩
                rw [putD_ent]
                simp! [List.length_map]
                have l2 := putI_len (putI ms b e) b (1 + (i : Int))
                have l4 := putI_twice ms b e (1 + (i : Int))
                refine ⟨by omega, ?_⟩
                rw [putD_ent]
                have g2 : GoodH (putI (putI ms b e) b (1 + (i : Int))) := g1.put (by omega) (by omega)
                have l3 := putI_len (putI (putI ms b e) b (1 + (i : Int))) (1 + (i : Int)) e
                have g3 := g2.put (k := 1 + (i : Int)) (v := e) (by omega) he
                generalize hms3 : putI (putI (putI ms b e) b (1 + (i : Int))) (1 + (i : Int)) e = ms3 at l3 g3 ⊢
                have kQ : Keep [] M3 (mupd (mupd (mupd M3 q (.dk ((putI ms b e).map entD))) q (.dk ((putI (putI ms b e) b (1 + (i : Int))).map entD))) q (.dk (ms3.map entD))) := Keep.putN (Keep.putN (Keep.new hq) hq) hq
                have hq1 : mupd (mupd (mupd M3 q (.dk ((putI ms b e).map entD))) q (.dk ((putI (putI ms b e) b (1 + (i : Int))).map entD))) q (.dk (ms3.map entD)) q = some (.dk (ms3.map entD)) := mupd_same
                generalize mupd (mupd (mupd M3 q (.dk ((putI ms b e).map entD))) q (.dk ((putI (putI ms b e) b (1 + (i : Int))).map entD))) q (.dk (ms3.map entD)) = M4 at kQ hq1 ⊢
                have hr5 := kQ _ _ hr4 (by simp)
                have oq := kQ _ _ ho4 (by simp)
                have ro2 : r ≠ o := ro
                simp! [hr5, List.length_map]
                refine ⟨by omega, ?_⟩
                refine hN2 _ _ ⟨bs2 ++ [q], _, _, fun x hx => ?_, by simp only [List.length_append, List.length_cons, List.length_nil]; omega, by rw [mupd_same]; simp, by rw [mupd_ne ro2.symm]; exact oq, Keep.putN (k4.trans kQ) hr, rfl⟩
                rcases List.mem_append.mp hx with z | z
                · exact ((hbs2 x z).keep kQ).put hr5
                · rw [List.mem_singleton.mp z]
                  exact Cl.put ⟨ms3, hq1, g3, by omega⟩ hr5
              · simp! []
                exact hN2 _ _ ⟨bs2, _, _, hbs2, by omega, hr4, ho4, k4, rfl⟩
            · simp! []
              exact hN2 _ _ ⟨bs2, _, _, hbs2, by omega, hr4, ho4, k4, rfl⟩
          · rintro env M3 ⟨bs2, d7, d8, hbs2, hc2, hr4, ho4, k4, rfl⟩
            simp! []
            simp only [List.length_nil] at hc2
            exact hN _ _ ⟨bs2, _, _, _, _, hrest2, hbs2, by omega, hr4, k4, rfl⟩
          · rcases List.mem_append.mp hx with z | z
            · exact ((hbs x z).keep kM).put hr2
            · rw [List.mem_singleton.mp z]
              exact ⟨putI ms b e, ho3, g1, by omega⟩
          · simp only [List.length_append, List.length_cons, List.length_nil, List.length_range]
            show bs.length + 1 + 3 + 4 * rest.length ≤ _
            omega
        · simp! []
          exact hN _ _ ⟨bs, _, _, _, _, hrest2, hbs, by omega, hr1, k1, rfl⟩
      · simp! []
        exact hN _ _ ⟨bs, _, _, _, _, hrest2, hbs, by omega, hr1, k1, rfl⟩
  · rintro env M1 ⟨bs, d5, d6, d7, d8, _, hbs, hcnt, hr1, k1, rfl⟩
    simp! []
    simp only [List.length_nil] at hcnt
    exact h bs r M1 hbs (by omega) hr hr1 k1
end K05

set_option maxHeartbeats 4000000
namespace K05
open PySem PySem.Spec PyProof.Rows L2 PL
variable {P : Program} {w : World} {K : PySem.W.Frag} {mg : Str → Option Value} {base : Heap}
local macro_rules | `(tactic| simp! [$ls,*]) => `(tactic| simp only [to_nx, to_rt, to_bk, to_ct, to_ex, lp_nx, lp_rt, lp_bk, lp_ct, lp_ex, ret_nx, ret_rt, ret_ex, s_exK, s_bif1, s_bif0, s_optB, s_optE, s_nxD, s_ifK, s_asgN, s_asgT, s_asgL, b_nil, b_nm, b_tp, s_next, s_seq, s_drop, s_ret, s_retN, s_ifS, s_asg, s_brk, s_cont, s_put, s_put1, s_put2, s_put3, s_aug, s_augV, s_augK, s_augK2, s_bin, s_bin1, s_bin2, s_var, s_varK, s_C, s_cb, s_cbK, s_call, s_callK, s_m, s_m1, s_m2, s_nil, s_cons, s_cons1, s_cons2, s_tup, s_tupK, s_lst, s_lstK, s_truth, s_trK, s_tK, s_eK, s_cK, s_and, s_andK, s_or, s_orK, s_not, s_notK, s_ife, s_ifeK, s_andV, s_orV, s_andvK, s_orvK, s_andvK2, s_orvK2, s_notV, s_notvK, s_blK, s_neg, s_negK, s_sl, s_sl1, s_sl2, s_sl3, s_noPart, s_part, s_partK, s_rev, s_revK, s_for, s_forK, s_lc, s_lcK, s_yes, s_walk, s_walkT, s_walkS, s_walkA, s_walkL, s_walkR, s_rng1, s_rng2, s_rng1K, s_rng2K, s_callL, s_callLK, s_callLO, s_clK, s_raise, r_val, r_new, r_put, s_whK, s_lcY, s_lcT, s_lcE, s_cg, s_cgK, s_rng3, s_rng3K, s_lcB, s_lcS, wipeD, Pat.bind, seqOf, rg, s_dict0, s_sortSet, s_sortSetK, q_is_tuple, q_is_str, q_is_int, q_is_bool, q_is_list, q_isR, ofS_inj, String.reduceEq, q_eqI, q_neI, q_eqS, q_neS, decide_true, decide_false, Int.reduceEq, reduceCtorEq, i_NoneType_tuple, i_NoneType_str, i_NoneType_int, i_NoneType_bool, i_NoneType_list, i_bool_tuple, i_bool_str, i_bool_int, i_bool_bool, i_bool_list, i_int_tuple, i_int_str, i_int_int, i_int_bool, i_int_list, i_str_tuple, i_str_str, i_str_int, i_str_bool, i_str_list, i_tuple_tuple, i_tuple_str, i_tuple_int, i_tuple_bool, i_tuple_list, i_list_tuple, i_list_str, i_list_int, i_list_bool, i_list_list, i_dict_tuple, i_dict_str, i_dict_int, i_dict_bool, i_dict_list, tyN, startD, mupd_same, mupd_ne, ne_eq, not_false_eq_true, List.map_cons, List.map_nil, List.length_cons, List.length_nil, List.replicate_succ, List.replicate_zero, Nat.zero_add, Nat.reduceAdd, Nat.reduceSub, Int.cast_ofNat_Int, List.cons_append, List.nil_append, List.getElem?_cons_zero, List.getElem?_cons_succ, List.set_cons_zero, List.set_cons_succ, opIx, atI_cons, ixN, opPut, opAdd, opSub, opMul, opFdiv, opMod, opPow, opLt, opLe, opGt, opGe, opIs, opIsNot, D.isNon, truth, bLen, bAbs, bInt, bTuple, bList, isTy, mAppend, mExtend, mPop, Int.reduceLE, Int.reduceLT, Int.reduceToNat, Int.reduceNeg, Int.reduceNe, Option.bind_some, if_true, if_false, ite_true, ite_false, true_and, and_true, Bool.not_true, Bool.not_false, opIadd, Nat.reduceLT, Nat.reduceLeDiff, Int.ofNat_lt, s_dpNil, s_dpCons, s_dpK1, s_dpK2, s_dpK3, s_disp, s_dispK, s_optKV, kvOf, s_dc, s_dcK, s_keys, s_lockK, s_sortIt, mGet, mDPop, dgetR, bDictC, bTupC, opEqD, opNeD, eqDR, D.key, merge_one, optKV, id, opEqL, opNeL, eqLR, $ls,*])
def sp_heaps : DSp := fun ds M Q E => ∃ (p : Pic) (pl : Addr) (f : Str → Int) (S : List Str), ds = [p.enc, .ob pl, .int 3] ∧ PlAt M pl f S ∧ (∀ x, 0 ≤ f x) ∧ p.In S ∧ p.cells.length + p.chains.length ≤ 3 ∧
  ∀ (bs : List Addr) r M', (∀ a ∈ bs, Cl M' 9 a) → bs.length ≤ 64 → M r = none → M' r = some (.lst (bs.map D.ob)) → Keep [] M M' → Q (.ob r) M'
theorem mono_heaps : MonoSp sp_heaps := by
  rintro ds M Q Q' E E' hQ hE ⟨p, pl, f, S, h1, h2, h3, h4, h5, h⟩
  exact ⟨p, pl, f, S, h1, h2, h3, h4, h5, fun bs r M' z1 z2 z3 z4 z5 => hQ _ _ (h bs r M' z1 z2 z3 z4 z5)⟩
theorem fn_heaps (S0 : Src K mg "_law_heaps" s__law_heaps ["picture", "places", "most"]) (G : GF K mg) (F__law_chained : Fn P w K mg base 1 "_law_chained" sp_chained []) : Fn P w K mg base 2 "_law_heaps" sp_heaps [] := by
  refine S0.fn mono_heaps fun g fd F => fn_ok F sc__law_heaps (fun ds M Q E h => by obtain ⟨p, pl, f, S, rfl, _⟩ := h; rfl) ⟨_, fun cdv A outer s H E hr => have hu := hr.u200
    (xss_cons (xs_set 3 sc__law_heaps.nd (xe_lst (n := 1) (xa_cons xe_dict0 xa_nil)))
 (xss_cons (xs_for (p := .tp [.nm 4, .nm 5]) bx_passes rfl (xi_walk (xe_ix hu (xe_var 0) xe_int)) (xg_tup rfl (xgs_cons (xg_name 4 sc__law_heaps.nd) (xgs_cons (xg_name 5 sc__law_heaps.nd) xgs_nil)))
 (xss_cons (xs_set 6 sc__law_heaps.nd (xe_lst (n := 0) xa_nil))
 (xss_cons (xs_for (p := .nm 7) bx_passes rfl (xi_walk (xe_var 3)) (xg_name 7 sc__law_heaps.nd)
 (xss_one (xs_if (xt_wh (xw_and (xt_cmp x_gt (xe_ix hu (xe_var 1) (xe_var 4)) xe_int (nomark _) bl_gt) (xw_and1 (xt_cmp (x_notin hu) (xe_ix hu (xe_var 1) (xe_var 4)) (xe_var 7) rfl bl_notin))))
 (xss_cons (xs_set 8 sc__law_heaps.nd (xe_callTy (c_dictC rfl) (by rfl) G.dict (by decide +kernel) (xa_cons (xe_var 7) xa_nil)))
 (xss_cons (xs_put hu (xe_ix hu (xe_var 1) (xe_var 5)) (xe_var 8) (xe_ix hu (xe_var 1) (xe_var 4)))
 (xss_one (xs_expr (xe_bm PySem.F.plainAttrs_list PySem.F.slot_list_append PySem.F.type_list_append m_append (xe_var 6) (xa_cons (xe_var 8) xa_nil))))))
 xss_nil)))
 (xss_one (xs_set 3 sc__law_heaps.nd (xe_var 6))))))
 (xss_cons (xs_for (p := .tp [.nm 4, .nm 5]) bx_passes rfl (xi_walk (xe_ix hu (xe_var 0) xe_int)) (xg_tup rfl (xgs_cons (xg_name 4 sc__law_heaps.nd) (xgs_cons (xg_name 5 sc__law_heaps.nd) xgs_nil)))
 (xss_one (xs_set 3 sc__law_heaps.nd (xe_call F__law_chained (hr.mono (by first | decide | omega)) bx_takes (by rfl) (xa_cons (xe_var 3) (xa_cons (xe_ix hu (xe_var 1) (xe_var 4)) (xa_cons (xe_ix hu (xe_var 1) (xe_var 5)) (xa_cons (xe_var 2) xa_nil))))))))
 (xss_one (xs_ret (xe_var 3)))))), fun ds M Q E h => ?_⟩
  obtain ⟨p, pl, f, S, rfl, ⟨kvs, hpl, lk⟩, f0, hp, hcc, h⟩ := h
  have sz : sizeLine = 16777216 := sizeLine_eq
  have pl_at : ∀ {M' : Mem}, Keep [] M M' → M' pl = some (.dk kvs) := fun k => k _ _ hpl (by simp)
  simp! []
  intro d hd r hr
  have k0 : Keep [] M (mupd (mupd M d (.dk [])) r (.lst [.ob d])) := (Keep.new hd).trans (Keep.new hr)
  have hr0 : M r = none := (mupd_none ▸ hr : _ ∧ _).2
  have dr : d ≠ r := ne_new mupd_same hr
  have hd1 : mupd (mupd M d (.dk [])) r (.lst [.ob d]) d = some (.dk []) := by rw [mupd_ne dr]; exact mupd_same
  have hr1 : mupd (mupd M d (.dk [])) r (.lst [.ob d]) r = some (.lst [.ob d]) := mupd_same
  generalize mupd (mupd M d (.dk [])) r (.lst [.ob d]) = M1 at k0 hd1 hr1 ⊢
  refine loop_inv prD (fun rest env M' => ∃ (l : Addr) (bs : List Addr) (d4 d5 d6 d7 d8 : Option D), (∀ q ∈ rest, q.1 ∈ S ∧ q.2 ∈ S) ∧ rest.length ≤ p.cells.length ∧ (∀ a ∈ bs, Cl M' (p.cells.length - rest.length) a) ∧ bs.length ≤ 1 ∧ M l = none ∧ M' l = some (.lst (bs.map D.ob)) ∧ Keep [] M M' ∧ env = [some p.enc, some (.ob pl), some (.int 3), some (.ob l), d4, d5, d6, d7, d8])
    (fun _ _ _ _ => trivial) ?_ ?_ p.cells _ _ ⟨r, [d], _, _, _, _, _, hp.cells, Nat.le_refl _, (fun a ha => by rw [List.mem_singleton.mp ha]; exact ⟨[], hd1, GoodH.nil, Nat.zero_le _⟩), by simp, hr0, hr1, k0, rfl⟩
  · rintro q rest env M2 N ⟨l, bs, d4, d5, d6, d7, d8, hq, hrl, hbs, hcnt, hl0, hl1, k1, rfl⟩ hN
    obtain ⟨q1, q2⟩ := hq q List.mem_cons_self
    simp only [List.length_cons] at hrl hbs
    simp! []
    intro o ho
    have lo : l ≠ o := ne_new hl1 ho
    simp! [mupd_ne lo, hl1]
    refine loop_inv D.ob (fun rest2 env M' => ∃ (cs : List Addr) (d7 d8 : Option D), (∀ a ∈ rest2, a ∈ bs) ∧ (∀ a ∈ cs, Cl M' (p.cells.length - rest.length) a) ∧ cs.length + rest2.length ≤ bs.length ∧ M' o = some (.lst (cs.map D.ob)) ∧ Keep [] M2 M' ∧ env = [some p.enc, some (.ob pl), some (.int 3), some (.ob l), some (.str q.1), some (.str q.2), some (.ob o), d7, d8])
      (fun _ _ M' ⟨_, _, _, _, _, _, _, k, _⟩ => .inl (k _ _ hl1 (by simp))) ?_ ?_ bs _ _ ⟨[], _, _, fun a h => h, (fun a h => by cases h), by simp, mupd_same, Keep.new ho, rfl⟩
    · rintro a rest2 env M3 N2 ⟨cs, d7, d8, hr2, hcs, hc2, ho1, k2, rfl⟩ hN2
      have hr3 : ∀ a ∈ rest2, a ∈ bs := fun x hx => hr2 x (List.mem_cons_of_mem _ hx)
      simp only [List.length_cons] at hc2
      obtain ⟨ms, hms, hg, hl⟩ := (hbs a (hr2 a List.mem_cons_self)).keep k2
      have hms' : M3 a = some (.dk (ms.map entD)) := hms
      have pl3 := pl_at (k1.trans k2)
      simp! [pl3, lk _ q1]
      refine bif_of (fun z => ?_) fun z => ?_
      · simp! [pl3, lk _ q1, notIn_dkI hms', look_ent_some]
        refine bif_of (fun z2 => ?_) fun z2 => ?_
        · simp! [hms']
          intro t ht
          have tp : pl ≠ t := ne_new pl3 ht
          have ot : o ≠ t := ne_new ho1 ht
          simp! [mupd_ne tp, pl3, lk _ q1, lk _ q2, List.length_map]
          refine ⟨by omega, ?_⟩
          rw [putD_ent]
          have l1 := putI_len ms (f q.1) (f q.2)
          have g1 := hg.put (k := f q.1) (v := f q.2) (by omega) (f0 _)
          have kT : Keep [] M3 (mupd (mupd M3 t (.dk (ms.map entD))) t (.dk ((putI ms (f q.1) (f q.2)).map entD))) := Keep.putN (Keep.new ht) ht
          have ht1 : mupd (mupd M3 t (.dk (ms.map entD))) t (.dk ((putI ms (f q.1) (f q.2)).map entD)) t = some (.dk ((putI ms (f q.1) (f q.2)).map entD)) := mupd_same
          generalize mupd (mupd M3 t (.dk (ms.map entD))) t (.dk ((putI ms (f q.1) (f q.2)).map entD)) = M4 at kT ht1 ⊢
          have ho2 := kT _ _ ho1 (by simp)
          simp! [ho2, List.length_map]
          refine ⟨by omega, ?_⟩
          refine hN2 _ _ ⟨cs ++ [t], _, _, hr3, fun x hx => ?_, by simp only [List.length_append, List.length_cons, List.length_nil]; omega, by rw [mupd_same]; simp, Keep.putN (k2.trans kT) ho, rfl⟩
          rcases List.mem_append.mp hx with z | z
          · exact ((hcs x z).keep kT).put ho2
          · rw [List.mem_singleton.mp z]
            exact Cl.put ⟨_, ht1, g1, by omega⟩ ho2
        · simp! []
          exact hN2 _ _ ⟨cs, _, _, hr3, hcs, by omega, ho1, k2, rfl⟩
      · simp! []
        exact hN2 _ _ ⟨cs, _, _, hr3, hcs, by omega, ho1, k2, rfl⟩
    · rintro env M3 ⟨cs, d7, d8, _, hcs, hc2, ho1, k2, rfl⟩
      simp! []
      simp only [List.length_nil] at hc2
      exact hN _ _ ⟨o, cs, _, _, _, _, _, fun x hx => hq x (List.mem_cons_of_mem _ hx), by omega, hcs, by omega, Keep.fresh k1 ho, ho1, k1.trans k2, rfl⟩
  · rintro env M2 ⟨l, bs, d4, d5, d6, d7, d8, _, _, hbs, hcnt, hl0, hl1, k1, rfl⟩
    simp! [atI_cons, ixN]
    refine loop_inv prD (fun rest env M' => ∃ (l : Addr) (bs : List Addr) (k : Nat) (d4 d5 d6 d7 d8 : Option D), (∀ q ∈ rest, q.1 ∈ S ∧ q.2 ∈ S) ∧ k + rest.length = p.chains.length ∧ (∀ a ∈ bs, Cl M' (p.cells.length + 2 * k) a) ∧ bs.length ≤ 4 ^ k ∧ M l = none ∧ M' l = some (.lst (bs.map D.ob)) ∧ Keep [] M M' ∧ env = [some p.enc, some (.ob pl), some (.int 3), some (.ob l), d4, d5, d6, d7, d8])
      (fun _ _ _ _ => trivial) ?_ ?_ p.chains _ _ ⟨l, bs, 0, _, _, _, _, _, hp.chains, by omega, fun a ha => (hbs a ha).le (by simp), by simpa using hcnt, hl0, hl1, k1, rfl⟩
    · rintro q rest env M3 N ⟨l, bs, k, d4, d5, d6, d7, d8, hq, hk, hbs, hcnt, hl0, hl1, k2, rfl⟩ hN
      obtain ⟨q1, q2⟩ := hq q List.mem_cons_self
      simp only [List.length_cons] at hk
      have c16 : bs.length ≤ 16 := Nat.le_trans hcnt (Nat.le_trans (Nat.pow_le_pow_right (by decide) (show k ≤ 2 by omega)) (by decide))
      simp! [pl_at k2, lk _ q1, lk _ q2]
      refine ⟨l, f q.1, f q.2, bs, p.cells.length + 2 * k, rfl, hl1, f0 _, f0 _, hbs, by omega, by omega, fun cs r3 M4 hcs hc hr3 hr4 k3 => ?_⟩
      simp! []
      refine hN _ _ ⟨r3, cs, k + 1, _, _, _, _, _, fun x hx => hq x (List.mem_cons_of_mem _ hx), by omega, fun a ha => (hcs a ha).le (by omega), by rw [Nat.pow_succ]; omega, Keep.fresh k2 hr3, hr4, k2.trans k3, rfl⟩
    · rintro env M3 ⟨l, bs, k, d4, d5, d6, d7, d8, _, hk, hbs, hcnt, hl0, hl1, k2, rfl⟩
      have hk : k = p.chains.length := hk
      subst hk
      simp! []
      exact h bs l M3 (fun a ha => (hbs a ha).le (by omega)) (Nat.le_trans hcnt (Nat.le_trans (Nat.pow_le_pow_right (by decide) (show p.chains.length ≤ 3 by omega)) (by decide))) hl0 hl1 k2
/-- a world of a law: where names lie, and cells -/
def Wd (M : Mem) (S : List Str) (d : D) : Prop := ∃ (pl c : Addr) (f : Str → Int), d = .tup [.ob pl, .ob c] ∧ PlAt M pl f (nil :: S) ∧ (∀ x, 0 ≤ f x) ∧ f nil = 0 ∧ Cl M 9 c
theorem Wd.keep {M M' : Mem} {S : List Str} {d : D} {T : List Addr} (h : Wd M S d) (k : Keep T M M') (hT : ∀ a ∈ T, ∃ ds, M a = some (.lst ds)) : Wd M' S d := by
  obtain ⟨pl, c, f, h1, ⟨kvs, h2, h2'⟩, h3, h4, ms, h5, h6⟩ := h
  have np : pl ∉ T := fun hm => by
    obtain ⟨ds, e⟩ := hT _ hm
    rw [h2] at e
    cases e
  have nc : c ∉ T := fun hm => by
    obtain ⟨ds, e⟩ := hT _ hm
    have h5 : M c = _ := h5
    rw [h5] at e
    cases e
  exact ⟨pl, c, f, h1, ⟨kvs, k _ _ h2 np, h2'⟩, h3, h4, ms, k _ _ h5 nc, h6⟩
end K05

set_option maxHeartbeats 4000000
namespace K05
open PySem PySem.Spec PyProof.Rows L2 PL
variable {P : Program} {w : World} {K : PySem.W.Frag} {mg : Str → Option Value} {base : Heap}
local macro_rules | `(tactic| simp! [$ls,*]) => `(tactic| simp only [to_nx, to_rt, to_bk, to_ct, to_ex, lp_nx, lp_rt, lp_bk, lp_ct, lp_ex, ret_nx, ret_rt, ret_ex, s_exK, s_bif1, s_bif0, s_optB, s_optE, s_nxD, s_ifK, s_asgN, s_asgT, s_asgL, b_nil, b_nm, b_tp, s_next, s_seq, s_drop, s_ret, s_retN, s_ifS, s_asg, s_brk, s_cont, s_put, s_put1, s_put2, s_put3, s_aug, s_augV, s_augK, s_augK2, s_bin, s_bin1, s_bin2, s_var, s_varK, s_C, s_cb, s_cbK, s_call, s_callK, s_m, s_m1, s_m2, s_nil, s_cons, s_cons1, s_cons2, s_tup, s_tupK, s_lst, s_lstK, s_truth, s_trK, s_tK, s_eK, s_cK, s_and, s_andK, s_or, s_orK, s_not, s_notK, s_ife, s_ifeK, s_andV, s_orV, s_andvK, s_orvK, s_andvK2, s_orvK2, s_notV, s_notvK, s_blK, s_neg, s_negK, s_sl, s_sl1, s_sl2, s_sl3, s_noPart, s_part, s_partK, s_rev, s_revK, s_for, s_forK, s_lc, s_lcK, s_yes, s_walk, s_walkT, s_walkS, s_walkA, s_walkL, s_walkR, s_rng1, s_rng2, s_rng1K, s_rng2K, s_callL, s_callLK, s_callLO, s_clK, s_raise, r_val, r_new, r_put, s_whK, s_lcY, s_lcT, s_lcE, s_cg, s_cgK, s_rng3, s_rng3K, s_lcB, s_lcS, wipeD, Pat.bind, seqOf, rg, s_dict0, s_sortSet, s_sortSetK, q_is_tuple, q_is_str, q_is_int, q_is_bool, q_is_list, q_isR, ofS_inj, String.reduceEq, q_eqI, q_neI, q_eqS, q_neS, decide_true, decide_false, Int.reduceEq, reduceCtorEq, i_NoneType_tuple, i_NoneType_str, i_NoneType_int, i_NoneType_bool, i_NoneType_list, i_bool_tuple, i_bool_str, i_bool_int, i_bool_bool, i_bool_list, i_int_tuple, i_int_str, i_int_int, i_int_bool, i_int_list, i_str_tuple, i_str_str, i_str_int, i_str_bool, i_str_list, i_tuple_tuple, i_tuple_str, i_tuple_int, i_tuple_bool, i_tuple_list, i_list_tuple, i_list_str, i_list_int, i_list_bool, i_list_list, i_dict_tuple, i_dict_str, i_dict_int, i_dict_bool, i_dict_list, tyN, startD, mupd_same, mupd_ne, ne_eq, not_false_eq_true, List.map_cons, List.map_nil, List.length_cons, List.length_nil, List.replicate_succ, List.replicate_zero, Nat.zero_add, Nat.reduceAdd, Nat.reduceSub, Int.cast_ofNat_Int, List.cons_append, List.nil_append, List.getElem?_cons_zero, List.getElem?_cons_succ, List.set_cons_zero, List.set_cons_succ, opIx, atI_cons, ixN, opPut, opAdd, opSub, opMul, opFdiv, opMod, opPow, opLt, opLe, opGt, opGe, opIs, opIsNot, D.isNon, truth, bLen, bAbs, bInt, bTuple, bList, isTy, mAppend, mExtend, mPop, Int.reduceLE, Int.reduceLT, Int.reduceToNat, Int.reduceNeg, Int.reduceNe, Option.bind_some, if_true, if_false, ite_true, ite_false, true_and, and_true, Bool.not_true, Bool.not_false, opIadd, Nat.reduceLT, Nat.reduceLeDiff, Int.ofNat_lt, s_dpNil, s_dpCons, s_dpK1, s_dpK2, s_dpK3, s_disp, s_dispK, s_optKV, kvOf, s_dc, s_dcK, s_keys, s_lockK, s_sortIt, mGet, mDPop, dgetR, bDictC, bTupC, opEqD, opNeD, eqDR, D.key, merge_one, optKV, id, opEqL, opNeL, eqLR, $ls,*])
abbrev zD (z : Str × Int) : Key × D := (Sum.inr z.1, D.int z.2)
theorem look_z (x : Str) : ∀ zs : List (Str × Int), look (zs.map zD) (.inr x) = (look zs x).map D.int
  | [] => rfl
  | z :: r => by
    simp only [List.map_cons, look, Sum.inr.injEq]
    split
    · rfl
    · exact look_z x r
theorem look_some {β : Type} {x : Str} : ∀ {zs : List (Str × β)}, x ∈ zs.map (·.1) → ∃ v, look zs x = some v ∧ (x, v) ∈ zs
  | [], h => by cases h
  | z :: r, h => by
    unfold look
    by_cases e : z.1 = x
    · exact ⟨z.2, by rw [if_pos e], by rw [← e]; exact List.mem_cons_self⟩
    · rw [if_neg e]
      rw [List.map_cons] at h
      rcases List.mem_cons.mp h with h | h
      · exact absurd h.symm e
      · obtain ⟨v, h1, h2⟩ := look_some h
        exact ⟨v, h1, List.mem_cons_of_mem _ h2⟩
def fOf (zs : List (Str × Int)) (x : Str) : Int := (look zs x).getD 0
theorem fOf_nn {zs : List (Str × Int)} (h : ∀ z ∈ zs, 0 ≤ z.2) (x : Str) : 0 ≤ fOf zs x := by
  unfold fOf
  cases e : look zs x with
  | none => exact Int.le_refl _
  | some v =>
    have : ∀ {zs : List (Str × Int)}, look zs x = some v → (x, v) ∈ zs := by
      intro zs
      induction zs with
      | nil => intro h; cases h
      | cons z r ih =>
        intro h
        unfold look at h
        split at h
        · rename_i e2
          cases h
          rw [← e2]
          exact List.mem_cons_self
        · exact List.mem_cons_of_mem _ (ih h)
    exact h _ (this e)
theorem zip_keys {S : List Str} {row : List Int} (h : row.length = S.length) : (S.zip row).map (·.1) = S := List.map_fst_zip (by omega)
theorem plz {M : Mem} {pl : Addr} {S : List Str} {row : List Int} (hr : row.length = S.length) (h : M pl = some (.dk (((nil, (0 : Int)) :: S.zip row).map zD))) : PlAt M pl (fOf ((nil, 0) :: S.zip row)) (nil :: S) := by
  refine ⟨_, h, fun x hx => ?_⟩
  have hx : x ∈ ((nil, (0 : Int)) :: S.zip row).map (·.1) := by
    rw [List.map_cons, zip_keys hr]
    exact hx
  obtain ⟨v, h1, _⟩ := look_some hx
  rw [look_z, h1]
  unfold fOf
  rw [h1]
  rfl
def sp_models : DSp := fun ds M Q E => ∃ (p : Pic) (nm : Addr) (S : List Str), ds = [p.enc, .ob nm, .int 3] ∧ M nm = some (.lst (S.map D.str)) ∧ S.length ≤ 3 ∧ S.Nodup ∧ nil ∉ S ∧ p.In (nil :: S) ∧ p.same.length ≤ 1000 ∧ p.unlike.length ≤ 1000 ∧ p.cells.length + p.chains.length ≤ 3 ∧
  ∀ (ws : List D) r M', (∀ d ∈ ws, Wd M' S d) → ws.length ≤ 4096 → M r = none → M' r = some (.lst ws) → Keep [] M M' → Q (.ob r) M'
theorem mono_models : MonoSp sp_models := by
  rintro ds M Q Q' E E' hQ hE ⟨p, nm, S, h1, h2, h3, h4, h5, h6, h7, h8, h9, h⟩
  exact ⟨p, nm, S, h1, h2, h3, h4, h5, h6, h7, h8, h9, fun ws r M' z1 z2 z3 z4 z5 => hQ _ _ (h ws r M' z1 z2 z3 z4 z5)⟩
theorem fn_models (S0 : Src K mg "_law_models" s__law_models ["picture", "names", "most"]) (G : GF K mg) (F__law_stacks : Fn P w K mg base 1 "_law_stacks" sp_stacks []) (F__law_heaps : Fn P w K mg base 2 "_law_heaps" sp_heaps []) : Fn P w K mg base 3 "_law_models" sp_models [] := by
  refine S0.fn mono_models fun g fd F => fn_ok F sc__law_models (fun ds M Q E h => by obtain ⟨p, nm, S, rfl, _⟩ := h; rfl) ⟨_, fun cdv A outer s H E hr => have hu := hr.u200
    (xss_cons (xs_set 3 sc__law_models.nd (xe_lst (n := 0) xa_nil))
 (xss_cons (xs_for (p := .nm 4) bx_passes rfl (xi_walk (xe_call F__law_stacks (hr.mono (by first | decide | omega)) bx_takes (by rfl) (xa_cons (xe_var 1) (xa_cons (xe_var 2) xa_nil)))) (xg_name 4 sc__law_models.nd)
 (xss_cons (xs_set 5 sc__law_models.nd (xe_disp (xps_cons xe_str xe_int xps_nil)))
 (xss_cons (xs_for (p := .nm 6) bx_passes rfl (xi_range1 (by rfl) G.range (xa_cons (xe_callB c_len (by rfl) G.len (by decide +kernel) (xa_cons (xe_var 1) xa_nil)) xa_nil)) (xg_name 6 sc__law_models.nd)
 (xss_one (xs_put hu (xe_ix hu (xe_var 4) (xe_var 6)) (xe_var 5) (xe_ix hu (xe_var 1) (xe_var 6)))))
 (xss_one (xs_if (xt_val (xe_callB (c_all rfl) (by rfl) G.all (by decide +kernel) (xa_cons (xe_lc (own := [("one", 7), ("other", 8)]) (p := .tp [.nm 7, .nm 8]) rfl sc__law_models.nd (xi_walk (xe_ix hu (xe_var 0) xe_int)) (blkOk_by (by show blkC ["picture", "names", "most", "found", "row", "places", "k", "one", "other", "heap"] (defScope s__law_models) _ _ = true; decide +kernel)) (fun _ _ _ _ _ => (xg_tup rfl (xgs_cons (xg_name 7 sc__law_models.nd) (xgs_cons (xg_name 8 sc__law_models.nd) xgs_nil)))) (fun _ _ _ _ _ => xts_nil) (fun _ _ _ _ _ => (xe_cmp (x_eq hu) (xe_ix hu (xe_var 5) (xe_var 7)) (xe_ix hu (xe_var 5) (xe_var 8)) (nomark _)))) xa_nil)))
 (xss_one (xs_if (xt_val (xe_callB (c_all rfl) (by rfl) G.all (by decide +kernel) (xa_cons (xe_lc (own := [("one", 7), ("other", 8)]) (p := .tp [.nm 7, .nm 8]) rfl sc__law_models.nd (xi_walk (xe_ix hu (xe_var 0) xe_int)) (blkOk_by (by show blkC ["picture", "names", "most", "found", "row", "places", "k", "one", "other", "heap"] (defScope s__law_models) _ _ = true; decide +kernel)) (fun _ _ _ _ _ => (xg_tup rfl (xgs_cons (xg_name 7 sc__law_models.nd) (xgs_cons (xg_name 8 sc__law_models.nd) xgs_nil)))) (fun _ _ _ _ _ => xts_nil) (fun _ _ _ _ _ => (xe_cmp (x_ne hu) (xe_ix hu (xe_var 5) (xe_var 7)) (xe_ix hu (xe_var 5) (xe_var 8)) (nomark _)))) xa_nil)))
 (xss_one (xs_set 3 sc__law_models.nd (xe_bin x_add (xe_var 3) (xe_lc (own := [("heap", 9)]) (p := .nm 9) rfl sc__law_models.nd (xi_walk (xe_call F__law_heaps (hr.mono (by first | decide | omega)) bx_takes (by rfl) (xa_cons (xe_var 0) (xa_cons (xe_var 5) (xa_cons (xe_var 2) xa_nil))))) (blkOk_by (by show blkC ["picture", "names", "most", "found", "row", "places", "k", "one", "other", "heap"] (defScope s__law_models) _ _ = true; decide +kernel)) (fun _ _ _ _ _ => (xg_name 9 sc__law_models.nd)) (fun _ _ _ _ _ => xts_nil) (fun _ _ _ _ _ => (xe_tup (n := 2) (xa_cons (xe_var 5) (xa_cons (xe_var 9) xa_nil))))))))
 xss_nil))
 xss_nil)))))
 (xss_one (xs_ret (xe_var 3))))), fun ds M Q E h => ?_⟩
  obtain ⟨p, nm, S, rfl, hnm, hl, hnd, hnil, hp, hl1, hl2, hl3, h⟩ := h
  have sz : sizeLine = 16777216 := sizeLine_eq
  have nm_at : ∀ {M' : Mem}, Keep [] M M' → M' nm = some (.lst (S.map D.str)) := fun k => k _ _ hnm (by simp)
  simp! []
  intro r hr
  have k0 : Keep [] M (mupd M r (.lst [])) := Keep.new hr
  refine ⟨nm, S, rfl, nm_at k0, hl, fun rows rr M1 hrows hcnt hrr hrr1 k1 => ?_⟩
  have hr1 := k1 _ _ (mupd_same : mupd M r (.lst []) r = _) (by simp)
  have kk := k0.trans k1
  simp! [hrr1]
  refine loop_inv rowD (fun rest env M' => ∃ (l : Addr) (ws : List D) (d4 d5 d6 d7 d8 d9 : Option D), (∀ x ∈ rest, x.length = S.length ∧ ∀ i ∈ x, 0 ≤ i) ∧ (∀ d ∈ ws, Wd M' S d) ∧ ws.length + 64 * rest.length ≤ 64 * rows.length ∧ M l = none ∧ M' l = some (.lst ws) ∧ Keep [] M1 M' ∧ env = [some p.enc, some (.ob nm), some (.int 3), some (.ob l), d4, d5, d6, d7, d8, d9])
    (fun _ _ M' ⟨_, _, _, _, _, _, _, _, _, _, _, _, _, k, _⟩ => .inl (k _ _ hrr1 (by simp))) ?_ ?_ rows _ _ ⟨r, [], _, _, _, _, _, _, hrows, (fun d hd => by cases hd), by simp, hr, hr1, Keep.refl, rfl⟩
  · rintro row rest env M2 N ⟨l, ws, d4, d5, d6, d7, d8, d9, hrest, hws, hcw, hl0, hl1, k2, rfl⟩ hN
    obtain ⟨hrl, hrp⟩ := hrest row List.mem_cons_self
    have hrest2 : ∀ x ∈ rest, x.length = S.length ∧ ∀ i ∈ x, 0 ≤ i := fun x hx => hrest x (List.mem_cons_of_mem _ hx)
    simp only [List.length_cons] at hcw
    have k02 := kk.trans k2
    simp! []
    intro pl hpl
    have e1 : Keep [] M2 (mupd (mupd M2 pl (.dk [])) pl (.dk [((.inr nil : Key), .int 0)])) := Keep.putN (Keep.new hpl) hpl
    have e2 : mupd (mupd M2 pl (.dk [])) pl (.dk [((.inr nil : Key), .int 0)]) pl = some (.dk [((.inr nil : Key), .int 0)]) := mupd_same
    generalize mupd (mupd M2 pl (.dk [])) pl (.dk [((.inr nil : Key), .int 0)]) = M3 at e1 e2 ⊢
    have nm3 := nm_at (k02.trans e1)
    simp! [nm3, List.length_map]
    refine ⟨by omega, ?_⟩
    refine loop_inv (fun i : Nat => D.int (0 + (i : Int))) (fun rest2 env M' => ∃ (i : Nat) (d6 : Option D), rest2 = List.range' i (S.length - i) ∧ i ≤ S.length ∧ M' pl = some (.dk (((nil, (0 : Int)) :: (S.zip row).take i).map zD)) ∧ Keep [] M2 M' ∧ env = [some p.enc, some (.ob nm), some (.int 3), some (.ob l), some (rowD row), some (.ob pl), d6, d7, d8, d9])
      (fun _ _ _ _ => trivial) ?_ ?_ (List.range _) _ _ ⟨0, _, by rw [List.range_eq_range', Int.toNat_natCast]; rfl, Nat.zero_le _, e2, e1, rfl⟩
    · rintro i rest2 env M4 N2 ⟨i2, d6, er, hi2, hpl4, k4, rfl⟩ hN2
      have hlt : i2 < S.length := by
        by_cases z : S.length - i2 = 0
        · rw [z] at er; cases er
        · omega
      obtain ⟨n, en⟩ : ∃ n, S.length - i2 = n + 1 := ⟨S.length - i2 - 1, by omega⟩
      rw [en, List.range'_succ] at er
      injection er with ex er2
      subst ex
      have nm4 := nm_at (k02.trans k4)
      have ix1 : atI (S.map D.str) (0 + (i : Int)) = some (D.str S[i]) := by rw [atI_nat' (by rw [List.length_map]; exact hlt)]; simp
      have ix2 : atI (row.map D.int) (0 + (i : Int)) = some (D.int (row[i]'(by omega))) := by rw [atI_nat' (by rw [List.length_map]; omega)]; simp
      have small : (((nil, (0 : Int)) :: (S.zip row).take i).map zD).length < sizeLine := by
        rw [List.length_map, List.length_cons, List.length_take, List.length_zip]
        omega
      simp! [nm4, ix1, ix2, hpl4]
      refine ⟨by simpa using small, ?_⟩
      have ez : (S.zip row).take (i + 1) = (S.zip row).take i ++ [(S[i], row[i]'(by omega))] := by
        rw [List.take_succ, List.getElem?_eq_getElem (by rw [List.length_zip]; omega)]
        simp
      have fresh : (Sum.inr S[i] : Key) ∉ (((nil, (0 : Int)) :: (S.zip row).take i).map zD).map (·.1) := by
        rw [List.map_map]
        intro hm
        obtain ⟨z, hz, e⟩ := List.mem_map.mp hm
        have e : z.1 = S[i] := Sum.inr.inj e
        rcases List.mem_cons.mp hz with z2 | z2
        · rw [z2] at e
          exact hnil (by rw [show nil = S[i] from e]; exact List.getElem_mem hlt)
        · obtain ⟨j, hj, ej⟩ := List.getElem_of_mem z2
          simp only [List.length_take, List.length_zip] at hj
          rw [List.getElem_take, List.getElem_zip] at ej
          rw [← ej] at e
          have : j = i := (List.getElem?_inj (by omega) hnd).mp (by rw [List.getElem?_eq_getElem (by omega), List.getElem?_eq_getElem hlt]; exact congrArg some e)
          omega
      have pe := putD_fresh (d := D.int (row[i]'(by omega))) fresh
      refine hN2 _ _ ⟨i + 1, _, by rw [er2, show S.length - (i + 1) = n by omega], by omega, ?_, Keep.putN k4 hpl, rfl⟩
      rw [mupd_same, ez]
      have : ((nil, (0 : Int)) :: ((S.zip row).take i ++ [(S[i], row[i]'(by omega))])).map zD = ((nil, (0 : Int)) :: (S.zip row).take i).map zD ++ [(Sum.inr S[i], D.int (row[i]'(by omega)))] := by simp
      rw [this, ← pe]
      rfl
    · rintro env M4 ⟨i2, d6, er, hi2, hpl4, k4, rfl⟩
      have hi2 : i2 = S.length := by
        by_cases z : S.length - i2 = 0
        · omega
        · obtain ⟨n, en⟩ : ∃ n, S.length - i2 = n + 1 := ⟨S.length - i2 - 1, by omega⟩
          rw [en, List.range'_succ] at er
          cases er
      subst hi2
      rw [List.take_of_length_le (by rw [List.length_zip]; omega)] at hpl4
      have hP := plz hrl hpl4
      have f0 : ∀ x, 0 ≤ fOf ((nil, 0) :: S.zip row) x := fOf_nn fun z hz => by
        rcases List.mem_cons.mp hz with e | e
        · rw [e]; exact Int.le_refl _
        · exact hrp _ (List.of_mem_zip (a := z.1) (b := z.2) e).2
      have fn0 : fOf ((nil, 0) :: S.zip row) nil = 0 := by simp [fOf, look]
      generalize fOf ((nil, 0) :: S.zip row) = f at hP f0 fn0
      obtain ⟨kvs, hkv, lk⟩ := id hP
      have pl_at : ∀ {M' : Mem}, Keep [] M4 M' → M' pl = some (.dk kvs) := fun k => k _ _ hkv (by simp)
      have k24 := k2.trans k4
      simp! [atI_cons, ixN]
      intro t ht
      refine lc_pure prD (fun p => D.bl (decide (f p.1 = f p.2))) (fun _ => true) p.same ht (fun _ _ => trivial) (by omega) (fun q hq M5 N3 sk k5 hy _ => ?_) fun M5 k5 e5 => ?_
      · simp! [pl_at k5, lk _ (hp.same q hq).1, lk _ (hp.same q hq).2]
        exact hy rfl _ Keep.refl
      simp! []
      refine run_all (g := fun p : Str × Str => decide (f p.1 = f p.2)) e5 ?_
      simp! []
      have wk : ∀ {M' : Mem}, Keep [] M4 M' → (∀ d ∈ ws, Wd M' S d) ∧ M' l = some (.lst ws) := fun k => ⟨fun d hd => ((hws d hd).keep (k4.trans k) (fun a ha => by cases ha)), (k4.trans k) _ _ hl1 (by simp)⟩
      refine bif_of (fun z => ?_) fun z => ?_
      · simp! [atI_cons, ixN]
        intro t2 ht2
        refine lc_pure prD (fun p => D.bl (!decide (f p.1 = f p.2))) (fun _ => true) p.unlike ht2 (fun _ _ => trivial) (by omega) (fun q hq M6 N3 sk k6 hy _ => ?_) fun M6 k6 e6 => ?_
        · simp! [pl_at (k5.trans k6), lk _ (hp.unlike q hq).1, lk _ (hp.unlike q hq).2]
          exact hy rfl _ Keep.refl
        simp! []
        refine run_all (g := fun p : Str × Str => !decide (f p.1 = f p.2)) e6 ?_
        simp! []
        have k56 := k5.trans k6
        refine bif_of (fun z2 => ?_) fun z2 => ?_
        · simp! []
          refine ⟨p, pl, f, nil :: S, rfl, ⟨kvs, pl_at k56, lk⟩, f0, hp, hl3, fun bs t3 M7 hbs hbc ht3 ht31 k7 => ?_⟩
          simp! [ht31]
          intro t4 ht4
          refine lc_pure D.ob (fun a => D.tup [.ob pl, .ob a]) (fun _ => true) bs ht4 (fun M' k => .inl (k _ _ ht31 (by simp))) (by omega) (fun a ha M8 N3 sk k8 hy _ => ?_) fun M8 k8 e8 => ?_
          · simp! []
            exact hy rfl _ Keep.refl
          rw [filter_tt] at e8
          have k48 := (k56.trans k7).trans k8
          obtain ⟨w1, w2⟩ := wk k48
          simp! [w2, e8, List.length_map]
          refine ⟨by omega, fun q hq => ?_⟩
          refine hN _ _ ⟨q, ws ++ bs.map (fun a => D.tup [.ob pl, .ob a]), _, _, _, _, _, _, hrest2, fun d hd => ?_, by simp only [List.length_append, List.length_map]; omega, Keep.fresh ((k02.trans k4).trans k48) hq, mupd_same, (k24.trans k48).trans (Keep.new hq), rfl⟩
          rcases List.mem_append.mp hd with y | y
          · exact (w1 d y).keep (Keep.new hq : Keep [] _ _) (fun a ha => by cases ha)
          · obtain ⟨a, ha, rfl⟩ := List.mem_map.mp y
            have cl := ((hbs a ha).keep k8).keep (Keep.new hq (o := .lst (ws ++ bs.map (fun a => D.tup [.ob pl, .ob a]))) : Keep [] M8 _)
            exact ⟨pl, a, f, rfl, ⟨kvs, (Keep.new hq : Keep [] M8 _) _ _ (pl_at k48) (by simp), lk⟩, f0, fn0, cl⟩
        · simp! []
          obtain ⟨w1, w2⟩ := wk k56
          exact hN _ _ ⟨l, ws, _, _, _, _, _, _, hrest2, w1, by omega, hl0, w2, k24.trans k56, rfl⟩
      · simp! []
        obtain ⟨w1, w2⟩ := wk k5
        exact hN _ _ ⟨l, ws, _, _, _, _, _, _, hrest2, w1, by omega, hl0, w2, k24.trans k5, rfl⟩
  · rintro env M2 ⟨l, ws, d4, d5, d6, d7, d8, d9, _, hws, hcw, hl0, hl1, k2, rfl⟩
    simp! []
    simp only [List.length_nil] at hcw
    exact h ws l M2 hws (by omega) hl0 hl1 (kk.trans k2)
end K05

set_option maxHeartbeats 4000000
namespace K05
open PySem PySem.Spec PyProof.Rows L2 PL
variable {P : Program} {w : World} {K : PySem.W.Frag} {mg : Str → Option Value} {base : Heap}
local macro_rules | `(tactic| simp! [$ls,*]) => `(tactic| simp only [to_nx, to_rt, to_bk, to_ct, to_ex, lp_nx, lp_rt, lp_bk, lp_ct, lp_ex, ret_nx, ret_rt, ret_ex, s_exK, s_bif1, s_bif0, s_optB, s_optE, s_nxD, s_ifK, s_asgN, s_asgT, s_asgL, b_nil, b_nm, b_tp, s_next, s_seq, s_drop, s_ret, s_retN, s_ifS, s_asg, s_brk, s_cont, s_put, s_put1, s_put2, s_put3, s_aug, s_augV, s_augK, s_augK2, s_bin, s_bin1, s_bin2, s_var, s_varK, s_C, s_cb, s_cbK, s_call, s_callK, s_m, s_m1, s_m2, s_nil, s_cons, s_cons1, s_cons2, s_tup, s_tupK, s_lst, s_lstK, s_truth, s_trK, s_tK, s_eK, s_cK, s_and, s_andK, s_or, s_orK, s_not, s_notK, s_ife, s_ifeK, s_andV, s_orV, s_andvK, s_orvK, s_andvK2, s_orvK2, s_notV, s_notvK, s_blK, s_neg, s_negK, s_sl, s_sl1, s_sl2, s_sl3, s_noPart, s_part, s_partK, s_rev, s_revK, s_for, s_forK, s_lc, s_lcK, s_yes, s_walk, s_walkT, s_walkS, s_walkA, s_walkL, s_walkR, s_rng1, s_rng2, s_rng1K, s_rng2K, s_callL, s_callLK, s_callLO, s_clK, s_raise, r_val, r_new, r_put, s_whK, s_lcY, s_lcT, s_lcE, s_cg, s_cgK, s_rng3, s_rng3K, s_lcB, s_lcS, wipeD, Pat.bind, seqOf, rg, s_dict0, s_sortSet, s_sortSetK, q_is_tuple, q_is_str, q_is_int, q_is_bool, q_is_list, q_isR, ofS_inj, String.reduceEq, q_eqI, q_neI, q_eqS, q_neS, decide_true, decide_false, Int.reduceEq, reduceCtorEq, i_NoneType_tuple, i_NoneType_str, i_NoneType_int, i_NoneType_bool, i_NoneType_list, i_bool_tuple, i_bool_str, i_bool_int, i_bool_bool, i_bool_list, i_int_tuple, i_int_str, i_int_int, i_int_bool, i_int_list, i_str_tuple, i_str_str, i_str_int, i_str_bool, i_str_list, i_tuple_tuple, i_tuple_str, i_tuple_int, i_tuple_bool, i_tuple_list, i_list_tuple, i_list_str, i_list_int, i_list_bool, i_list_list, i_dict_tuple, i_dict_str, i_dict_int, i_dict_bool, i_dict_list, tyN, startD, mupd_same, mupd_ne, ne_eq, not_false_eq_true, List.map_cons, List.map_nil, List.length_cons, List.length_nil, List.replicate_succ, List.replicate_zero, Nat.zero_add, Nat.reduceAdd, Nat.reduceSub, Int.cast_ofNat_Int, List.cons_append, List.nil_append, List.getElem?_cons_zero, List.getElem?_cons_succ, List.set_cons_zero, List.set_cons_succ, opIx, atI_cons, ixN, opPut, opAdd, opSub, opMul, opFdiv, opMod, opPow, opLt, opLe, opGt, opGe, opIs, opIsNot, D.isNon, truth, bLen, bAbs, bInt, bTuple, bList, isTy, mAppend, mExtend, mPop, Int.reduceLE, Int.reduceLT, Int.reduceToNat, Int.reduceNeg, Int.reduceNe, Option.bind_some, if_true, if_false, ite_true, ite_false, true_and, and_true, Bool.not_true, Bool.not_false, opIadd, Nat.reduceLT, Nat.reduceLeDiff, Int.ofNat_lt, s_dpNil, s_dpCons, s_dpK1, s_dpK2, s_dpK3, s_disp, s_dispK, s_optKV, kvOf, s_dc, s_dcK, s_keys, s_lockK, s_sortIt, mGet, mDPop, dgetR, bDictC, bTupC, opEqD, opNeD, eqDR, D.key, merge_one, optKV, id, opEqL, opNeL, eqLR, $ls,*])
def sp_some : DSp := fun ds M Q E => ∃ (s b c : Addr), ds = [.ob s, .ob c] ∧ StAt M s b ∧ Cl M 9 c ∧ ∀ r M', Cl M' 10 r → StAt M' s b → M r = none → Keep [s] M M' → Q (.ob r) M'
theorem mono_some : MonoSp sp_some := by
  rintro ds M Q Q' E E' hQ hE ⟨s, b, c, h1, h2, h3, h⟩
  exact ⟨s, b, c, h1, h2, h3, fun r M' z1 z2 z3 z4 => hQ _ _ (h r M' z1 z2 z3 z4)⟩
theorem keys_ent (ms : Cells) : iKeysD (ms.map entD) (ms.map (·.1)) := by
  unfold iKeysD
  rw [List.map_map, List.map_map]
  rfl
theorem fn_some (S0 : Src K mg "_law_some_heap" s__law_some_heap ["state", "heap"]) (G : GF K mg) (F__law_draw : Fn P w K mg base 1 "_law_draw" sp_draw []) (F__law_one_of : Fn P w K mg base 2 "_law_one_of" sp_one_of []) : Fn P w K mg base 3 "_law_some_heap" sp_some [] := by
  refine S0.fn mono_some fun g fd F => fn_ok F sc__law_some_heap (fun ds M Q E h => by obtain ⟨s, b, c, rfl, _⟩ := h; rfl) ⟨_, fun cdv A outer s H E hr => have hu := hr.u200
    (xss_cons (xs_set 2 sc__law_some_heap.nd (xe_callTy (c_dictC rfl) (by rfl) G.dict (by decide +kernel) (xa_cons (xe_var 1) xa_nil)))
 (xss_cons (xs_set 3 sc__law_some_heap.nd (xe_call F__law_draw (hr.mono (by first | decide | omega)) bx_takes (by rfl) (xa_cons (xe_var 0) (xa_cons xe_int xa_nil))))
 (xss_cons (xs_if (xt_cmp (x_eq hu) (xe_var 3) xe_int (nomark _) bl_eq)
 (xss_one (xs_put hu (xe_call F__law_draw (hr.mono (by first | decide | omega)) bx_takes (by rfl) (xa_cons (xe_var 0) (xa_cons xe_int xa_nil))) (xe_var 2) (xe_bin x_add xe_int (xe_call F__law_draw (hr.mono (by first | decide | omega)) bx_takes (by rfl) (xa_cons (xe_var 0) (xa_cons xe_int xa_nil))))))
 xss_nil)
 (xss_cons (xs_if (xt_wh (xw_and (xt_cmp (x_eq hu) (xe_var 3) xe_int (nomark _) bl_eq) (xw_and1 (xt_cmp x_gt (xe_callB c_len (by rfl) G.len (by decide +kernel) (xa_cons (xe_var 1) xa_nil)) xe_int (nomark _) bl_gt))))
 (xss_one (xs_expr (xe_bm PySem.F.plainAttrs_dict PySem.F.slot_dict_pop PySem.F.type_dict_pop m_dpop (xe_var 2) (xa_cons (xe_call F__law_one_of (hr.mono (by first | decide | omega)) bx_takes (by rfl) (xa_cons (xe_var 0) (xa_cons (xe_callG bSortD_mono (c_sortD rfl) (by rfl) G.sorted (by decide +kernel) (xa_cons (xe_var 1) xa_nil)) xa_nil))) xa_nil))))
 xss_nil)
 (xss_cons (xs_if (xt_wh (xw_and (xt_cmp (x_eq hu) (xe_var 3) xe_int (nomark _) bl_eq) (xw_and1 (xt_cmp x_gt (xe_callB c_len (by rfl) G.len (by decide +kernel) (xa_cons (xe_var 1) xa_nil)) xe_int (nomark _) bl_gt))))
 (xss_one (xs_put hu (xe_call F__law_draw (hr.mono (by first | decide | omega)) bx_takes (by rfl) (xa_cons (xe_var 0) (xa_cons xe_int xa_nil))) (xe_var 2) (xe_call F__law_one_of (hr.mono (by first | decide | omega)) bx_takes (by rfl) (xa_cons (xe_var 0) (xa_cons (xe_callG bSortD_mono (c_sortD rfl) (by rfl) G.sorted (by decide +kernel) (xa_cons (xe_var 1) xa_nil)) xa_nil)))))
 xss_nil)
 (xss_one (xs_ret (xe_var 2)))))))), fun ds M Q E h => ?_⟩
  obtain ⟨s, b, c, rfl, hs, ⟨ms, hc, hg, hl⟩, h⟩ := h
  have sz : sizeLine = 16777216 := sizeLine_eq
  have hc' : M c = some (.dk (ms.map entD)) := hc
  have cs : c ≠ s := fun e => by
    obtain ⟨_, _, _, _, h1, _⟩ := hs
    rw [← e, hc'] at h1
    cases h1
  simp! [hc']
  intro r hr
  have rs := (hs.ne hr).1
  refine ⟨s, b, 4, rfl, hs.new hr, by decide, by decide, fun pick M1 p0 p1 hs1 k1 => ?_⟩
  have hr1 : M1 r = some (.dk (ms.map entD)) := k1 _ _ mupd_same (by simpa using rs)
  have kk : Keep [s] M M1 := (Keep.new hr).trans k1
  have hc1 := kk _ _ hc' (by simpa using cs)
  have hpick : pick = 0 ∨ pick = 1 ∨ pick = 2 ∨ pick = 3 := by omega
  rcases hpick with rfl | rfl | rfl | rfl
  · simp! []
    refine ⟨s, b, 7, rfl, hs1, by decide, by decide, fun v M2 v0 v1 hs2 k2 => ?_⟩
    simp! []
    refine ⟨s, b, 6, rfl, hs2, by decide, by decide, fun k M3 a0 a1 hs3 k3 => ?_⟩
    have hr3 := (k2.trans k3) _ _ hr1 (by simpa using rs)
    simp! [hr3, List.length_map]
    refine ⟨by omega, ?_⟩
    rw [putD_ent]
    have l1 := putI_len ms (1 + k) v
    have g1 := hg.put (k := 1 + k) (v := v) (by omega) v0
    refine h r _ ⟨_, mupd_same, g1, by omega⟩ (hs3.put rs (hs.ne hr).2) hr ?_
    exact ((kk.trans k2).trans k3 |>.weaken (T := [r, s]) (by simp)).trans (Keep.put (by simp)) |>.drop hr
  · simp! [hc1, List.length_map]
    refine bif_of (fun z => ?_) fun z => ?_
    · simp! [hr1]
      refine ⟨c, _, rfl, .inl hc1, .inr ⟨_, keys_ent ms, by rw [List.length_map]; omega, fun ys o hperm _ ho => ?_⟩⟩
      have hl2 : ys.length = ms.length := by rw [hperm.length_eq, List.length_map]
      have hpos : (0 : Int) < ms.length := by simpa using z
      have rsO := (hs1.ne ho).1
      refine ⟨s, b, .ob o, ys.map D.int, rfl, hs1.new ho, by simp only [seqI, mupd_same], by simpa [ofA] using rsO, by intro e; have := congrArg List.length e; simp only [List.length_map, List.length_nil] at this; omega, by rw [List.length_map]; omega, fun d M2 hd hs2 k2 => ?_⟩
      obtain ⟨k, hk, rfl⟩ := List.mem_map.mp hd
      obtain ⟨q, hq, rfl⟩ := List.mem_map.mp (hperm.mem_iff.mp hk)
      have hr2 := k2 _ _ ((Keep.new ho : Keep [] M1 _) _ _ hr1 (by simp)) (by simpa using rs)
      simp! [hr2, look_ent, look_of_mem hg.1 hq, Option.map_some, dropD_ent]
      have dl := dropI_len ms q.1
      refine h r _ ⟨_, mupd_same, hg.drop _, by omega⟩ (hs2.put rs (hs.ne hr).2) hr ?_
      exact ((kk.trans (Keep.new ho)).trans k2 |>.weaken (T := [r, s]) (by simp)).trans (Keep.put (by simp)) |>.drop hr
    · simp! []
      exact h r M1 ⟨ms, hr1, hg, by omega⟩ hs1 hr kk
  · simp! [hc1, List.length_map]
    refine bif_of (fun z => ?_) fun z => ?_
    · simp! []
      refine ⟨s, b, 7, rfl, hs1, by decide, by decide, fun v M2 v0 v1 hs2 k2 => ?_⟩
      have hc2 := k2 _ _ hc1 (by simpa using cs)
      simp! []
      refine ⟨c, _, rfl, .inl hc2, .inr ⟨_, keys_ent ms, by rw [List.length_map]; omega, fun ys o hperm _ ho => ?_⟩⟩
      have hl2 : ys.length = ms.length := by rw [hperm.length_eq, List.length_map]
      have hpos : (0 : Int) < ms.length := by simpa using z
      have rsO := (hs2.ne ho).1
      refine ⟨s, b, .ob o, ys.map D.int, rfl, hs2.new ho, by simp only [seqI, mupd_same], by simpa [ofA] using rsO, by intro e; have := congrArg List.length e; simp only [List.length_map, List.length_nil] at this; omega, by rw [List.length_map]; omega, fun d M3 hd hs3 k3 => ?_⟩
      obtain ⟨k, hk, rfl⟩ := List.mem_map.mp hd
      have hr3 := k3 _ _ ((Keep.new ho : Keep [] M2 _) _ _ (k2 _ _ hr1 (by simpa using rs)) (by simp)) (by simpa using rs)
      simp! [hr3, List.length_map]
      refine ⟨by omega, ?_⟩
      rw [putD_ent]
      have l1 := putI_len ms k v
      have g1 := hg.put (k := k) (v := v) (by omega) v0
      refine h r _ ⟨_, mupd_same, g1, by omega⟩ (hs3.put rs (hs.ne hr).2) hr ?_
      exact (((kk.trans k2).trans (Keep.new ho)).trans k3 |>.weaken (T := [r, s]) (by simp)).trans (Keep.put (by simp)) |>.drop hr
    · simp! []
      exact h r M1 ⟨ms, hr1, hg, by omega⟩ hs1 hr kk
  · simp! []
    exact h r M1 ⟨ms, hr1, hg, by omega⟩ hs1 hr kk
end K05

set_option maxHeartbeats 4000000
namespace K05
open PySem PySem.Spec PyProof.Rows L2 PL
variable {P : Program} {w : World} {K : PySem.W.Frag} {mg : Str → Option Value} {base : Heap}
local macro_rules | `(tactic| simp! [$ls,*]) => `(tactic| simp only [to_nx, to_rt, to_bk, to_ct, to_ex, lp_nx, lp_rt, lp_bk, lp_ct, lp_ex, ret_nx, ret_rt, ret_ex, s_exK, s_bif1, s_bif0, s_optB, s_optE, s_nxD, s_ifK, s_asgN, s_asgT, s_asgL, b_nil, b_nm, b_tp, s_next, s_seq, s_drop, s_ret, s_retN, s_ifS, s_asg, s_brk, s_cont, s_put, s_put1, s_put2, s_put3, s_aug, s_augV, s_augK, s_augK2, s_bin, s_bin1, s_bin2, s_var, s_varK, s_C, s_cb, s_cbK, s_call, s_callK, s_m, s_m1, s_m2, s_nil, s_cons, s_cons1, s_cons2, s_tup, s_tupK, s_lst, s_lstK, s_truth, s_trK, s_tK, s_eK, s_cK, s_and, s_andK, s_or, s_orK, s_not, s_notK, s_ife, s_ifeK, s_andV, s_orV, s_andvK, s_orvK, s_andvK2, s_orvK2, s_notV, s_notvK, s_blK, s_neg, s_negK, s_sl, s_sl1, s_sl2, s_sl3, s_noPart, s_part, s_partK, s_rev, s_revK, s_for, s_forK, s_lc, s_lcK, s_yes, s_walk, s_walkT, s_walkS, s_walkA, s_walkL, s_walkR, s_rng1, s_rng2, s_rng1K, s_rng2K, s_callL, s_callLK, s_callLO, s_clK, s_raise, r_val, r_new, r_put, s_whK, s_lcY, s_lcT, s_lcE, s_cg, s_cgK, s_rng3, s_rng3K, s_lcB, s_lcS, wipeD, Pat.bind, seqOf, rg, s_dict0, s_sortSet, s_sortSetK, q_is_tuple, q_is_str, q_is_int, q_is_bool, q_is_list, q_isR, ofS_inj, String.reduceEq, q_eqI, q_neI, q_eqS, q_neS, decide_true, decide_false, Int.reduceEq, reduceCtorEq, i_NoneType_tuple, i_NoneType_str, i_NoneType_int, i_NoneType_bool, i_NoneType_list, i_bool_tuple, i_bool_str, i_bool_int, i_bool_bool, i_bool_list, i_int_tuple, i_int_str, i_int_int, i_int_bool, i_int_list, i_str_tuple, i_str_str, i_str_int, i_str_bool, i_str_list, i_tuple_tuple, i_tuple_str, i_tuple_int, i_tuple_bool, i_tuple_list, i_list_tuple, i_list_str, i_list_int, i_list_bool, i_list_list, i_dict_tuple, i_dict_str, i_dict_int, i_dict_bool, i_dict_list, tyN, startD, mupd_same, mupd_ne, ne_eq, not_false_eq_true, List.map_cons, List.map_nil, List.length_cons, List.length_nil, List.replicate_succ, List.replicate_zero, Nat.zero_add, Nat.reduceAdd, Nat.reduceSub, Int.cast_ofNat_Int, List.cons_append, List.nil_append, List.getElem?_cons_zero, List.getElem?_cons_succ, List.set_cons_zero, List.set_cons_succ, opIx, atI_cons, ixN, opPut, opAdd, opSub, opMul, opFdiv, opMod, opPow, opLt, opLe, opGt, opGe, opIs, opIsNot, D.isNon, truth, bLen, bAbs, bInt, bTuple, bList, isTy, mAppend, mExtend, mPop, Int.reduceLE, Int.reduceLT, Int.reduceToNat, Int.reduceNeg, Int.reduceNe, Option.bind_some, if_true, if_false, ite_true, ite_false, true_and, and_true, Bool.not_true, Bool.not_false, opIadd, Nat.reduceLT, Nat.reduceLeDiff, Int.ofNat_lt, s_dpNil, s_dpCons, s_dpK1, s_dpK2, s_dpK3, s_disp, s_dispK, s_optKV, kvOf, s_dc, s_dcK, s_keys, s_lockK, s_sortIt, mGet, mDPop, dgetR, bDictC, bTupC, opEqD, opNeD, eqDR, D.key, merge_one, optKV, id, opEqL, opNeL, eqLR, $ls,*])
/-! names, as the program sees them -/
abbrev lettersS : Str := Str.ofString "abcdefghijklmnopqrstuvwxyz"
abbrev digitsS : Str := Str.ofString "0123456789"
abbrev reserved : List Str := [Str.ofString "proc", Str.ofString "end", Str.ofString "local", Str.ofString "need", Str.ofString "ensure", Str.ofString "set", Str.ofString "next", Str.ofString "new", Str.ofString "free", Str.ofString "if", Str.ofString "else", Str.ofString "while", Str.ofString "call", Str.ofString "nil", Str.ofString "cell", Str.ofString "chain", Str.ofString "none"]
abbrev signS : Str := lettersS ++ digitsS ++ Str.ofString "_"
def isNmS (x : Str) : Bool := if x = Str.ofString "" then false else if (16 : Int) < (x.length : Int) then false else if x ∈ reserved then false else
  (match x.cps.toList with
    | [] => false
    | c :: _ => decide (c ∈ lettersS.cps.toList)) && x.cps.toList.all fun c => decide (c ∈ signS.cps.toList)
def isNm : D → Bool
  | .v (.str x) => isNmS x
  | _ => false
def leaf : D → Bool
  | .v (.str x) => decide (x.length ≤ 1000)
  | .v (.int _) => true
  | _ => false
theorem in_tupS {x : Str} {fs : List Str} {M : Mem} {Q : DK} : (opIn (.str x) (.tup (fs.map D.str)) M).run M Q = Q (.bl (decide (x ∈ fs))) M := by
  have e : isIn (.str x) (.tup (fs.map D.str)) M = some (0, decide (x ∈ fs)) := by
    simp [isIn, pureL_strs, dpL_strs, D.pure, D.dp]
    have := any_str (x := x) (fs := fs)
    simp only [List.any_map, Function.comp] at this
    exact this
  simp [opIn, e, Res.run, mostDeep]
def sp_isname : DSp := fun ds M Q E => ∃ d, ds = [d] ∧ leaf d = true ∧ ∀ M', Keep [] M M' → Q (.bl (isNm d)) M'
theorem mono_isname : MonoSp sp_isname := by
  rintro ds M Q Q' E E' hQ hE ⟨d, h1, h2, h⟩
  exact ⟨d, h1, h2, fun M' z => hQ _ _ (h M' z)⟩
theorem fn_isname (S0 : Src K mg "is_name" s_is_name ["datum"]) (G : GF K mg) : Fn P w K mg base 1 "is_name" sp_isname [] := by
  refine S0.fn mono_isname fun g fd F => fn_ok F sc_is_name (fun ds M Q E h => by obtain ⟨d, rfl, _⟩ := h; rfl) ⟨_, fun cdv A outer s H E hr => have hu := hr.u200
    (xss_cons (xs_if (xt_wh (xw_or (xt_not (xt_val (xe_callB c_isi (by rfl) G.isinstance (by decide +kernel) (xa_cons (xe_var 0) (xa_cons (xe_bltn (v := .ty "str") (by rfl) G.str (by decide +kernel) rfl) xa_nil))))) (xw_or (xt_cmp (x_eq hu) (xe_var 0) xe_str (nomark _) bl_eq) (xw_or (xt_cmp x_gt (xe_callB c_len (by rfl) G.len (by decide +kernel) (xa_cons (xe_var 0) xa_nil)) (xe_globE (by rfl) G.MOST_SIGNS) (nomark _) bl_gt) (xw_or1 (xt_cmp (x_in hu) (xe_var 0) (xe_globTE (by rfl) G.RESERVED) rfl bl_in))))))
 (xss_one (xs_ret xe_bl))
 xss_nil)
 (xss_one (xs_ret (xe_and (xe_cmp (x_in hu) (xe_ix hu (xe_var 0) xe_int) (xe_globE (by rfl) G.LETTERS) rfl) (xe_one (xe_callB (c_all rfl) (by rfl) G.all (by decide +kernel) (xa_cons (xe_lc (own := [("sign", 1)]) (p := .nm 1) rfl sc_is_name.nd (xi_walk (xe_var 0)) (blkOk_by (by show blkC ["datum", "sign"] (defScope s_is_name) _ _ = true; decide +kernel)) (fun _ _ _ _ _ => (xg_name 1 sc_is_name.nd)) (fun _ _ _ _ _ => xts_nil) (fun _ _ _ _ _ => (xe_cmp (x_in hu) (xe_var 1) (xe_bin x_add (xe_bin x_add (xe_globE (by rfl) G.LETTERS) (xe_globE (by rfl) G.DIGITS)) xe_str) rfl))) xa_nil))))))), fun ds M Q E h => ?_⟩
  obtain ⟨d, rfl, hd, h⟩ := h
  have sz : sizeLine = 16777216 := sizeLine_eq
  match d, hd with
  | .v (.int i), _ =>
    simp! []
    exact h _ Keep.refl
  | .v (.str x), hd =>
    have hd : x.length ≤ 1000 := of_decide_eq_true hd
    simp! []
    refine bif_dec (fun z => ?_) fun z => ?_
    · simp! []
      have e : isNm (.str x) = false := by show isNmS x = false; unfold isNmS; rw [if_pos z]
      rw [← e]
      exact h _ Keep.refl
    simp! []
    refine ⟨by omega, bif_dec (fun z2 => ?_) fun z2 => ?_⟩
    · simp! []
      have e : isNm (.str x) = false := by show isNmS x = false; unfold isNmS; rw [if_neg z, if_pos z2]
      rw [← e]
      exact h _ Keep.refl
    simp! []
    have it : ∀ Q : DK, _ := fun Q => in_tupS (x := x) (fs := reserved) (M := M) (Q := Q)
    simp only [List.map_cons, List.map_nil] at it
    rw [it]
    simp! []
    refine bif_dec (fun z3 => ?_) fun z3 => ?_
    · simp! []
      have e : isNm (.str x) = false := by show isNmS x = false; unfold isNmS; rw [if_neg z, if_neg z2, if_pos z3]
      rw [← e]
      exact h _ Keep.refl
    have nm : isNm (.str x) = ((match x.cps.toList with | [] => false | c :: _ => decide (c ∈ lettersS.cps.toList)) && x.cps.toList.all fun c => decide (c ∈ signS.cps.toList)) := by
      show isNmS x = _
      unfold isNmS
      rw [if_neg z, if_neg z2, if_neg z3]
    obtain ⟨c, r, hx⟩ : ∃ c r, x.cps.toList = c :: r := by
      cases e : x.cps.toList with
      | nil =>
        refine absurd ?_ z
        apply TL.ext_tl
        show x.cps.toList = _
        rw [e]
        rfl
      | cons c r => exact ⟨c, r, rfl⟩
    have ic : ∀ {c : Nat} {z : Str} {M : Mem} {Q : DK}, (opIn (.str ⟨#[c]⟩) (.str z) M).run M Q = Q (.bl (decide (c ∈ z.cps.toList))) M := fun {c z M Q} => in_sign
    have hat : atI x.cps.toList 0 = some c := by rw [hx]; exact atI_zero
    rw [hx] at nm
    simp! [hat]
    refine ⟨by omega, ?_⟩
    rw [ic]
    simp! []
    refine bif_of (fun z4 => ?_) fun z4 => ?_
    · simp! []
      intro t ht
      have len_add : ∀ a b : Str, (a ++ b).length = a.length + b.length := fun a b => by simp [Str.length, Str.cps_append]
      refine lc_pure (fun c : Nat => D.str ⟨#[c]⟩) (fun c => D.bl (decide (c ∈ signS.cps.toList))) (fun _ => true) x.cps.toList ht (fun _ _ => trivial) (by rw [show x.cps.toList.length = x.length by simp [Str.length]]; omega) (fun a ha M1 N sk k hy _ => ?_) fun M1 k e1 => ?_
      · simp! [len_add]
        refine ⟨by decide +kernel, by decide +kernel, ?_⟩
        rw [ic]
        exact hy rfl _ Keep.refl
      · simp! []
        refine run_all (g := fun c : Nat => decide (c ∈ signS.cps.toList)) e1 ?_
        rw [filter_tt]
        have e : isNm (.str x) = x.cps.toList.all fun c => decide (c ∈ signS.cps.toList) := by
          rw [nm, hx]
          show (decide (c ∈ lettersS.cps.toList) && _) = _
          rw [z4, Bool.true_and]
        rw [← e]
        exact h _ k
    · simp! []
      have e : isNm (.str x) = false := by rw [nm]; show (decide (c ∈ lettersS.cps.toList) && _) = false; rw [z4]; rfl
      rw [z4, ← e]
      exact h _ Keep.refl
def isPl : D → Bool
  | .v (.str x) => decide (x = nil) || isNmS x
  | _ => false
def sp_isplace : DSp := fun ds M Q E => ∃ d, ds = [d] ∧ leaf d = true ∧ ∀ M', Keep [] M M' → Q (.bl (isPl d)) M'
theorem mono_isplace : MonoSp sp_isplace := by
  rintro ds M Q Q' E E' hQ hE ⟨d, h1, h2, h⟩
  exact ⟨d, h1, h2, fun M' z => hQ _ _ (h M' z)⟩
theorem q_eqIS {i : Int} {x : Str} {M : Mem} {Q : DK} : (opEq (.int i) (.str x) M).run M Q = Q (.bl false) M := by
  simp [opEq, pyM, D.pure, D.py, Res.run, PyData.depth, PyData.eqv, mostDeep]
theorem fn_isplace (S0 : Src K mg "is_place" s_is_place ["datum"]) (G : GF K mg) (F_is_name : Fn P w K mg base 1 "is_name" sp_isname []) : Fn P w K mg base 2 "is_place" sp_isplace [] := by
  refine S0.fn mono_isplace fun g fd F => fn_ok F sc_is_place (fun ds M Q E h => by obtain ⟨d, rfl, _⟩ := h; rfl) ⟨_, fun cdv A outer s H E hr => have hu := hr.u200
    (xss_one (xs_ret (xe_or (xe_cmp (x_eq hu) (xe_var 0) (xe_globE (by rfl) G.NIL) (nomark _)) (xe_one (xe_call F_is_name (hr.mono (by first | decide | omega)) bx_takes (by rfl) (xa_cons (xe_var 0) xa_nil)))))), fun ds M Q E h => ?_⟩
  obtain ⟨d, rfl, hd, h⟩ := h
  match d, hd with
  | .v (.int i), hd =>
    simp! [q_eqIS]
    exact ⟨_, rfl, hd, fun M' k => h M' k⟩
  | .v (.str x), hd =>
    simp! []
    refine bif_dec (fun z => ?_) fun z => ?_
    · simp! []
      rw [decide_eq_true z]
      have e : isPl (.str x) = true := by show (decide (x = nil) || isNmS x) = true; rw [decide_eq_true z]; rfl
      rw [← e]
      exact h _ Keep.refl
    · simp! []
      refine ⟨_, rfl, hd, fun M' k => ?_⟩
      have e : isPl (.str x) = isNm (.str x) := by show (decide (x = nil) || isNmS x) = isNmS x; rw [decide_eq_false z]; rfl
      rw [← e]
      exact h M' k
/-! data of a shape -/
def shp : Nat → D → Bool
  | 0, d => leaf d
  | n + 1, .tup ds => decide (ds.length ≤ 1000) && ds.all (shp n)
  | _ + 1, d => leaf d
theorem shp_cases {n : Nat} {d : D} (h : shp (n + 1) d = true) : (∃ x, d = .str x ∧ x.length ≤ 1000) ∨ (∃ i, d = .int i) ∨ ∃ ds, d = .tup ds ∧ ds.length ≤ 1000 ∧ ∀ e ∈ ds, shp n e = true := by
  match d, h with
  | .v (.str x), h => exact .inl ⟨x, rfl, of_decide_eq_true h⟩
  | .v (.int i), _ => exact .inr (.inl ⟨i, rfl⟩)
  | .tup ds, h =>
    simp only [shp, Bool.and_eq_true, decide_eq_true_eq, List.all_eq_true] at h
    exact .inr (.inr ⟨ds, rfl, h⟩)
def sp_istuple : DSp := fun ds M Q E => ∃ d n, ds = [d, .int n] ∧ ((∃ x, d = .str x ∧ Q (.bl false) M) ∨ (∃ i, d = .int i ∧ Q (.bl false) M) ∨ ∃ es, d = .tup es ∧ es.length ≤ 1000 ∧ Q (.bl (decide ((es.length : Int) = n))) M)
theorem mono_istuple : MonoSp sp_istuple := by
  rintro ds M Q Q' E E' hQ hE ⟨d, n, h1, (⟨x, h2, h⟩ | ⟨x, h2, h⟩ | ⟨x, h2, h3, h⟩)⟩
  · exact ⟨d, n, h1, .inl ⟨x, h2, hQ _ _ h⟩⟩
  · exact ⟨d, n, h1, .inr (.inl ⟨x, h2, hQ _ _ h⟩)⟩
  · exact ⟨d, n, h1, .inr (.inr ⟨x, h2, h3, hQ _ _ h⟩)⟩
theorem fn_istuple (S0 : Src K mg "is_tuple" s_is_tuple ["datum", "many"]) (G : GF K mg) : Fn P w K mg base 1 "is_tuple" sp_istuple [] := by
  refine S0.fn mono_istuple fun g fd F => fn_ok F sc_is_tuple (fun ds M Q E h => by obtain ⟨d, n, rfl, _⟩ := h; rfl) ⟨_, fun cdv A outer s H E hr => have hu := hr.u200
    (xss_one (xs_ret (xe_and (xe_callB c_isi (by rfl) G.isinstance (by decide +kernel) (xa_cons (xe_var 0) (xa_cons (xe_bltn (v := .ty "tuple") (by rfl) G.tuple (by decide +kernel) rfl) xa_nil))) (xe_one (xe_cmp (x_eq hu) (xe_callB c_len (by rfl) G.len (by decide +kernel) (xa_cons (xe_var 0) xa_nil)) (xe_var 1) (nomark _)))))), fun ds M Q E h => ?_⟩
  obtain ⟨d, n, rfl, (⟨x, rfl, h⟩ | ⟨x, rfl, h⟩ | ⟨es, rfl, h3, h⟩)⟩ := h
  · simp! []
    exact h
  · simp! []
    exact h
  · simp! []
    exact h
def isPr : D → Bool
  | .tup [a, b] => isPl a && isPl b
  | _ => false
def sp_ispair : DSp := fun ds M Q E => ∃ d, ds = [d] ∧ shp 1 d = true ∧ ∀ M', Keep [] M M' → Q (.bl (isPr d)) M'
theorem mono_ispair : MonoSp sp_ispair := by
  rintro ds M Q Q' E E' hQ hE ⟨d, h1, h2, h⟩
  exact ⟨d, h1, h2, fun M' z => hQ _ _ (h M' z)⟩
theorem fn_ispair (S0 : Src K mg "is_pair" s_is_pair ["datum"]) (G : GF K mg) (F_is_tuple : Fn P w K mg base 1 "is_tuple" sp_istuple []) (F_is_place : Fn P w K mg base 2 "is_place" sp_isplace []) : Fn P w K mg base 3 "is_pair" sp_ispair [] := by
  refine S0.fn mono_ispair fun g fd F => fn_ok F sc_is_pair (fun ds M Q E h => by obtain ⟨d, rfl, _⟩ := h; rfl) ⟨_, fun cdv A outer s H E hr => have hu := hr.u200
    (xss_one (xs_ret (xe_and (xe_call F_is_tuple (hr.mono (by first | decide | omega)) bx_takes (by rfl) (xa_cons (xe_var 0) (xa_cons xe_int xa_nil))) (xe_and (xe_call F_is_place (hr.mono (by first | decide | omega)) bx_takes (by rfl) (xa_cons (xe_ix hu (xe_var 0) xe_int) xa_nil)) (xe_one (xe_call F_is_place (hr.mono (by first | decide | omega)) bx_takes (by rfl) (xa_cons (xe_ix hu (xe_var 0) xe_int) xa_nil))))))), fun ds M Q E h => ?_⟩
  obtain ⟨d, rfl, hd, h⟩ := h
  rcases shp_cases hd with ⟨x, rfl, _⟩ | ⟨i, rfl⟩ | ⟨es, rfl, hl, he⟩
  · simp! []
    refine ⟨_, _, rfl, .inl ⟨_, rfl, ?_⟩⟩
    simp! []
    exact h _ Keep.refl
  · simp! []
    refine ⟨_, _, rfl, .inr (.inl ⟨_, rfl, ?_⟩)⟩
    simp! []
    exact h _ Keep.refl
  · simp! []
    refine ⟨_, _, rfl, .inr (.inr ⟨_, rfl, hl, ?_⟩)⟩
    simp! []
    refine bif_of (fun z => ?_) fun z => ?_
    · have z : es.length = 2 := by have := of_decide_eq_true z; omega
      obtain ⟨a, b, rfl⟩ : ∃ a b, es = [a, b] := by
        match es, z with
        | [a, b], _ => exact ⟨a, b, rfl⟩
      simp! [atI_cons, ixN]
      refine ⟨a, rfl, he a (by simp), fun M1 k1 => ?_⟩
      simp! []
      refine bif_of (fun z2 => ?_) fun z2 => ?_
      · simp! [atI_cons, ixN]
        refine ⟨b, rfl, he b (by simp), fun M2 k2 => ?_⟩
        have e : isPr (.tup [a, b]) = isPl b := by show (isPl a && isPl b) = _; rw [z2, Bool.true_and]
        rw [← e]
        exact h _ (k1.trans k2)
      · simp! []
        have e : isPr (.tup [a, b]) = false := by show (isPl a && isPl b) = _; rw [z2, Bool.false_and]
        rw [z2, ← e]
        exact h _ k1
    · simp! []
      have e : isPr (.tup es) = false := by
        match es, z with
        | [], _ => rfl
        | [_], _ => rfl
        | _ :: _ :: _ :: _, _ => rfl
      rw [z, ← e]
      exact h _ Keep.refl
def arePr : D → Bool
  | .tup ds => ds.all isPr
  | _ => false
def sp_arepairs : DSp := fun ds M Q E => ∃ d, ds = [d] ∧ shp 2 d = true ∧ ∀ M', Keep [] M M' → Q (.bl (arePr d)) M'
theorem mono_arepairs : MonoSp sp_arepairs := by
  rintro ds M Q Q' E E' hQ hE ⟨d, h1, h2, h⟩
  exact ⟨d, h1, h2, fun M' z => hQ _ _ (h M' z)⟩
theorem fn_arepairs (S0 : Src K mg "are_pairs" s_are_pairs ["datum"]) (G : GF K mg) (F_is_pair : Fn P w K mg base 3 "is_pair" sp_ispair []) : Fn P w K mg base 4 "are_pairs" sp_arepairs [] := by
  refine S0.fn mono_arepairs fun g fd F => fn_ok F sc_are_pairs (fun ds M Q E h => by obtain ⟨d, rfl, _⟩ := h; rfl) ⟨_, fun cdv A outer s H E hr => have hu := hr.u200
    (xss_one (xs_ret (xe_and (xe_callB c_isi (by rfl) G.isinstance (by decide +kernel) (xa_cons (xe_var 0) (xa_cons (xe_bltn (v := .ty "tuple") (by rfl) G.tuple (by decide +kernel) rfl) xa_nil))) (xe_one (xe_callB (c_all rfl) (by rfl) G.all (by decide +kernel) (xa_cons (xe_lc (own := [("pair", 1)]) (p := .nm 1) rfl sc_are_pairs.nd (xi_walk (xe_var 0)) (blkOk_by (by show blkC ["datum", "pair"] (defScope s_are_pairs) _ _ = true; decide +kernel)) (fun _ _ _ _ _ => (xg_name 1 sc_are_pairs.nd)) (fun _ _ _ _ _ => xts_nil) (fun _ _ _ _ _ => (xe_call F_is_pair (hr.mono (by first | decide | omega)) takes0 (by rfl) (xa_cons (xe_var 1) xa_nil)))) xa_nil)))))), fun ds M Q E h => ?_⟩
  obtain ⟨d, rfl, hd, h⟩ := h
  rcases shp_cases hd with ⟨x, rfl, _⟩ | ⟨i, rfl⟩ | ⟨es, rfl, hl, he⟩
  · simp! []
    exact h _ Keep.refl
  · simp! []
    exact h _ Keep.refl
  · simp! []
    intro t ht
    refine lc_pureI (fun d => D.bl (isPr d)) (fun _ => true) es ht (fun _ _ => trivial) (by rw [sizeLine_eq]; omega) (fun d hd M1 N sk k hy _ => ?_) fun M1 k e1 => ?_
    · simp! []
      exact ⟨d, rfl, he d hd, fun M2 k2 => hy rfl _ k2⟩
    · simp! []
      refine run_all (g := isPr) e1 ?_
      rw [filter_tt]
      exact h _ k
def isPic : D → Bool
  | .tup ds => decide ((ds.length : Int) = 4) && ds.all arePr
  | _ => false
def sp_ispic : DSp := fun ds M Q E => ∃ d, ds = [d] ∧ shp 3 d = true ∧ ∀ M', Keep [] M M' → Q (.bl (isPic d)) M'
theorem mono_ispic : MonoSp sp_ispic := by
  rintro ds M Q Q' E E' hQ hE ⟨d, h1, h2, h⟩
  exact ⟨d, h1, h2, fun M' z => hQ _ _ (h M' z)⟩
theorem fn_ispic (S0 : Src K mg "is_picture" s_is_picture ["datum"]) (G : GF K mg) (F_is_tuple : Fn P w K mg base 1 "is_tuple" sp_istuple []) (F_are_pairs : Fn P w K mg base 4 "are_pairs" sp_arepairs []) : Fn P w K mg base 5 "is_picture" sp_ispic [] := by
  refine S0.fn mono_ispic fun g fd F => fn_ok F sc_is_picture (fun ds M Q E h => by obtain ⟨d, rfl, _⟩ := h; rfl) ⟨_, fun cdv A outer s H E hr => have hu := hr.u200
    (xss_one (xs_ret (xe_and (xe_call F_is_tuple (hr.mono (by first | decide | omega)) bx_takes (by rfl) (xa_cons (xe_var 0) (xa_cons xe_int xa_nil))) (xe_one (xe_callB (c_all rfl) (by rfl) G.all (by decide +kernel) (xa_cons (xe_lc (own := [("part", 1)]) (p := .nm 1) rfl sc_is_picture.nd (xi_walk (xe_var 0)) (blkOk_by (by show blkC ["datum", "part"] (defScope s_is_picture) _ _ = true; decide +kernel)) (fun _ _ _ _ _ => (xg_name 1 sc_is_picture.nd)) (fun _ _ _ _ _ => xts_nil) (fun _ _ _ _ _ => (xe_call F_are_pairs (hr.mono (by first | decide | omega)) takes0 (by rfl) (xa_cons (xe_var 1) xa_nil)))) xa_nil)))))), fun ds M Q E h => ?_⟩
  obtain ⟨d, rfl, hd, h⟩ := h
  rcases shp_cases hd with ⟨x, rfl, _⟩ | ⟨i, rfl⟩ | ⟨es, rfl, hl, he⟩
  · simp! []
    refine ⟨_, _, rfl, .inl ⟨_, rfl, ?_⟩⟩
    simp! []
    exact h _ Keep.refl
  · simp! []
    refine ⟨_, _, rfl, .inr (.inl ⟨_, rfl, ?_⟩)⟩
    simp! []
    exact h _ Keep.refl
  · simp! []
    refine ⟨_, _, rfl, .inr (.inr ⟨_, rfl, hl, ?_⟩)⟩
    simp! []
    refine bif_of (fun z => ?_) fun z => ?_
    · simp! []
      intro t ht
      refine lc_pureI (fun d => D.bl (arePr d)) (fun _ => true) es ht (fun _ _ => trivial) (by rw [sizeLine_eq]; omega) (fun d hd M1 N sk k hy _ => ?_) fun M1 k e1 => ?_
      · simp! []
        exact ⟨d, rfl, he d hd, fun M2 k2 => hy rfl _ k2⟩
      · simp! []
        refine run_all (g := arePr) e1 ?_
        rw [filter_tt]
        have e : isPic (.tup es) = es.all arePr := by show (decide ((es.length : Int) = 4) && es.all arePr) = _; rw [z, Bool.true_and]
        rw [← e]
        exact h _ k
    · simp! []
      have e : isPic (.tup es) = false := by show (decide ((es.length : Int) = 4) && es.all arePr) = _; rw [z, Bool.false_and]
      rw [z, ← e]
      exact h _ Keep.refl
end K05

set_option maxHeartbeats 4000000
namespace K05
open PySem PySem.Spec PyProof.Rows L2 PL
variable {P : Program} {w : World} {K : PySem.W.Frag} {mg : Str → Option Value} {base : Heap}
local macro_rules | `(tactic| simp! [$ls,*]) => `(tactic| simp only [to_nx, to_rt, to_bk, to_ct, to_ex, lp_nx, lp_rt, lp_bk, lp_ct, lp_ex, ret_nx, ret_rt, ret_ex, s_exK, s_bif1, s_bif0, s_optB, s_optE, s_nxD, s_ifK, s_asgN, s_asgT, s_asgL, b_nil, b_nm, b_tp, s_next, s_seq, s_drop, s_ret, s_retN, s_ifS, s_asg, s_brk, s_cont, s_put, s_put1, s_put2, s_put3, s_aug, s_augV, s_augK, s_augK2, s_bin, s_bin1, s_bin2, s_var, s_varK, s_C, s_cb, s_cbK, s_call, s_callK, s_m, s_m1, s_m2, s_nil, s_cons, s_cons1, s_cons2, s_tup, s_tupK, s_lst, s_lstK, s_truth, s_trK, s_tK, s_eK, s_cK, s_and, s_andK, s_or, s_orK, s_not, s_notK, s_ife, s_ifeK, s_andV, s_orV, s_andvK, s_orvK, s_andvK2, s_orvK2, s_notV, s_notvK, s_blK, s_neg, s_negK, s_sl, s_sl1, s_sl2, s_sl3, s_noPart, s_part, s_partK, s_rev, s_revK, s_for, s_forK, s_lc, s_lcK, s_yes, s_walk, s_walkT, s_walkS, s_walkA, s_walkL, s_walkR, s_rng1, s_rng2, s_rng1K, s_rng2K, s_callL, s_callLK, s_callLO, s_clK, s_raise, r_val, r_new, r_put, s_whK, s_lcY, s_lcT, s_lcE, s_cg, s_cgK, s_rng3, s_rng3K, s_lcB, s_lcS, wipeD, Pat.bind, seqOf, rg, s_dict0, s_sortSet, s_sortSetK, q_is_tuple, q_is_str, q_is_int, q_is_bool, q_is_list, q_isR, ofS_inj, String.reduceEq, q_eqI, q_neI, q_eqS, q_neS, decide_true, decide_false, Int.reduceEq, reduceCtorEq, i_NoneType_tuple, i_NoneType_str, i_NoneType_int, i_NoneType_bool, i_NoneType_list, i_bool_tuple, i_bool_str, i_bool_int, i_bool_bool, i_bool_list, i_int_tuple, i_int_str, i_int_int, i_int_bool, i_int_list, i_str_tuple, i_str_str, i_str_int, i_str_bool, i_str_list, i_tuple_tuple, i_tuple_str, i_tuple_int, i_tuple_bool, i_tuple_list, i_list_tuple, i_list_str, i_list_int, i_list_bool, i_list_list, i_dict_tuple, i_dict_str, i_dict_int, i_dict_bool, i_dict_list, tyN, startD, mupd_same, mupd_ne, ne_eq, not_false_eq_true, List.map_cons, List.map_nil, List.length_cons, List.length_nil, List.replicate_succ, List.replicate_zero, Nat.zero_add, Nat.reduceAdd, Nat.reduceSub, Int.cast_ofNat_Int, List.cons_append, List.nil_append, List.getElem?_cons_zero, List.getElem?_cons_succ, List.set_cons_zero, List.set_cons_succ, opIx, atI_cons, ixN, opPut, opAdd, opSub, opMul, opFdiv, opMod, opPow, opLt, opLe, opGt, opGe, opIs, opIsNot, D.isNon, truth, bLen, bAbs, bInt, bTuple, bList, isTy, mAppend, mExtend, mPop, Int.reduceLE, Int.reduceLT, Int.reduceToNat, Int.reduceNeg, Int.reduceNe, Option.bind_some, if_true, if_false, ite_true, ite_false, true_and, and_true, Bool.not_true, Bool.not_false, opIadd, Nat.reduceLT, Nat.reduceLeDiff, Int.ofNat_lt, s_dpNil, s_dpCons, s_dpK1, s_dpK2, s_dpK3, s_disp, s_dispK, s_optKV, kvOf, s_dc, s_dcK, s_keys, s_lockK, s_sortIt, mGet, mDPop, dgetR, bDictC, bTupC, opEqD, opNeD, eqDR, D.key, merge_one, optKV, id, opEqL, opNeL, eqLR, $ls,*])
structure Few (p : Pic) : Prop where
  s1 : shp 2 (prsD p.same) = true
  s2 : shp 2 (prsD p.unlike) = true
  s3 : shp 2 (prsD p.cells) = true
  s4 : shp 2 (prsD p.chains) = true
  n1 : p.same.length ≤ 100
  n4 : p.chains.length ≤ 100
theorem shp_tup {n : Nat} {ds : List D} (h : ds.length ≤ 1000) (h2 : ∀ d ∈ ds, shp n d = true) : shp (n + 1) (.tup ds) = true := by
  simp only [shp, Bool.and_eq_true, decide_eq_true_eq, List.all_eq_true]
  exact ⟨h, h2⟩
theorem shp_add {ps : Prs} {x : D} (h : shp 2 (prsD ps) = true) (hl : ps.length ≤ 100) (hx : shp 1 x = true) : shp 2 (.tup (ps.map prD ++ [x])) = true := by
  simp only [shp, Bool.and_eq_true, decide_eq_true_eq, List.all_eq_true] at h
  refine shp_tup (by simp; omega) fun d hd => ?_
  rcases List.mem_append.mp hd with z | z
  · exact h.2 d z
  · rw [List.mem_singleton.mp z]; exact hx
theorem are_add {ps : Prs} {x : D} (hx : isPr x = false) : arePr (.tup (ps.map prD ++ [x])) = false := by
  show (ps.map prD ++ [x]).all isPr = false
  rw [List.all_append]
  simp [hx]
def sp_faults : DSp := fun ds M Q E => ∃ p : Pic, ds = [p.enc] ∧ Few p ∧ ∀ (xs : List D) r M', (∀ d ∈ xs, shp 3 d = true ∧ isPic d = false) → xs.length ≤ 100 → M r = none → M' r = some (.lst xs) → Keep [] M M' → Q (.ob r) M'
theorem mono_faults : MonoSp sp_faults := by
  rintro ds M Q Q' E E' hQ hE ⟨p, h1, h2, h⟩
  exact ⟨p, h1, h2, fun xs r M' z1 z2 z3 z4 z5 => hQ _ _ (h xs r M' z1 z2 z3 z4 z5)⟩
abbrev cL : List D := [.tup [.str (Str.ofString "x")], .tup [.str (Str.ofString "x"), .str (Str.ofString "x"), .str (Str.ofString "x")], .tup [.str (Str.ofString "x"), .int 0], .tup [.str (Str.ofString "X"), .str (Str.ofString "x")], .tup [.str (Str.ofString "x"), .str (Str.ofString "")],
  .tup [.str (Str.ofString "x"), .str (Str.ofString "cell")], .str (Str.ofString "xx"), .tup [.str (Str.ofString "nil"), .str (Str.ofString "_1")], .int 0]
theorem cL_ok : ∀ d ∈ cL, shp 1 d = true ∧ isPr d = false := by
  intro d hd
  simp only [cL, List.mem_cons, List.not_mem_nil, or_false] at hd
  rcases hd with rfl | rfl | rfl | rfl | rfl | rfl | rfl | rfl | rfl <;> exact ⟨by decide +kernel, by decide +kernel⟩
theorem fn_faults (S0 : Src K mg "_law_faults" s__law_faults ["picture"]) (G : GF K mg) : Fn P w K mg base 1 "_law_faults" sp_faults [] := by
  refine S0.fn mono_faults fun g fd F => fn_ok F sc__law_faults (fun ds M Q E h => by obtain ⟨p, rfl, _⟩ := h; rfl) ⟨_, fun cdv A outer s H E hr => have hu := hr.u200
    (xss_cons (xs_set 1 sc__law_faults.nd (xe_lst (n := 7) (xa_cons (xe_tup (n := 0) xa_nil) (xa_cons xe_int (xa_cons xe_str (xa_cons (xe_sl (xe_var 0) xo_none (xo_some xe_int)) (xa_cons (xe_bin x_add (xe_var 0) (xe_tup (n := 1) (xa_cons (xe_tup (n := 0) xa_nil) xa_nil))) (xa_cons (xe_bin x_add (xe_sl (xe_var 0) xo_none (xo_some xe_int)) (xe_tup (n := 1) (xa_cons xe_int xa_nil))) (xa_cons (xe_bin x_mul (xe_tup (n := 1) (xa_cons (xe_tup (n := 0) xa_nil) xa_nil)) xe_int) xa_nil)))))))))
 (xss_cons (xs_for (p := .nm 2) bx_passes rfl (xi_walk (xe_lst (n := 9) (xa_cons (xe_tup (n := 1) (xa_cons xe_str xa_nil)) (xa_cons (xe_tup (n := 3) (xa_cons xe_str (xa_cons xe_str (xa_cons xe_str xa_nil)))) (xa_cons (xe_tup (n := 2) (xa_cons xe_str (xa_cons xe_int xa_nil))) (xa_cons (xe_tup (n := 2) (xa_cons xe_str (xa_cons xe_str xa_nil))) (xa_cons (xe_tup (n := 2) (xa_cons xe_str (xa_cons xe_str xa_nil))) (xa_cons (xe_tup (n := 2) (xa_cons xe_str (xa_cons xe_str xa_nil))) (xa_cons xe_str (xa_cons (xe_tup (n := 2) (xa_cons xe_str (xa_cons xe_str xa_nil))) (xa_cons xe_int xa_nil))))))))))) (xg_name 2 sc__law_faults.nd)
 (xss_cons (xs_expr (xe_bm PySem.F.plainAttrs_list PySem.F.slot_list_append PySem.F.type_list_append m_append (xe_var 1) (xa_cons (xe_bin x_add (xe_tup (n := 1) (xa_cons (xe_bin x_add (xe_ix hu (xe_var 0) xe_int) (xe_tup (n := 1) (xa_cons (xe_var 2) xa_nil))) xa_nil)) (xe_sl (xe_var 0) (xo_some xe_int) xo_none)) xa_nil)))
 (xss_one (xs_expr (xe_bm PySem.F.plainAttrs_list PySem.F.slot_list_append PySem.F.type_list_append m_append (xe_var 1) (xa_cons (xe_bin x_add (xe_sl (xe_var 0) xo_none (xo_some xe_int)) (xe_tup (n := 1) (xa_cons (xe_bin x_add (xe_ix hu (xe_var 0) xe_int) (xe_tup (n := 1) (xa_cons (xe_var 2) xa_nil))) xa_nil))) xa_nil))))))
 (xss_one (xs_ret (xe_var 1))))), fun ds M Q E h => ?_⟩
  obtain ⟨p, rfl, hf, h⟩ := h
  have sz : sizeLine = 16777216 := sizeLine_eq
  have e3 : ∀ a b c d : D, cutD [a, b, c, d] none (some 3) = [a, b, c] := fun a b c d => rfl
  have e1 : ∀ a b c d : D, cutD [a, b, c, d] (some 1) none = [b, c, d] := fun a b c d => rfl
  simp! [opSl, e3, e1, atI_cons, ixN]
  refine ⟨by omega, by omega, fun r hr q hq => ?_⟩
  have rq : r ≠ q := ne_new mupd_same hq
  have nil2 : shp 2 (.tup []) = true := rfl
  have start : ∀ d ∈ [D.tup [], D.int 0, D.str (Str.ofString "picture"), D.tup [prsD p.same, prsD p.unlike, prsD p.cells], D.tup [prsD p.same, prsD p.unlike, prsD p.cells, prsD p.chains, D.tup []], D.tup [prsD p.same, prsD p.unlike, prsD p.cells, D.int 0], D.tup [[D.tup []], [D.tup []], [D.tup []], [D.tup []], [D.tup []]].flatten], shp 3 d = true ∧ isPic d = false := by
    intro d hd
    simp only [List.mem_cons, List.not_mem_nil, or_false] at hd
    have t2 : ∀ ds : List D, ds.length ≤ 1000 → (∀ d ∈ ds, d = prsD p.same ∨ d = prsD p.unlike ∨ d = prsD p.cells ∨ d = prsD p.chains ∨ d = .tup [] ∨ d = .int 0) → shp 3 (.tup ds) = true := fun ds hl h => shp_tup hl fun d hd => by
      rcases h d hd with rfl | rfl | rfl | rfl | rfl | rfl
      · exact hf.s1
      · exact hf.s2
      · exact hf.s3
      · exact hf.s4
      · rfl
      · rfl
    rcases hd with rfl | rfl | rfl | rfl | rfl | rfl | rfl
    · exact ⟨rfl, rfl⟩
    · exact ⟨rfl, rfl⟩
    · exact ⟨by decide +kernel, rfl⟩
    · exact ⟨t2 _ (by simp) (by simp), by simp [isPic]⟩
    · exact ⟨t2 _ (by simp) (by simp), by simp [isPic]⟩
    · exact ⟨t2 _ (by simp) (by simp), by simp [isPic, arePr]⟩
    · exact ⟨t2 _ (by simp) (by simp), by simp [isPic]⟩
  refine loop_inv (fun d : D => d) (fun rest env M' => ∃ (acc : List D) (d2 : Option D), (∀ d ∈ rest, shp 1 d = true ∧ isPr d = false) ∧ (∀ d ∈ acc, shp 3 d = true ∧ isPic d = false) ∧ acc.length + 2 * rest.length ≤ 40 ∧ M' r = some (.lst acc) ∧ M' q = some (.lst cL) ∧ Keep [] M M' ∧ env = [some p.enc, some (.ob r), d2])
    (fun _ _ M' ⟨_, _, _, _, _, _, z, _⟩ => .inl z) ?_ ?_ cL _ _ ⟨_, _, cL_ok, start, by simp, by rw [mupd_ne rq]; exact mupd_same, mupd_same, (Keep.new hr).trans (Keep.new hq), rfl⟩
  · rintro x rest env M1 N ⟨acc, d2, hx, hacc, hl, hr1, hq1, k1, rfl⟩ hN
    obtain ⟨x1, x2⟩ := hx x List.mem_cons_self
    simp only [List.length_cons] at hl
    simp! [opSl, e3, e1, atI_cons, ixN, hr1, List.length_map, List.length_append]
    have n1 := hf.n1
    have n4 := hf.n4
    refine ⟨by omega, by omega, by omega, by omega, by omega, by omega, ?_⟩
    refine hN _ _ ⟨acc ++ [D.tup [.tup (p.same.map prD ++ [x]), prsD p.unlike, prsD p.cells, prsD p.chains]] ++ [D.tup [prsD p.same, prsD p.unlike, prsD p.cells, .tup (p.chains.map prD ++ [x])]], _, fun d hd => hx d (List.mem_cons_of_mem _ hd), fun d hd => ?_, by simp only [List.length_append, List.length_cons, List.length_nil]; omega, by rw [mupd_same], ?_, Keep.putN (Keep.putN k1 hr) hr, rfl⟩
    · rcases List.mem_append.mp hd with hd | hd
      · rcases List.mem_append.mp hd with hd | hd
        · exact hacc d hd
        · rw [List.mem_singleton.mp hd]
          refine ⟨shp_tup (by simp) fun e he => ?_, ?_⟩
          · simp only [List.mem_cons, List.not_mem_nil, or_false] at he
            rcases he with rfl | rfl | rfl | rfl
            · exact shp_add hf.s1 hf.n1 x1
            · exact hf.s2
            · exact hf.s3
            · exact hf.s4
          · have := are_add (ps := p.same) x2
            simp only [isPic, List.all_cons, this, Bool.false_and, Bool.and_false]
      · rw [List.mem_singleton.mp hd]
        refine ⟨shp_tup (by simp) fun e he => ?_, ?_⟩
        · simp only [List.mem_cons, List.not_mem_nil, or_false] at he
          rcases he with rfl | rfl | rfl | rfl
          · exact hf.s1
          · exact hf.s2
          · exact hf.s3
          · exact shp_add hf.s4 hf.n4 x1
        · have := are_add (ps := p.chains) x2
          simp only [isPic, List.all_cons, this, Bool.false_and, Bool.and_false]
    · have qr : q ≠ r := fun e => rq e.symm
      rw [mupd_ne qr, mupd_ne qr]
      exact hq1
  · rintro env M1 ⟨acc, d2, _, hacc, hl, hr1, hq1, k1, rfl⟩
    simp! []
    simp only [List.length_nil] at hl
    exact h acc r M1 hacc (by omega) hr hr1 k1
end K05

set_option maxHeartbeats 4000000
namespace K05
open PySem PySem.Spec PyProof.Rows L2 PL
/-! the order of cells is of no weight -/
theorem look_perm {ms ys : Cells} (h : ys.Perm ms) (nd : (ms.map (·.1)).Nodup) (k : Int) : look ys k = look ms k := by
  have nd2 : (ys.map (·.1)).Nodup := (h.map _).nodup_iff.mpr nd
  cases e : look ms k with
  | some v => exact look_of_mem nd2 (p := (k, v)) (h.mem_iff.mpr (look_mem e))
  | none =>
    cases e2 : look ys k with
    | none => rfl
    | some v =>
      have := look_of_mem nd (p := (k, v)) (h.mem_iff.mp (look_mem e2))
      rw [e] at this
      cases this
theorem drop_perm {ms ys : Cells} (h : ys.Perm ms) (k : Int) : (dropI ys k).Perm (dropI ms k) := h.filter _
def OP : Option Cells → Option Cells → Prop
  | none, none => True
  | some a, some b => a.Perm b ∧ (b.map (·.1)).Nodup
  | _, _ => False
theorem takeCell_perm {ms ys : Cells} (h : ys.Perm ms) (nd : (ms.map (·.1)).Nodup) (b e : Int) : OP (takeCell ys b e) (takeCell ms b e) := by
  unfold takeCell
  rw [look_perm h nd]
  split
  · trivial
  · exact ⟨drop_perm h b, nodup_filter nd⟩
theorem chain_perm : ∀ (n : Nat) {ms ys : Cells}, ys.Perm ms → (ms.map (·.1)).Nodup → ∀ b e : Int, OP (chain n ys b e) (chain n ms b e)
  | 0, ms, ys, h, nd, b, e => by
    unfold chain
    split
    · exact ⟨h, nd⟩
    · trivial
  | n + 1, ms, ys, h, nd, b, e => by
    unfold chain
    rw [look_perm h nd]
    split
    · exact ⟨h, nd⟩
    · split
      · exact chain_perm n (drop_perm h b) (nodup_filter nd) _ _
      · trivial
theorem allCells_perm (f : Str → Int) : ∀ (ps : Prs) {ms ys : Cells}, ys.Perm ms → (ms.map (·.1)).Nodup → OP (allCells f ps ys) (allCells f ps ms)
  | [], ms, ys, h, nd => ⟨h, nd⟩
  | p :: r, ms, ys, h, nd => by
    have q := takeCell_perm h nd (f p.1) (f p.2)
    simp only [allCells]
    cases e1 : takeCell ys (f p.1) (f p.2) <;> cases e2 : takeCell ms (f p.1) (f p.2) <;> rw [e1, e2] at q
    · trivial
    · exact q.elim
    · exact q.elim
    · exact allCells_perm f r q.1 q.2
theorem allChains_perm (f : Str → Int) : ∀ (ps : Prs) {ms ys : Cells}, ys.Perm ms → (ms.map (·.1)).Nodup → OP (allChains f ps ys) (allChains f ps ms)
  | [], ms, ys, h, nd => ⟨h, nd⟩
  | p :: r, ms, ys, h, nd => by
    have q := chain_perm ms.length h nd (f p.1) (f p.2)
    simp only [allChains, takeChain]
    rw [h.length_eq]
    cases e1 : chain ms.length ys (f p.1) (f p.2) <;> cases e2 : chain ms.length ms (f p.1) (f p.2) <;> rw [e1, e2] at q
    · trivial
    · exact q.elim
    · exact q.elim
    · exact allChains_perm f r q.1 q.2
theorem hold_perm (f : Str → Int) (p : Pic) {ms ys : Cells} (h : ys.Perm ms) (nd : (ms.map (·.1)).Nodup) : hold f p ys = hold f p ms := by
  unfold hold
  congr 1
  have q := allCells_perm f p.cells h nd
  cases e1 : allCells f p.cells ys with
  | none =>
    cases e2 : allCells f p.cells ms with
    | none => rfl
    | some b => rw [e1, e2] at q; exact q.elim
  | some a =>
    cases e2 : allCells f p.cells ms with
    | none => rw [e1, e2] at q; exact q.elim
    | some b =>
      rw [e1, e2] at q
      have q2 := allChains_perm f p.chains q.1 q.2
      dsimp only
      cases e3 : allChains f p.chains a with
      | none =>
        cases e4 : allChains f p.chains b with
        | none => rfl
        | some d => rw [e3, e4] at q2; exact q2.elim
      | some c =>
        cases e4 : allChains f p.chains b with
        | none => rw [e3, e4] at q2; exact q2.elim
        | some d =>
          rw [e3, e4] at q2
          have := q2.1.length_eq
          cases c <;> cases d <;> simp_all
theorem GoodH.perm {ms ys : Cells} (h : GoodH ms) (p : ys.Perm ms) : GoodH ys := ⟨(p.map _).nodup_iff.mpr h.1, by rw [p.length_eq]; exact h.2.1, fun q hq => h.2.2 q (p.mem_iff.mp hq)⟩
/-! the names of the law -/
structure Nms (S : List Str) : Prop where
  few : S.length ≤ 3
  nd : S.Nodup
  nonil : nil ∉ S
  ne : S ≠ []
  good : ∀ x ∈ S, isNmS x = true ∧ x.length ≤ 16
abbrev xyz : List Str := [Str.ofString "x", Str.ofString "y", Str.ofString "z"]
theorem nms_of {r : Int} (h0 : 0 ≤ r) (h3 : r < 3) : ∃ S, cutD (xyz.map D.str) none (some (1 + r)) = S.map D.str ∧ Nms S := by
  have : r = 0 ∨ r = 1 ∨ r = 2 := by omega
  rcases this with rfl | rfl | rfl
  · exact ⟨[Str.ofString "x"], rfl, by decide, by decide +kernel, by decide +kernel, by decide, by decide +kernel⟩
  · exact ⟨[Str.ofString "x", Str.ofString "y"], rfl, by decide, by decide +kernel, by decide +kernel, by decide, by decide +kernel⟩
  · exact ⟨xyz, rfl, by decide, by decide +kernel, by decide +kernel, by decide, by decide +kernel⟩
theorem Nms.pl {S : List Str} (h : Nms S) {x : Str} (hx : x ∈ nil :: S) : isPl (.str x) = true ∧ x.length ≤ 16 := by
  rcases List.mem_cons.mp hx with e | e
  · subst e
    exact ⟨by decide +kernel, by decide +kernel⟩
  · obtain ⟨h1, h2⟩ := h.good x e
    exact ⟨by show (decide (x = nil) || isNmS x) = true; rw [h1, Bool.or_true], h2⟩
theorem Nms.part {S : List Str} (h : Nms S) {ps : Prs} (hp : Names (nil :: S) ps) (hl : ps.length ≤ 100) : shp 2 (prsD ps) = true ∧ arePr (prsD ps) = true := by
  refine ⟨shp_tup (by rw [List.length_map]; omega) fun d hd => ?_, ?_⟩
  · obtain ⟨q, hq, rfl⟩ := List.mem_map.mp hd
    obtain ⟨h1, h2⟩ := hp q hq
    have l1 := (h.pl h1).2
    have l2 := (h.pl h2).2
    refine shp_tup (by simp) fun e he => ?_
    simp only [List.mem_cons, List.not_mem_nil, or_false] at he
    rcases he with rfl | rfl
    · exact decide_eq_true (show q.1.length ≤ 1000 by omega)
    · exact decide_eq_true (show q.2.length ≤ 1000 by omega)
  · show (ps.map fun p => D.tup [.str p.1, .str p.2]).all isPr = true
    rw [List.all_map, List.all_eq_true]
    intro q hq
    obtain ⟨h1, h2⟩ := hp q hq
    show (isPl (.str q.1) && isPl (.str q.2)) = true
    rw [(h.pl h1).1, (h.pl h2).1]
    rfl
end K05

set_option maxHeartbeats 4000000
namespace K05
open PySem PySem.Spec PyProof.Rows L2 PL
variable {P : Program} {w : World} {K : PySem.W.Frag} {mg : Str → Option Value} {base : Heap}
local macro_rules | `(tactic| simp! [$ls,*]) => `(tactic| simp only [to_nx, to_rt, to_bk, to_ct, to_ex, lp_nx, lp_rt, lp_bk, lp_ct, lp_ex, ret_nx, ret_rt, ret_ex, s_exK, s_bif1, s_bif0, s_optB, s_optE, s_nxD, s_ifK, s_asgN, s_asgT, s_asgL, b_nil, b_nm, b_tp, s_next, s_seq, s_drop, s_ret, s_retN, s_ifS, s_asg, s_brk, s_cont, s_put, s_put1, s_put2, s_put3, s_aug, s_augV, s_augK, s_augK2, s_bin, s_bin1, s_bin2, s_var, s_varK, s_C, s_cb, s_cbK, s_call, s_callK, s_m, s_m1, s_m2, s_nil, s_cons, s_cons1, s_cons2, s_tup, s_tupK, s_lst, s_lstK, s_truth, s_trK, s_tK, s_eK, s_cK, s_and, s_andK, s_or, s_orK, s_not, s_notK, s_ife, s_ifeK, s_andV, s_orV, s_andvK, s_orvK, s_andvK2, s_orvK2, s_notV, s_notvK, s_blK, s_neg, s_negK, s_sl, s_sl1, s_sl2, s_sl3, s_noPart, s_part, s_partK, s_rev, s_revK, s_for, s_forK, s_lc, s_lcK, s_yes, s_walk, s_walkT, s_walkS, s_walkA, s_walkL, s_walkR, s_rng1, s_rng2, s_rng1K, s_rng2K, s_callL, s_callLK, s_callLO, s_clK, s_raise, r_val, r_new, r_put, s_whK, s_lcY, s_lcT, s_lcE, s_cg, s_cgK, s_rng3, s_rng3K, s_lcB, s_lcS, wipeD, Pat.bind, seqOf, rg, s_dict0, s_sortSet, s_sortSetK, q_is_tuple, q_is_str, q_is_int, q_is_bool, q_is_list, q_isR, ofS_inj, String.reduceEq, q_eqI, q_neI, q_eqS, q_neS, decide_true, decide_false, Int.reduceEq, reduceCtorEq, i_NoneType_tuple, i_NoneType_str, i_NoneType_int, i_NoneType_bool, i_NoneType_list, i_bool_tuple, i_bool_str, i_bool_int, i_bool_bool, i_bool_list, i_int_tuple, i_int_str, i_int_int, i_int_bool, i_int_list, i_str_tuple, i_str_str, i_str_int, i_str_bool, i_str_list, i_tuple_tuple, i_tuple_str, i_tuple_int, i_tuple_bool, i_tuple_list, i_list_tuple, i_list_str, i_list_int, i_list_bool, i_list_list, i_dict_tuple, i_dict_str, i_dict_int, i_dict_bool, i_dict_list, tyN, startD, mupd_same, mupd_ne, ne_eq, not_false_eq_true, List.map_cons, List.map_nil, List.length_cons, List.length_nil, List.replicate_succ, List.replicate_zero, Nat.zero_add, Nat.reduceAdd, Nat.reduceSub, Int.cast_ofNat_Int, List.cons_append, List.nil_append, List.getElem?_cons_zero, List.getElem?_cons_succ, List.set_cons_zero, List.set_cons_succ, opIx, atI_cons, ixN, opPut, opAdd, opSub, opMul, opFdiv, opMod, opPow, opLt, opLe, opGt, opGe, opIs, opIsNot, D.isNon, truth, bLen, bAbs, bInt, bTuple, bList, isTy, mAppend, mExtend, mPop, Int.reduceLE, Int.reduceLT, Int.reduceToNat, Int.reduceNeg, Int.reduceNe, Option.bind_some, if_true, if_false, ite_true, ite_false, true_and, and_true, Bool.not_true, Bool.not_false, opIadd, Nat.reduceLT, Nat.reduceLeDiff, Int.ofNat_lt, s_dpNil, s_dpCons, s_dpK1, s_dpK2, s_dpK3, s_disp, s_dispK, s_optKV, kvOf, s_dc, s_dcK, s_keys, s_lockK, s_sortIt, mGet, mDPop, dgetR, bDictC, bTupC, opEqD, opNeD, eqDR, D.key, merge_one, optKV, id, opEqL, opNeL, eqLR, $ls,*])
def sp_law (K : PySem.W.Frag) : DSp := fun ds M Q E => ∃ (a : Addr) (ns : List Int), ds = [.ob a] ∧ Scr K M a ns ∧ ∀ M', Q (.bl true) M'
theorem mono_law : MonoSp (sp_law K) := by
  rintro ds M Q Q' E E' hQ hE ⟨a, ns, h1, h2, h⟩
  exact ⟨a, ns, h1, h2, fun M' => hQ _ _ (h M')⟩
theorem ne_st {M : Mem} {s b a : Addr} {kvs : List (Key × D)} (hs : StAt M s b) (h : M a = some (.dk kvs)) : a ≠ s := fun e => by
  obtain ⟨_, _, _, _, h1, _⟩ := hs
  rw [← e, h] at h1
  cases h1
theorem keepPl {M M' : Mem} {s b pl : Addr} {f : Str → Int} {S : List Str} (hs : StAt M s b) (h : PlAt M pl f S) (k : Keep [s] M M') : PlAt M' pl f S := by
  obtain ⟨kvs, h1, _⟩ := id h
  exact h.keep k (by simpa using ne_st hs h1)
theorem keepCl {M M' : Mem} {s b c : Addr} {n : Nat} (hs : StAt M s b) (h : Cl M n c) (k : Keep [s] M M') : Cl M' n c := by
  obtain ⟨ms, h1, _⟩ := id h
  exact h.keep k (by simpa using ne_st hs h1)
theorem keepWd {M M' : Mem} {s b : Addr} {S : List Str} {d : D} (hs : StAt M s b) (h : Wd M S d) (k : Keep [s] M M') : Wd M' S d := h.keep k fun a ha => by
  obtain ⟨_, _, _, _, h1, _⟩ := hs
  rw [List.mem_singleton.mp ha]
  exact ⟨_, h1⟩
theorem ok_law {f : Addr} {fd : FuncData} (F : Fun K "law" "law" s_law f fd) (G : GF K mg) (F__law_start : Fn P w K mg base 1 "_law_start" (sp_start K) []) (F__law_draw : Fn P w K mg base 1 "_law_draw" sp_draw []) (F__law_one_of : Fn P w K mg base 2 "_law_one_of" sp_one_of [])
    (F__law_picture : Fn P w K mg base 5 "_law_picture" sp_pict []) (F_is_picture : Fn P w K mg base 5 "is_picture" sp_ispic []) (F__law_faults : Fn P w K mg base 1 "_law_faults" sp_faults []) (F__law_models : Fn P w K mg base 3 "_law_models" sp_models []) (F__law_some_heap : Fn P w K mg base 3 "_law_some_heap" sp_some [])
    (F__law_says : Fn P w K mg base 1 "_law_says" sp_says []) (F_holds : Fn P w K mg base 2 "holds" sp_holds []) (F__law_holds : Fn P w K mg base 2 "_law_holds" sp_lholds []) : FnOk P w K mg base (L2.CX P w) 6 f fd ["script"] (liftSp K (sp_law K)) := by
  refine fn_ok F sc_law (fun ds M Q E h => by obtain ⟨a, m, rfl, _⟩ := h; rfl) ⟨_, fun cdv A outer s H E hr => have hu := hr.u200
    (xss_cons (xs_set 1 sc_law.nd (xe_call F__law_start (hr.mono (by first | decide | omega)) bx_takes (by rfl) (xa_cons (xe_var 0) xa_nil)))
 (xss_cons (xs_set 2 sc_law.nd (xe_sl (xe_lst (n := 3) (xa_cons xe_str (xa_cons xe_str (xa_cons xe_str xa_nil)))) xo_none (xo_some (xe_bin x_add xe_int (xe_call F__law_draw (hr.mono (by first | decide | omega)) bx_takes (by rfl) (xa_cons (xe_var 1) (xa_cons xe_int xa_nil)))))))
 (xss_cons (xs_for (p := .nm 3) bx_passes rfl (xi_range1 (by rfl) G.range (xa_cons xe_int xa_nil)) (xg_name 3 sc_law.nd)
 (xss_cons (xs_set 4 sc_law.nd (xe_call F__law_picture (hr.mono (by first | decide | omega)) bx_takes (by rfl) (xa_cons (xe_var 1) (xa_cons (xe_var 2) (xa_cons xe_int xa_nil)))))
 (xss_cons (xs_if (xt_wh (xw_or (xt_cmp x_isnot (xe_call F_is_picture (hr.mono (by first | decide | omega)) bx_takes (by rfl) (xa_cons (xe_var 4) xa_nil)) xe_bl (nomark _) bl_isnot) (xw_or1 (xt_not (xt_val (xe_callB (c_all rfl) (by rfl) G.all (by decide +kernel) (xa_cons (xe_lc (own := [("odd", 12)]) (p := .nm 12) rfl sc_law.nd (xi_walk (xe_call F__law_faults (hr.mono (by first | decide | omega)) bx_takes (by rfl) (xa_cons (xe_var 4) xa_nil))) (blkOk_by (by show blkC ["script", "state", "names", "turn", "picture", "worlds", "again", "places", "name", "heap", "stack", "cells", "odd"] (defScope s_law) _ _ = true; decide +kernel)) (fun _ _ _ _ _ => (xg_name 12 sc_law.nd)) (fun _ _ _ _ _ => xts_nil) (fun _ _ _ _ _ => (xe_cmp x_is (xe_call F_is_picture (hr.mono (by first | decide | omega)) takes0 (by rfl) (xa_cons (xe_var 12) xa_nil)) xe_bl (nomark _)))) xa_nil)))))))
 (xss_one (xs_ret xe_bl))
 xss_nil)
 (xss_cons (xs_set 5 sc_law.nd (xe_call F__law_models (hr.mono (by first | decide | omega)) bx_takes (by rfl) (xa_cons (xe_var 4) (xa_cons (xe_var 2) (xa_cons xe_int xa_nil)))))
 (xss_one (xs_for (p := .nm 6) bx_passes rfl (xi_range1 (by rfl) G.range (xa_cons xe_int xa_nil)) (xg_name 6 sc_law.nd)
 (xss_cons (xs_set 7 sc_law.nd (xe_disp (xps_cons xe_str xe_int xps_nil)))
 (xss_cons (xs_for (p := .nm 8) bx_passes rfl (xi_walk (xe_var 2)) (xg_name 8 sc_law.nd)
 (xss_one (xs_put hu (xe_call F__law_draw (hr.mono (by first | decide | omega)) bx_takes (by rfl) (xa_cons (xe_var 1) (xa_cons xe_int xa_nil))) (xe_var 7) (xe_var 8))))
 (xss_cons (xs_set 9 sc_law.nd xe_dict0)
 (xss_cons (xs_if (xt_cmp (x_neL hu) (xe_var 5) (xe_lst (n := 0) xa_nil) (nomark _) bl_neL)
 (xss_one (xs_asg (p := .tp [.nm 7, .nm 9]) (xe_call F__law_one_of (hr.mono (by first | decide | omega)) bx_takes (by rfl) (xa_cons (xe_var 1) (xa_cons (xe_var 5) xa_nil))) (xg_tup rfl (xgs_cons (xg_name 7 sc_law.nd) (xgs_cons (xg_name 9 sc_law.nd) xgs_nil)))))
 xss_nil)
 (xss_cons (xs_set 9 sc_law.nd (xe_call F__law_some_heap (hr.mono (by first | decide | omega)) bx_takes (by rfl) (xa_cons (xe_var 1) (xa_cons (xe_var 9) xa_nil))))
 (xss_cons (xs_set 10 sc_law.nd (xe_callTy c_tupC (by rfl) G.tuple (by decide +kernel) (xa_cons (xe_lc (own := [("name", 8)]) (p := .nm 8) rfl sc_law.nd (xi_walk (xe_var 2)) (blkOk_by (by show blkC ["script", "state", "names", "turn", "picture", "worlds", "again", "places", "name", "heap", "stack", "cells", "odd"] (defScope s_law) _ _ = true; decide +kernel)) (fun _ _ _ _ _ => (xg_name 8 sc_law.nd)) (fun _ _ _ _ _ => xts_nil) (fun _ _ _ _ _ => (xe_tup (n := 2) (xa_cons (xe_var 8) (xa_cons (xe_ix hu (xe_var 7) (xe_var 8)) xa_nil))))) xa_nil)))
 (xss_cons (xs_set 11 sc_law.nd (xe_callTy c_tupC (by rfl) G.tuple (by decide +kernel) (xa_cons (xe_sortIt rfl (xe_var 9) (by rfl) G.sorted (by decide +kernel)) xa_nil)))
 (xss_one (xs_if (xt_not (xt_val (xe_call F__law_says (hr.mono (by first | decide | omega)) bx_takes (by rfl) (xa_cons (xe_call F_holds (hr.mono (by first | decide | omega)) bx_takes (by rfl) (xa_cons (xe_var 4) (xa_cons (xe_var 10) (xa_cons (xe_var 11) xa_nil)))) (xa_cons (xe_call F__law_holds (hr.mono (by first | decide | omega)) bx_takes (by rfl) (xa_cons (xe_var 4) (xa_cons (xe_var 7) (xa_cons (xe_var 9) xa_nil)))) xa_nil)))))
 (xss_one (xs_ret xe_bl))
 xss_nil)))))))))))))))
 (xss_one (xs_ret xe_bl))))), fun ds M Q E h => ?_⟩
  obtain ⟨a, ns, rfl, hs, h⟩ := h
  have sz : sizeLine = 16777216 := sizeLine_eq
  simp! []
  refine ⟨a, ns, rfl, hs, fun s b M1 _ _ hs1 k1 => ?_⟩
  simp! []
  intro p0 hp0
  refine ⟨s, b, 3, rfl, hs1.new hp0, by decide, by decide, fun r M2 r0 r1 hs2 k2 => ?_⟩
  have hp2 := k2 _ _ mupd_same (by simpa using (hs1.ne hp0).1)
  obtain ⟨S, eS, hS⟩ := nms_of r0 r1
  simp only [List.map_cons, List.map_nil] at eS
  simp! [opSl, hp2, eS]
  intro nm hnm
  refine ⟨by decide, ?_⟩
  have hn : NmAt (mupd M2 nm (.lst (S.map D.str))) s b nm S := ⟨hs2.new hnm, mupd_same, (hs2.ne hnm).1, hS.ne, by have := hS.few; omega⟩
  generalize mupd M2 nm (.lst (S.map D.str)) = M3 at hn ⊢
  refine loop_inv (fun i : Nat => D.int (0 + (i : Int))) (fun rest e M' => ∃ d3 d4 d5 d6 d7 d8 d9 d10 d11 : Option D, e = [some (.ob a), some (.ob s), some (.ob nm), d3, d4, d5, d6, d7, d8, d9, d10, d11, none] ∧ NmAt M' s b nm S) (fun _ _ _ _ => trivial) ?_ ?_ (List.range _) _ _ ⟨_, _, _, _, _, _, _, _, _, rfl, hn⟩
  · rintro x rest e M4 N ⟨d3, d4, d5, d6, d7, d8, d9, d10, d11, rfl, hn4⟩ hN
    simp! []
    refine ⟨s, b, nm, S, 3, rfl, hn4, by decide, fun p M5 hp hl1 hl2 hl3 hn5 k5 => ?_⟩
    have q1 := hS.part hp.same (by omega)
    have q2 := hS.part hp.unlike (by omega)
    have q3 := hS.part hp.cells (by omega)
    have q4 := hS.part hp.chains (by omega)
    have few : Few p := ⟨q1.1, q2.1, q3.1, q4.1, by omega, by omega⟩
    have pic : isPic p.enc = true := by
      show (decide ((4 : Int) = 4) && [prsD p.same, prsD p.unlike, prsD p.cells, prsD p.chains].all arePr) = true
      simp only [List.all_cons, List.all_nil, q1.2, q2.2, q3.2, q4.2]
      rfl
    have shpic : shp 3 p.enc = true := shp_tup (by simp) fun d hd => by
      simp only [List.mem_cons, List.not_mem_nil, or_false] at hd
      rcases hd with rfl | rfl | rfl | rfl
      · exact q1.1
      · exact q2.1
      · exact q3.1
      · exact q4.1
    simp! []
    refine ⟨p.enc, rfl, shpic, fun M6 k6 => ?_⟩
    rw [pic]
    simp! []
    refine ⟨p, rfl, few, fun xs r M7 hxs hxl hr hr7 k7 => ?_⟩
    simp! [hr7]
    intro t ht
    refine lc_pureI (fun d => D.bl true) (fun _ => true) xs ht (fun M' k => .inl (k _ _ hr7 (by simp))) (by omega) (fun d hd M8 N2 sk k8 hy _ => ?_) fun M8 k8 e8 => ?_
    · simp! []
      refine ⟨d, rfl, (hxs d hd).1, fun M9 k9 => ?_⟩
      rw [(hxs d hd).2]
      simp! []
      exact hy rfl _ k9
    simp! []
    refine run_all (g := fun _ => true) e8 ?_
    rw [show (List.all _ fun _ => true) = true by simp]
    have hn8 := ((hn5.keep0 k6).keep0 k7).keep0 k8
    simp! []
    refine ⟨p, nm, S, rfl, hn8.at_, hS.few, hS.nd, hS.nonil, hp, by omega, by omega, hl3, fun ws rw_ M9 hws hwl hrw hrw9 k9 => ?_⟩
    have hn9 := hn8.keep0 k9
    have rws : rw_ ≠ s := (hn8.st.ne hrw).1
    simp! []
    refine ⟨by decide, ?_⟩
    refine loop_inv (fun i : Nat => D.int (0 + (i : Int))) (fun rest e M' => ∃ d6 d7 d8 d9 d10 d11 : Option D, e = [some (.ob a), some (.ob s), some (.ob nm), some (.int (0 + (x : Int))), some p.enc, some (.ob rw_), d6, d7, d8, d9, d10, d11, none] ∧ NmAt M' s b nm S ∧ M' rw_ = some (.lst ws) ∧ ∀ d ∈ ws, Wd M' S d) (fun _ _ _ _ => trivial) ?_ ?_ (List.range _) _ _ ⟨_, _, _, _, _, _, rfl, hn9, hrw9, hws⟩
    · rintro y rest2 e M10 N2 ⟨d6, d7, d8, d9, d10, d11, rfl, hn10, hrw10, hws10⟩ hN2
      simp! []
      intro pl hpl
      have pls := (hn10.st.ne hpl).1
      have k11 : Keep [s] M10 (mupd (mupd M10 pl (.dk [])) pl (.dk [((.inr nil : Key), .int 0)])) := (Keep.putN (Keep.new hpl) hpl).weaken (by simp)
      have hs11 : StAt (mupd (mupd M10 pl (.dk [])) pl (.dk [((.inr nil : Key), .int 0)])) s b := hn10.st.keep (Keep.putN (Keep.new hpl) hpl : Keep [] _ _)
      have hpl11 : mupd (mupd M10 pl (.dk [])) pl (.dk [((.inr nil : Key), .int 0)]) pl = some (.dk [((.inr nil : Key), .int 0)]) := mupd_same
      generalize mupd (mupd M10 pl (.dk [])) pl (.dk [((.inr nil : Key), .int 0)]) = M11 at k11 hs11 hpl11 ⊢
      have hn11 := (hn10.keep hs11 k11).at_
      have few3 := hS.few
      simp! [hn11]
      refine loop_inv D.str (fun rest3 e M' => ∃ (zs : List (Str × Int)) (d8 : Option D), nil :: S = ((nil, (0 : Int)) :: zs).map (·.1) ++ rest3 ∧ (∀ z ∈ zs, 0 ≤ z.2) ∧ M' pl = some (.dk (((nil, (0 : Int)) :: zs).map zD)) ∧ StAt M' s b ∧ Keep [s] M10 M' ∧
        e = [some (.ob a), some (.ob s), some (.ob nm), some (.int (0 + (x : Int))), some p.enc, some (.ob rw_), some (.int (0 + (y : Int))), some (.ob pl), d8, d9, d10, d11, none]) (fun _ _ M' ⟨_, _, _, _, _, z, k, _⟩ => .inl (hn10.keep z k).at_) ?_ ?_ S _ _ ⟨[], _, rfl, (fun z hz => by cases hz), hpl11, hs11, k11, rfl⟩
      · rintro nme rest3 e M12 N3 ⟨zs, d8, ek, hz, hpl12, hs12, k12, rfl⟩ hN3
        simp! []
        refine ⟨s, b, 5, rfl, hs12, by decide, by decide, fun v M13 v0 v1 hs13 k13 => ?_⟩
        have hpl13 := k13 _ _ hpl12 (by simpa using pls)
        have zl : zs.length + 1 + (rest3.length + 1) = S.length + 1 := by
          have := congrArg List.length ek
          simp at this
          omega
        have fresh : (Sum.inr nme : Key) ∉ (((nil, (0 : Int)) :: zs).map zD).map (·.1) := by
          have nd : (nil :: S).Nodup := List.nodup_cons.mpr ⟨hS.nonil, hS.nd⟩
          rw [ek, List.nodup_append] at nd
          rw [List.map_map]
          intro hm
          obtain ⟨z, hz2, e⟩ := List.mem_map.mp hm
          exact nd.2.2 z.1 (List.mem_map.mpr ⟨z, hz2, rfl⟩) nme List.mem_cons_self (Sum.inr.inj e)
        have pe := putD_fresh (d := D.int v) fresh
        have small : (((nil, (0 : Int)) :: zs).map zD).length < sizeLine := by simp only [List.length_map, List.length_cons]; omega
        simp only [List.map_cons] at hpl13 small pe
        simp! [hpl13, List.length_map]
        refine ⟨by simpa using small, ?_⟩
        refine hN3 _ _ ⟨zs ++ [(nme, v)], _, by rw [ek]; simp, fun z hz2 => ?_, ?_, hs13.put pls (hn10.st.ne hpl).2, ((k12.trans k13).weaken (T := [pl, s]) (by simp)).trans (Keep.put (by simp)) |>.drop hpl, rfl⟩
        · rcases List.mem_append.mp hz2 with e | e
          · exact hz z e
          · rw [List.mem_singleton.mp e]; exact v0
        · rw [mupd_same, pe]
          simp
      · rintro e M12 ⟨zs, d8, ek, hz, hpl12, hs12, k12, rfl⟩
        rw [List.append_nil] at ek
        have hP : PlAt M12 pl (fOf ((nil, 0) :: zs)) (nil :: S) := ⟨_, hpl12, fun x hx => by
          rw [ek] at hx
          obtain ⟨v, h1, _⟩ := look_some hx
          rw [look_z, h1]
          unfold fOf
          rw [h1]
          rfl⟩
        have f0 : ∀ x, 0 ≤ fOf ((nil, 0) :: zs) x := fOf_nn fun z hz2 => by
          rcases List.mem_cons.mp hz2 with e | e
          · rw [e]; exact Int.le_refl _
          · exact hz z e
        have fn0 : fOf ((nil, 0) :: zs) nil = 0 := by simp [fOf, look]
        generalize fOf ((nil, 0) :: zs) = f1 at hP f0 fn0
        simp! []
        intro h0 hh0 e0 he0
        have hs13 : StAt (mupd M12 h0 (.dk [])) s b := hs12.new hh0
        have hh13 : mupd M12 h0 (.dk []) h0 = some (.dk []) := mupd_same
        have hP13 : PlAt (mupd M12 h0 (.dk [])) pl f1 (nil :: S) := hP.keep (Keep.new hh0 : Keep [] _ _)
        have k13 : Keep [s] M10 (mupd M12 h0 (.dk [])) := k12.trans (Keep.new hh0)
        generalize mupd M12 h0 (.dk []) = M13 at he0 hs13 hh13 hP13 k13 ⊢
        have hs14 := hs13.new he0 (o := .lst [])
        have k14 : Keep [s] M10 (mupd M13 e0 (.lst [])) := k13.trans (Keep.new he0)
        have he14 : mupd M13 e0 (.lst []) e0 = some (.lst []) := mupd_same
        have hh14 : mupd M13 e0 (.lst []) h0 = some (.dk []) := (Keep.new he0 : Keep [] M13 _) _ _ hh13 (by simp)
        have hP14 : PlAt (mupd M13 e0 (.lst [])) pl f1 (nil :: S) := hP13.keep (Keep.new he0 : Keep [] _ _)
        generalize mupd M13 e0 (.lst []) = M14 at hs14 k14 he14 hh14 hP14 ⊢
        have hrw14 := k14 _ _ hrw10 (by simpa using rws)
        simp! [hrw14, he14]
        refine ⟨.inr trivial, ?_⟩
        refine bif_mid (fun e M' => ∃ (pl c : Addr) (f : Str → Int) (d8 : Option D), e = [some (.ob a), some (.ob s), some (.ob nm), some (.int (0 + (x : Int))), some p.enc, some (.ob rw_), some (.int (0 + (y : Int))), some (.ob pl), d8, some (.ob c), d10, d11, none] ∧
          StAt M' s b ∧ Keep [s] M10 M' ∧ PlAt M' pl f (nil :: S) ∧ (∀ x, 0 ≤ f x) ∧ f nil = 0 ∧ Cl M' 9 c) (fun z N4 hN4 => ?_) (fun _ N4 hN4 => ?_) ?_
        · simp! []
          refine ⟨s, b, .ob rw_, ws, rfl, hs14, by simp only [seqI, hrw14], by simpa [ofA] using rws, by intro e; rw [e] at z; simp at z, by omega, fun d M15 hd hs15 k15 => ?_⟩
          obtain ⟨pl2, c2, f2, rfl, hP2, f20, f2n, hc2⟩ := keepWd hs14 (keepWd hn10.st (hws10 d hd) k14) k15
          simp! []
          exact hN4 _ _ ⟨pl2, c2, f2, _, rfl, hs15, k14.trans k15, hP2, f20, f2n, hc2⟩
        · simp! []
          exact hN4 _ _ ⟨pl, h0, f1, _, rfl, hs14, k14, hP14, f0, fn0, [], hh14, GoodH.nil, Nat.zero_le _⟩
        · rintro e M15 ⟨pl2, c2, f2, d8, rfl, hs15, k15, hP15, f20, f2n, hc15⟩
          simp! []
          refine ⟨s, b, c2, rfl, hs15, hc15, fun c3 M16 hc16 hs16 _ k16 => ?_⟩
          have hP16 := keepPl hs15 hP15 k16
          have kk16 := k15.trans k16
          have hn16 := (hn10.keep hs16 kk16).at_
          obtain ⟨kvs, hkv, lk⟩ := id hP16
          simp! [hn16]
          intro t2 ht2
          refine lc_pure D.str (fun n => D.tup [.str n, .int (f2 n)]) (fun _ => true) S ht2 (fun M' k => .inl (k _ _ hn16 (by simp))) (by omega) (fun n hn M17 N5 sk k17 hy _ => ?_) fun M17 k17 e17 => ?_
          · have hkv17 := k17 _ _ hkv (by simp)
            simp! [hkv17, lk n (List.mem_cons_of_mem _ hn)]
            exact hy rfl _ Keep.refl
          rw [filter_tt] at e17
          simp! [e17]
          intro st hst
          have k18 : Keep [] M16 (mupd M17 st (.ctp (S.map fun n => D.tup [.str n, .int (f2 n)]))) := k17.trans (Keep.new hst)
          have hst18 : mupd M17 st (.ctp (S.map fun n => D.tup [.str n, .int (f2 n)])) st = some (.ctp (stackD f2 S)) := mupd_same
          generalize mupd M17 st (.ctp (S.map fun n => D.tup [.str n, .int (f2 n)])) = M18 at k18 hst18 ⊢
          obtain ⟨ms, hms, hg, hml⟩ := hc16.keep k18
          have hms' : M18 c3 = some (.dk (ms.map entD)) := hms
          refine ⟨c3, ms, rfl, .inl hms', fun ys l hperm _ hl => ?_⟩
          have yg := hg.perm hperm
          have hst19 := (Keep.new hl : Keep [] M18 (mupd M18 l (.lst (ys.map pairI)))) _ _ hst18 (by simp)
          have hms19 : mupd M18 l (.lst (ys.map pairI)) c3 = _ := (Keep.new hl : Keep [] M18 (mupd M18 l (.lst (ys.map pairI)))) _ _ hms' (by simp)
          have k19 : Keep [] M16 (mupd M18 l (.lst (ys.map pairI))) := k18.trans (Keep.new hl)
          have hl19 : mupd M18 l (.lst (ys.map pairI)) l = some (.lst (ys.map pairI)) := mupd_same
          generalize mupd M18 l (.lst (ys.map pairI)) = M19 at hst19 hms19 k19 hl19 ⊢
          simp! [hl19]
          intro ct hct
          have hst20 := (Keep.new hct : Keep [] M19 (mupd M19 ct (.ctp (ys.map pairI)))) _ _ hst19 (by simp)
          have hms20 : HAt (mupd M19 ct (.ctp (ys.map pairI))) c3 ms := (Keep.new hct : Keep [] M19 (mupd M19 ct (.ctp (ys.map pairI)))) _ _ hms19 (by simp)
          have hct20 : mupd M19 ct (.ctp (ys.map pairI)) ct = some (.ctp (ys.map pairI)) := mupd_same
          have k20 : Keep [] M16 (mupd M19 ct (.ctp (ys.map pairI))) := k19.trans (Keep.new hct)
          generalize mupd M19 ct (.ctp (ys.map pairI)) = M20 at hst20 hms20 hct20 k20 ⊢
          refine ⟨p, st, ct, f2, S, ys, rfl, hst20, hct20, yg, hS.nd, hS.nonil, f2n, hp, by omega, by omega, by omega, fun M21 k21 => ?_⟩
          simp! []
          refine ⟨p, pl2, c3, f2, nil :: S, ms, rfl, (hP16.keep k20).keep k21, k21 _ _ hms20 (by simp), hg, f20, hp, fun M22 k22 => ?_⟩
          rw [hold_perm f2 p hperm hg.1]
          simp! []
          refine ⟨_, rfl, ?_⟩
          simp! []
          have kall := kk16.trans (((k20.trans k21).trans k22).weaken (T := [s]) (by simp))
          have hs22 := hs16.keep ((k20.trans k21).trans k22)
          exact hN2 _ _ ⟨_, _, _, _, _, _, rfl, hn10.keep hs22 kall, kall _ _ hrw10 (by simpa using rws), fun d hd => keepWd hn10.st (hws10 d hd) kall⟩
    · rintro e M10 ⟨d6, d7, d8, d9, d10, d11, rfl, hn10, _⟩
      simp! []
      exact hN _ _ ⟨_, _, _, _, _, _, _, _, _, rfl, hn10⟩
  · rintro e M4 ⟨d3, d4, d5, d6, d7, d8, d9, d10, d11, rfl, hn4⟩
    simp! []
    exact h _
end K05

set_option maxHeartbeats 4000000
namespace K05
open PySem PySem.Spec PyProof.Rows L2 PL
theorem law_script {K : PySem.W.Frag} {M : Mem} {a : Addr} {ns : List Int} (hl : ns.length ≤ 63) (h : Scr K M a ns) : sp_law K [.ob a] M (fun d _ => d = .bl true) fun _ _ _ => False := ⟨a, ns, rfl, h, fun _ => rfl⟩
theorem all_ok {P : Program} {w : World} {K : PySem.W.Frag} {mg : Str → Option Value} {base : Heap} {f : Addr} {fd : FuncData} (G : GF K mg)
    (S1 : Src K mg "is_name" s_is_name ["datum"]) (S2 : Src K mg "is_tuple" s_is_tuple ["datum", "many"]) (S3 : Src K mg "is_place" s_is_place ["datum"]) (S4 : Src K mg "is_pair" s_is_pair ["datum"]) (S5 : Src K mg "are_pairs" s_are_pairs ["datum"]) (S6 : Src K mg "is_picture" s_is_picture ["datum"]) (S7 : Src K mg "taken_cell" s_taken_cell ["left", "begin", "end"])
    (S8 : Src K mg "taken_chain" s_taken_chain ["left", "begin", "end"]) (S9 : Src K mg "holds" s_holds ["picture", "stack", "heap"]) (S10 : Src K mg "_law_start" s__law_start ["script"]) (S11 : Src K mg "_law_draw" s__law_draw ["state", "most"]) (S12 : Src K mg "_law_one_of" s__law_one_of ["state", "items"]) (S13 : Src K mg "_law_place" s__law_place ["state", "names"])
    (S14 : Src K mg "_law_pairs" s__law_pairs ["state", "names", "many"]) (S15 : Src K mg "_law_picture" s__law_picture ["state", "names", "most"]) (S16 : Src K mg "_law_walked" s__law_walked ["left", "here", "end"]) (S17 : Src K mg "_law_holds" s__law_holds ["picture", "places", "heap"]) (S18 : Src K mg "_law_stacks" s__law_stacks ["names", "most"])
    (S19 : Src K mg "_law_chained" s__law_chained ["heaps", "begin", "end", "most"]) (S20 : Src K mg "_law_heaps" s__law_heaps ["picture", "places", "most"]) (S21 : Src K mg "_law_models" s__law_models ["picture", "names", "most"]) (S22 : Src K mg "_law_says" s__law_says ["found", "due"]) (S23 : Src K mg "_law_some_heap" s__law_some_heap ["state", "heap"])
    (S24 : Src K mg "_law_faults" s__law_faults ["picture"]) (F : Fun K "law" "law" s_law f fd) : FnOk P w K mg base (L2.CX P w) 6 f fd ["script"] (liftSp K (sp_law K)) :=
  have D := fn_draw S11 G
  have O := fn_one_of S12 G D
  have T := fn_istuple S2 G
  have PA := fn_pairs S14 G (fn_place S13 G D O)
  ok_law F G (fn_start S10 G) D O (fn_pict S15 G D PA) (fn_ispic S6 G T (fn_arepairs S5 G (fn_ispair S4 G T (fn_isplace S3 G (fn_isname S1 G))))) (fn_faults S24 G) (fn_models S21 G (fn_stacks S18 G) (fn_heaps S20 G (fn_chained S19 G))) (fn_some S23 G D O)
    (fn_says S22 G) (fn_holds S9 G (fn_tcell S7 G) (fn_tchain S8 G)) (fn_lholds S17 G (fn_walked S16 G))
theorem all_mk {l : PySem.W.OpenLaw} {w : World} {K : PySem.W.Frag} {h : Heap} {mg : Str → Option Value} {fa f1 f2 f3 f4 f5 f6 f7 f8 f9 f10 f11 f12 f13 f14 f15 f16 f17 f18 f19 f20 f21 f22 f23 f24 f25 : Addr} (X : K.In h) (G : h.Ns mainGlobals mg) (hfa : mg "law" = some (.ref fa))
    {od1 an1 od2 an2 od3 an3 od4 an4 od5 an5 od6 an6 od7 an7 od8 an8 od9 an9 od10 an10 od11 an11 od12 an12 od13 an13 od14 an14 od15 an15 od16 an16 od17 an17 od18 an18 od19 an19 od20 an20 od21 an21 od22 an22 od23 an23 od24 an24 od25 an25 : Option Addr} {sl1 sl2 sl3 sl4 sl5 sl6 sl7 sl8 sl9 sl10 sl11 sl12 sl13 sl14 sl15 sl16 sl17 sl18 sl19 sl20 sl21 sl22 sl23 sl24 sl25 : Array (Option Value)} {oc1 kV1 dc1 pm1 cd1 ct1 oc2 kV2 dc2 pm2 cd2 ct2 oc3 kV3 dc3 pm3 cd3 ct3 oc4 kV4 dc4 pm4 cd4 ct4 oc5 kV5 dc5 pm5 cd5 ct5 oc6 kV6 dc6 pm6 cd6 ct6 oc7 kV7 dc7 pm7 cd7 ct7 oc8 kV8 dc8 pm8 cd8 ct8 oc9 kV9 dc9 pm9 cd9 ct9 oc10 kV10 dc10 pm10 cd10 ct10 oc11 kV11 dc11 pm11 cd11 ct11 oc12 kV12 dc12 pm12 cd12 ct12 oc13 kV13 dc13 pm13 cd13 ct13 oc14 kV14 dc14 pm14 cd14 ct14 oc15 kV15 dc15 pm15 cd15 ct15 oc16 kV16 dc16 pm16 cd16 ct16 oc17 kV17 dc17 pm17 cd17 ct17 oc18 kV18 dc18 pm18 cd18 ct18 oc19 kV19 dc19 pm19 cd19 ct19 oc20 kV20 dc20 pm20 cd20 ct20 oc21 kV21 dc21 pm21 cd21 ct21 oc22 kV22 dc22 pm22 cd22 ct22 oc23 kV23 dc23 pm23 cd23 ct23 oc24 kV24 dc24 pm24 cd24 ct24 oc25 kV25 dc25 pm25 cd25 ct25 : Value}
    (a1 : PySem.W.nsIn K mainGlobals "is_name" = some (some (.ref f1))) (l1 : K.lookup f1 = some ⟨oc1, od1, .func (PySem.W.fnOf "is_name" "is_name" (defArgs s_is_name) (defBody s_is_name) (defScope s_is_name) .none kV1 dc1 pm1 an1 cd1 ct1), sl1⟩) (c1 : PySem.W.codeIn K cd1 "is_name" = true) (k1 : PySem.W.keepIn K (.ref f1) = true)
    (a2 : PySem.W.nsIn K mainGlobals "is_tuple" = some (some (.ref f2))) (l2 : K.lookup f2 = some ⟨oc2, od2, .func (PySem.W.fnOf "is_tuple" "is_tuple" (defArgs s_is_tuple) (defBody s_is_tuple) (defScope s_is_tuple) .none kV2 dc2 pm2 an2 cd2 ct2), sl2⟩) (c2 : PySem.W.codeIn K cd2 "is_tuple" = true) (k2 : PySem.W.keepIn K (.ref f2) = true)
    (a3 : PySem.W.nsIn K mainGlobals "is_place" = some (some (.ref f3))) (l3 : K.lookup f3 = some ⟨oc3, od3, .func (PySem.W.fnOf "is_place" "is_place" (defArgs s_is_place) (defBody s_is_place) (defScope s_is_place) .none kV3 dc3 pm3 an3 cd3 ct3), sl3⟩) (c3 : PySem.W.codeIn K cd3 "is_place" = true) (k3 : PySem.W.keepIn K (.ref f3) = true)
    (a4 : PySem.W.nsIn K mainGlobals "is_pair" = some (some (.ref f4))) (l4 : K.lookup f4 = some ⟨oc4, od4, .func (PySem.W.fnOf "is_pair" "is_pair" (defArgs s_is_pair) (defBody s_is_pair) (defScope s_is_pair) .none kV4 dc4 pm4 an4 cd4 ct4), sl4⟩) (c4 : PySem.W.codeIn K cd4 "is_pair" = true) (k4 : PySem.W.keepIn K (.ref f4) = true)
    (a5 : PySem.W.nsIn K mainGlobals "are_pairs" = some (some (.ref f5))) (l5 : K.lookup f5 = some ⟨oc5, od5, .func (PySem.W.fnOf "are_pairs" "are_pairs" (defArgs s_are_pairs) (defBody s_are_pairs) (defScope s_are_pairs) .none kV5 dc5 pm5 an5 cd5 ct5), sl5⟩) (c5 : PySem.W.codeIn K cd5 "are_pairs" = true) (k5 : PySem.W.keepIn K (.ref f5) = true)
    (a6 : PySem.W.nsIn K mainGlobals "is_picture" = some (some (.ref f6))) (l6 : K.lookup f6 = some ⟨oc6, od6, .func (PySem.W.fnOf "is_picture" "is_picture" (defArgs s_is_picture) (defBody s_is_picture) (defScope s_is_picture) .none kV6 dc6 pm6 an6 cd6 ct6), sl6⟩) (c6 : PySem.W.codeIn K cd6 "is_picture" = true) (k6 : PySem.W.keepIn K (.ref f6) = true)
    (a7 : PySem.W.nsIn K mainGlobals "taken_cell" = some (some (.ref f7))) (l7 : K.lookup f7 = some ⟨oc7, od7, .func (PySem.W.fnOf "taken_cell" "taken_cell" (defArgs s_taken_cell) (defBody s_taken_cell) (defScope s_taken_cell) .none kV7 dc7 pm7 an7 cd7 ct7), sl7⟩) (c7 : PySem.W.codeIn K cd7 "taken_cell" = true) (k7 : PySem.W.keepIn K (.ref f7) = true)
    (a8 : PySem.W.nsIn K mainGlobals "taken_chain" = some (some (.ref f8))) (l8 : K.lookup f8 = some ⟨oc8, od8, .func (PySem.W.fnOf "taken_chain" "taken_chain" (defArgs s_taken_chain) (defBody s_taken_chain) (defScope s_taken_chain) .none kV8 dc8 pm8 an8 cd8 ct8), sl8⟩) (c8 : PySem.W.codeIn K cd8 "taken_chain" = true) (k8 : PySem.W.keepIn K (.ref f8) = true)
    (a9 : PySem.W.nsIn K mainGlobals "holds" = some (some (.ref f9))) (l9 : K.lookup f9 = some ⟨oc9, od9, .func (PySem.W.fnOf "holds" "holds" (defArgs s_holds) (defBody s_holds) (defScope s_holds) .none kV9 dc9 pm9 an9 cd9 ct9), sl9⟩) (c9 : PySem.W.codeIn K cd9 "holds" = true) (k9 : PySem.W.keepIn K (.ref f9) = true)
    (a10 : PySem.W.nsIn K mainGlobals "_law_start" = some (some (.ref f10))) (l10 : K.lookup f10 = some ⟨oc10, od10, .func (PySem.W.fnOf "_law_start" "_law_start" (defArgs s__law_start) (defBody s__law_start) (defScope s__law_start) .none kV10 dc10 pm10 an10 cd10 ct10), sl10⟩) (c10 : PySem.W.codeIn K cd10 "_law_start" = true) (k10 : PySem.W.keepIn K (.ref f10) = true)
    (a11 : PySem.W.nsIn K mainGlobals "_law_draw" = some (some (.ref f11))) (l11 : K.lookup f11 = some ⟨oc11, od11, .func (PySem.W.fnOf "_law_draw" "_law_draw" (defArgs s__law_draw) (defBody s__law_draw) (defScope s__law_draw) .none kV11 dc11 pm11 an11 cd11 ct11), sl11⟩) (c11 : PySem.W.codeIn K cd11 "_law_draw" = true) (k11 : PySem.W.keepIn K (.ref f11) = true)
    (a12 : PySem.W.nsIn K mainGlobals "_law_one_of" = some (some (.ref f12))) (l12 : K.lookup f12 = some ⟨oc12, od12, .func (PySem.W.fnOf "_law_one_of" "_law_one_of" (defArgs s__law_one_of) (defBody s__law_one_of) (defScope s__law_one_of) .none kV12 dc12 pm12 an12 cd12 ct12), sl12⟩) (c12 : PySem.W.codeIn K cd12 "_law_one_of" = true) (k12 : PySem.W.keepIn K (.ref f12) = true)
    (a13 : PySem.W.nsIn K mainGlobals "_law_place" = some (some (.ref f13))) (l13 : K.lookup f13 = some ⟨oc13, od13, .func (PySem.W.fnOf "_law_place" "_law_place" (defArgs s__law_place) (defBody s__law_place) (defScope s__law_place) .none kV13 dc13 pm13 an13 cd13 ct13), sl13⟩) (c13 : PySem.W.codeIn K cd13 "_law_place" = true) (k13 : PySem.W.keepIn K (.ref f13) = true)
    (a14 : PySem.W.nsIn K mainGlobals "_law_pairs" = some (some (.ref f14))) (l14 : K.lookup f14 = some ⟨oc14, od14, .func (PySem.W.fnOf "_law_pairs" "_law_pairs" (defArgs s__law_pairs) (defBody s__law_pairs) (defScope s__law_pairs) .none kV14 dc14 pm14 an14 cd14 ct14), sl14⟩) (c14 : PySem.W.codeIn K cd14 "_law_pairs" = true) (k14 : PySem.W.keepIn K (.ref f14) = true)
    (a15 : PySem.W.nsIn K mainGlobals "_law_picture" = some (some (.ref f15))) (l15 : K.lookup f15 = some ⟨oc15, od15, .func (PySem.W.fnOf "_law_picture" "_law_picture" (defArgs s__law_picture) (defBody s__law_picture) (defScope s__law_picture) .none kV15 dc15 pm15 an15 cd15 ct15), sl15⟩) (c15 : PySem.W.codeIn K cd15 "_law_picture" = true) (k15 : PySem.W.keepIn K (.ref f15) = true)
    (a16 : PySem.W.nsIn K mainGlobals "_law_walked" = some (some (.ref f16))) (l16 : K.lookup f16 = some ⟨oc16, od16, .func (PySem.W.fnOf "_law_walked" "_law_walked" (defArgs s__law_walked) (defBody s__law_walked) (defScope s__law_walked) .none kV16 dc16 pm16 an16 cd16 ct16), sl16⟩) (c16 : PySem.W.codeIn K cd16 "_law_walked" = true) (k16 : PySem.W.keepIn K (.ref f16) = true)
    (a17 : PySem.W.nsIn K mainGlobals "_law_holds" = some (some (.ref f17))) (l17 : K.lookup f17 = some ⟨oc17, od17, .func (PySem.W.fnOf "_law_holds" "_law_holds" (defArgs s__law_holds) (defBody s__law_holds) (defScope s__law_holds) .none kV17 dc17 pm17 an17 cd17 ct17), sl17⟩) (c17 : PySem.W.codeIn K cd17 "_law_holds" = true) (k17 : PySem.W.keepIn K (.ref f17) = true)
    (a18 : PySem.W.nsIn K mainGlobals "_law_stacks" = some (some (.ref f18))) (l18 : K.lookup f18 = some ⟨oc18, od18, .func (PySem.W.fnOf "_law_stacks" "_law_stacks" (defArgs s__law_stacks) (defBody s__law_stacks) (defScope s__law_stacks) .none kV18 dc18 pm18 an18 cd18 ct18), sl18⟩) (c18 : PySem.W.codeIn K cd18 "_law_stacks" = true) (k18 : PySem.W.keepIn K (.ref f18) = true)
    (a19 : PySem.W.nsIn K mainGlobals "_law_chained" = some (some (.ref f19))) (l19 : K.lookup f19 = some ⟨oc19, od19, .func (PySem.W.fnOf "_law_chained" "_law_chained" (defArgs s__law_chained) (defBody s__law_chained) (defScope s__law_chained) .none kV19 dc19 pm19 an19 cd19 ct19), sl19⟩) (c19 : PySem.W.codeIn K cd19 "_law_chained" = true) (k19 : PySem.W.keepIn K (.ref f19) = true)
    (a20 : PySem.W.nsIn K mainGlobals "_law_heaps" = some (some (.ref f20))) (l20 : K.lookup f20 = some ⟨oc20, od20, .func (PySem.W.fnOf "_law_heaps" "_law_heaps" (defArgs s__law_heaps) (defBody s__law_heaps) (defScope s__law_heaps) .none kV20 dc20 pm20 an20 cd20 ct20), sl20⟩) (c20 : PySem.W.codeIn K cd20 "_law_heaps" = true) (k20 : PySem.W.keepIn K (.ref f20) = true)
    (a21 : PySem.W.nsIn K mainGlobals "_law_models" = some (some (.ref f21))) (l21 : K.lookup f21 = some ⟨oc21, od21, .func (PySem.W.fnOf "_law_models" "_law_models" (defArgs s__law_models) (defBody s__law_models) (defScope s__law_models) .none kV21 dc21 pm21 an21 cd21 ct21), sl21⟩) (c21 : PySem.W.codeIn K cd21 "_law_models" = true) (k21 : PySem.W.keepIn K (.ref f21) = true)
    (a22 : PySem.W.nsIn K mainGlobals "_law_says" = some (some (.ref f22))) (l22 : K.lookup f22 = some ⟨oc22, od22, .func (PySem.W.fnOf "_law_says" "_law_says" (defArgs s__law_says) (defBody s__law_says) (defScope s__law_says) .none kV22 dc22 pm22 an22 cd22 ct22), sl22⟩) (c22 : PySem.W.codeIn K cd22 "_law_says" = true) (k22 : PySem.W.keepIn K (.ref f22) = true)
    (a23 : PySem.W.nsIn K mainGlobals "_law_some_heap" = some (some (.ref f23))) (l23 : K.lookup f23 = some ⟨oc23, od23, .func (PySem.W.fnOf "_law_some_heap" "_law_some_heap" (defArgs s__law_some_heap) (defBody s__law_some_heap) (defScope s__law_some_heap) .none kV23 dc23 pm23 an23 cd23 ct23), sl23⟩) (c23 : PySem.W.codeIn K cd23 "_law_some_heap" = true) (k23 : PySem.W.keepIn K (.ref f23) = true)
    (a24 : PySem.W.nsIn K mainGlobals "_law_faults" = some (some (.ref f24))) (l24 : K.lookup f24 = some ⟨oc24, od24, .func (PySem.W.fnOf "_law_faults" "_law_faults" (defArgs s__law_faults) (defBody s__law_faults) (defScope s__law_faults) .none kV24 dc24 pm24 an24 cd24 ct24), sl24⟩) (c24 : PySem.W.codeIn K cd24 "_law_faults" = true) (k24 : PySem.W.keepIn K (.ref f24) = true)
    (a25 : PySem.W.nsIn K mainGlobals "law" = some (some (.ref f25))) (l25 : K.lookup f25 = some ⟨oc25, od25, .func (PySem.W.fnOf "law" "law" (defArgs s_law) (defBody s_law) (defScope s_law) .none kV25 dc25 pm25 an25 cd25 ct25), sl25⟩) (c25 : PySem.W.codeIn K cd25 "law" = true) (k25 : PySem.W.keepIn K (.ref f25) = true)
    (z_dict : PySem.W.nsIn K mainGlobals "dict" = some none)
    (z_any : PySem.W.nsIn K mainGlobals "any" = some none)
    (z_tuple : PySem.W.nsIn K mainGlobals "tuple" = some none)
    (z_range : PySem.W.nsIn K mainGlobals "range" = some none)
    (z_all : PySem.W.nsIn K mainGlobals "all" = some none)
    (z_isinstance : PySem.W.nsIn K mainGlobals "isinstance" = some none)
    (z_list : PySem.W.nsIn K mainGlobals "list" = some none)
    (z_len : PySem.W.nsIn K mainGlobals "len" = some none)
    (z_abs : PySem.W.nsIn K mainGlobals "abs" = some none)
    (z_int : PySem.W.nsIn K mainGlobals "int" = some none)
    (z_str : PySem.W.nsIn K mainGlobals "str" = some none)
    (z_sorted : PySem.W.nsIn K mainGlobals "sorted" = some none)
    {u_LETTERS : Value} (z_LETTERS : PySem.W.nsIn K mainGlobals "LETTERS" = some (some u_LETTERS)) (r_LETTERS : RelV (.str "abcdefghijklmnopqrstuvwxyz") u_LETTERS)
    {u_DIGITS : Value} (z_DIGITS : PySem.W.nsIn K mainGlobals "DIGITS" = some (some u_DIGITS)) (r_DIGITS : RelV (.str "0123456789") u_DIGITS)
    {u_MOST_SIGNS : Value} (z_MOST_SIGNS : PySem.W.nsIn K mainGlobals "MOST_SIGNS" = some (some u_MOST_SIGNS)) (r_MOST_SIGNS : RelV (.int 16) u_MOST_SIGNS)
    {u_RESERVED : Addr} {d_RESERVED : Option Addr} {t_RESERVED : Array Value} {n_RESERVED : Nat} {s_RESERVED : Array (Option Value)} (z_RESERVED : PySem.W.nsIn K mainGlobals "RESERVED" = some (some (.ref u_RESERVED))) (y_RESERVED : K.lookup u_RESERVED = some ⟨.type "tuple", d_RESERVED, .seq t_RESERVED n_RESERVED, s_RESERVED⟩) (r_RESERVED : t_RESERVED.size ≤ sizeLine ∧ Vals ((["proc", "end", "local", "need", "ensure", "set", "next", "new", "free", "if", "else", "while", "call", "nil", "cell", "chain", "none"] : List Str).map V.str) t_RESERVED.toList)
    {u_NIL : Value} (z_NIL : PySem.W.nsIn K mainGlobals "NIL" = some (some u_NIL)) (r_NIL : RelV (.str "nil") u_NIL)
    : ∃ fd : FuncData, (∀ (s : Shared) (v : Value), BindsTo s fd ⟨[v], []⟩ [("script", v)]) ∧ ∀ base : Heap, K.In base → base.Ns mainGlobals mg → FnOk l.prog w K mg base (L2.CX l.prog w) 6 fa fd ["script"] (liftSp K (sp_law K)) := by
  have e := hfa.symm.trans (PySem.W.mg_of X G a25)
  cases e
  have GG : GF K mg := ⟨PySem.W.mg_none_of X G z_dict, PySem.W.mg_none_of X G z_any, PySem.W.mg_none_of X G z_tuple, PySem.W.mg_none_of X G z_range, PySem.W.mg_none_of X G z_all, PySem.W.mg_none_of X G z_isinstance, PySem.W.mg_none_of X G z_list, PySem.W.mg_none_of X G z_len, PySem.W.mg_none_of X G z_abs, PySem.W.mg_none_of X G z_int, PySem.W.mg_none_of X G z_str, PySem.W.mg_none_of X G z_sorted, ⟨_, PySem.W.mg_of X G z_LETTERS, r_LETTERS⟩, ⟨_, PySem.W.mg_of X G z_DIGITS, r_DIGITS⟩, ⟨_, PySem.W.mg_of X G z_MOST_SIGNS, r_MOST_SIGNS⟩, ⟨_, PySem.W.mg_of X G z_RESERVED, fun _ => rep_globT y_RESERVED r_RESERVED.1 r_RESERVED.2⟩, ⟨_, PySem.W.mg_of X G z_NIL, r_NIL⟩⟩
  have F1 := fun_mk (st := s_is_name) l1 c1 k1
  have b1 := F1.binds (ps := ["datum"]) fun _ _ _ _ _ _ us hl => match us, hl with | [_], _ => rfl
  have F2 := fun_mk (st := s_is_tuple) l2 c2 k2
  have b2 := F2.binds (ps := ["datum", "many"]) fun _ _ _ _ _ _ us hl => match us, hl with | [_, _], _ => rfl
  have F3 := fun_mk (st := s_is_place) l3 c3 k3
  have b3 := F3.binds (ps := ["datum"]) fun _ _ _ _ _ _ us hl => match us, hl with | [_], _ => rfl
  have F4 := fun_mk (st := s_is_pair) l4 c4 k4
  have b4 := F4.binds (ps := ["datum"]) fun _ _ _ _ _ _ us hl => match us, hl with | [_], _ => rfl
  have F5 := fun_mk (st := s_are_pairs) l5 c5 k5
  have b5 := F5.binds (ps := ["datum"]) fun _ _ _ _ _ _ us hl => match us, hl with | [_], _ => rfl
  have F6 := fun_mk (st := s_is_picture) l6 c6 k6
  have b6 := F6.binds (ps := ["datum"]) fun _ _ _ _ _ _ us hl => match us, hl with | [_], _ => rfl
  have F7 := fun_mk (st := s_taken_cell) l7 c7 k7
  have b7 := F7.binds (ps := ["left", "begin", "end"]) fun _ _ _ _ _ _ us hl => match us, hl with | [_, _, _], _ => rfl
  have F8 := fun_mk (st := s_taken_chain) l8 c8 k8
  have b8 := F8.binds (ps := ["left", "begin", "end"]) fun _ _ _ _ _ _ us hl => match us, hl with | [_, _, _], _ => rfl
  have F9 := fun_mk (st := s_holds) l9 c9 k9
  have b9 := F9.binds (ps := ["picture", "stack", "heap"]) fun _ _ _ _ _ _ us hl => match us, hl with | [_, _, _], _ => rfl
  have F10 := fun_mk (st := s__law_start) l10 c10 k10
  have b10 := F10.binds (ps := ["script"]) fun _ _ _ _ _ _ us hl => match us, hl with | [_], _ => rfl
  have F11 := fun_mk (st := s__law_draw) l11 c11 k11
  have b11 := F11.binds (ps := ["state", "most"]) fun _ _ _ _ _ _ us hl => match us, hl with | [_, _], _ => rfl
  have F12 := fun_mk (st := s__law_one_of) l12 c12 k12
  have b12 := F12.binds (ps := ["state", "items"]) fun _ _ _ _ _ _ us hl => match us, hl with | [_, _], _ => rfl
  have F13 := fun_mk (st := s__law_place) l13 c13 k13
  have b13 := F13.binds (ps := ["state", "names"]) fun _ _ _ _ _ _ us hl => match us, hl with | [_, _], _ => rfl
  have F14 := fun_mk (st := s__law_pairs) l14 c14 k14
  have b14 := F14.binds (ps := ["state", "names", "many"]) fun _ _ _ _ _ _ us hl => match us, hl with | [_, _, _], _ => rfl
  have F15 := fun_mk (st := s__law_picture) l15 c15 k15
  have b15 := F15.binds (ps := ["state", "names", "most"]) fun _ _ _ _ _ _ us hl => match us, hl with | [_, _, _], _ => rfl
  have F16 := fun_mk (st := s__law_walked) l16 c16 k16
  have b16 := F16.binds (ps := ["left", "here", "end"]) fun _ _ _ _ _ _ us hl => match us, hl with | [_, _, _], _ => rfl
  have F17 := fun_mk (st := s__law_holds) l17 c17 k17
  have b17 := F17.binds (ps := ["picture", "places", "heap"]) fun _ _ _ _ _ _ us hl => match us, hl with | [_, _, _], _ => rfl
  have F18 := fun_mk (st := s__law_stacks) l18 c18 k18
  have b18 := F18.binds (ps := ["names", "most"]) fun _ _ _ _ _ _ us hl => match us, hl with | [_, _], _ => rfl
  have F19 := fun_mk (st := s__law_chained) l19 c19 k19
  have b19 := F19.binds (ps := ["heaps", "begin", "end", "most"]) fun _ _ _ _ _ _ us hl => match us, hl with | [_, _, _, _], _ => rfl
  have F20 := fun_mk (st := s__law_heaps) l20 c20 k20
  have b20 := F20.binds (ps := ["picture", "places", "most"]) fun _ _ _ _ _ _ us hl => match us, hl with | [_, _, _], _ => rfl
  have F21 := fun_mk (st := s__law_models) l21 c21 k21
  have b21 := F21.binds (ps := ["picture", "names", "most"]) fun _ _ _ _ _ _ us hl => match us, hl with | [_, _, _], _ => rfl
  have F22 := fun_mk (st := s__law_says) l22 c22 k22
  have b22 := F22.binds (ps := ["found", "due"]) fun _ _ _ _ _ _ us hl => match us, hl with | [_, _], _ => rfl
  have F23 := fun_mk (st := s__law_some_heap) l23 c23 k23
  have b23 := F23.binds (ps := ["state", "heap"]) fun _ _ _ _ _ _ us hl => match us, hl with | [_, _], _ => rfl
  have F24 := fun_mk (st := s__law_faults) l24 c24 k24
  have b24 := F24.binds (ps := ["picture"]) fun _ _ _ _ _ _ us hl => match us, hl with | [_], _ => rfl
  have F25 := fun_mk (st := s_law) l25 c25 k25
  have b25 := F25.binds (ps := ["script"]) fun _ _ _ _ _ _ us hl => match us, hl with | [_], _ => rfl
  refine ⟨PySem.W.fnOf "law" "law" (defArgs s_law) (defBody s_law) (defScope s_law) .none kV25 dc25 pm25 an25 cd25 ct25, fun s v => .of_eq rfl, fun base _ _ => ?_⟩
  exact all_ok GG ⟨⟨_, _, F1, PySem.W.mg_of X G a1, k1, b1⟩⟩ ⟨⟨_, _, F2, PySem.W.mg_of X G a2, k2, b2⟩⟩ ⟨⟨_, _, F3, PySem.W.mg_of X G a3, k3, b3⟩⟩ ⟨⟨_, _, F4, PySem.W.mg_of X G a4, k4, b4⟩⟩ ⟨⟨_, _, F5, PySem.W.mg_of X G a5, k5, b5⟩⟩ ⟨⟨_, _, F6, PySem.W.mg_of X G a6, k6, b6⟩⟩ ⟨⟨_, _, F7, PySem.W.mg_of X G a7, k7, b7⟩⟩ ⟨⟨_, _, F8, PySem.W.mg_of X G a8, k8, b8⟩⟩ ⟨⟨_, _, F9, PySem.W.mg_of X G a9, k9, b9⟩⟩ ⟨⟨_, _, F10, PySem.W.mg_of X G a10, k10, b10⟩⟩ ⟨⟨_, _, F11, PySem.W.mg_of X G a11, k11, b11⟩⟩ ⟨⟨_, _, F12, PySem.W.mg_of X G a12, k12, b12⟩⟩ ⟨⟨_, _, F13, PySem.W.mg_of X G a13, k13, b13⟩⟩ ⟨⟨_, _, F14, PySem.W.mg_of X G a14, k14, b14⟩⟩ ⟨⟨_, _, F15, PySem.W.mg_of X G a15, k15, b15⟩⟩ ⟨⟨_, _, F16, PySem.W.mg_of X G a16, k16, b16⟩⟩ ⟨⟨_, _, F17, PySem.W.mg_of X G a17, k17, b17⟩⟩ ⟨⟨_, _, F18, PySem.W.mg_of X G a18, k18, b18⟩⟩ ⟨⟨_, _, F19, PySem.W.mg_of X G a19, k19, b19⟩⟩ ⟨⟨_, _, F20, PySem.W.mg_of X G a20, k20, b20⟩⟩ ⟨⟨_, _, F21, PySem.W.mg_of X G a21, k21, b21⟩⟩ ⟨⟨_, _, F22, PySem.W.mg_of X G a22, k22, b22⟩⟩ ⟨⟨_, _, F23, PySem.W.mg_of X G a23, k23, b23⟩⟩ ⟨⟨_, _, F24, PySem.W.mg_of X G a24, k24, b24⟩⟩ F25
end K05
open PySem PySem.W PyProof.Rows
set_option maxHeartbeats 0 in
theorem PySem.Challenge.cw_cellchains_k05_pictures_that_hold_holds : PySem.Challenge.rw_cellchains_k05_pictures_that_hold.Holds := by
  w_on; o_law; k_head; (case hw => w_witness2)
  k_fill
  refine L2.walk_of (l := PySem.Challenge.rw_cellchains_k05_pictures_that_hold) (n := 63) (k := 6) (x := "script") (CX := fun w => L2.CX PySem.Challenge.rw_cellchains_k05_pictures_that_hold.prog w) (sp := fun w => PL.liftSp _ (K05.sp_law _)) rfl (by decide) rfl ⟨rfl, by decide, by decide⟩ (fun w h Y => PySem.W.kIn_of Y) ?F (fun _ H a ns hl ho hS => PL.script_rep ho hS (fun M h => K05.law_script hl h) K05.mono_law) (fun _ _ _ _ _ h => PL.cx_none h)
  case F =>
    intro w mg fa h KX G hmg
    refine' K05.all_mk KX G hmg ?a1 ?l1 ?c1 ?k1 ?a2 ?l2 ?c2 ?k2 ?a3 ?l3 ?c3 ?k3 ?a4 ?l4 ?c4 ?k4 ?a5 ?l5 ?c5 ?k5 ?a6 ?l6 ?c6 ?k6 ?a7 ?l7 ?c7 ?k7 ?a8 ?l8 ?c8 ?k8 ?a9 ?l9 ?c9 ?k9 ?a10 ?l10 ?c10 ?k10 ?a11 ?l11 ?c11 ?k11 ?a12 ?l12 ?c12 ?k12 ?a13 ?l13 ?c13 ?k13 ?a14 ?l14 ?c14 ?k14 ?a15 ?l15 ?c15 ?k15 ?a16 ?l16 ?c16 ?k16 ?a17 ?l17 ?c17 ?k17 ?a18 ?l18 ?c18 ?k18 ?a19 ?l19 ?c19 ?k19 ?a20 ?l20 ?c20 ?k20 ?a21 ?l21 ?c21 ?k21 ?a22 ?l22 ?c22 ?k22 ?a23 ?l23 ?c23 ?k23 ?a24 ?l24 ?c24 ?k24 ?a25 ?l25 ?c25 ?k25 ?z_dict ?z_any ?z_tuple ?z_range ?z_all ?z_isinstance ?z_list ?z_len ?z_abs ?z_int ?z_str ?z_sorted ?z_LETTERS ?r_LETTERS ?z_DIGITS ?r_DIGITS ?z_MOST_SIGNS ?r_MOST_SIGNS ?z_RESERVED ?y_RESERVED ?r_RESERVED ?z_NIL ?r_NIL
    (case a1 => k_is)
    (case l1 => k_is)
    (case c1 => k_is)
    (case k1 => k_is)
    (case a2 => k_is)
    (case l2 => k_is)
    (case c2 => k_is)
    (case k2 => k_is)
    (case a3 => k_is)
    (case l3 => k_is)
    (case c3 => k_is)
    (case k3 => k_is)
    (case a4 => k_is)
    (case l4 => k_is)
    (case c4 => k_is)
    (case k4 => k_is)
    (case a5 => k_is)
    (case l5 => k_is)
    (case c5 => k_is)
    (case k5 => k_is)
    (case a6 => k_is)
    (case l6 => k_is)
    (case c6 => k_is)
    (case k6 => k_is)
    (case a7 => k_is)
    (case l7 => k_is)
    (case c7 => k_is)
    (case k7 => k_is)
    (case a8 => k_is)
    (case l8 => k_is)
    (case c8 => k_is)
    (case k8 => k_is)
    (case a9 => k_is)
    (case l9 => k_is)
    (case c9 => k_is)
    (case k9 => k_is)
    (case a10 => k_is)
    (case l10 => k_is)
    (case c10 => k_is)
    (case k10 => k_is)
    (case a11 => k_is)
    (case l11 => k_is)
    (case c11 => k_is)
    (case k11 => k_is)
    (case a12 => k_is)
    (case l12 => k_is)
    (case c12 => k_is)
    (case k12 => k_is)
    (case a13 => k_is)
    (case l13 => k_is)
    (case c13 => k_is)
    (case k13 => k_is)
    (case a14 => k_is)
    (case l14 => k_is)
    (case c14 => k_is)
    (case k14 => k_is)
    (case a15 => k_is)
    (case l15 => k_is)
    (case c15 => k_is)
    (case k15 => k_is)
    (case a16 => k_is)
    (case l16 => k_is)
    (case c16 => k_is)
    (case k16 => k_is)
    (case a17 => k_is)
    (case l17 => k_is)
    (case c17 => k_is)
    (case k17 => k_is)
    (case a18 => k_is)
    (case l18 => k_is)
    (case c18 => k_is)
    (case k18 => k_is)
    (case a19 => k_is)
    (case l19 => k_is)
    (case c19 => k_is)
    (case k19 => k_is)
    (case a20 => k_is)
    (case l20 => k_is)
    (case c20 => k_is)
    (case k20 => k_is)
    (case a21 => k_is)
    (case l21 => k_is)
    (case c21 => k_is)
    (case k21 => k_is)
    (case a22 => k_is)
    (case l22 => k_is)
    (case c22 => k_is)
    (case k22 => k_is)
    (case a23 => k_is)
    (case l23 => k_is)
    (case c23 => k_is)
    (case k23 => k_is)
    (case a24 => k_is)
    (case l24 => k_is)
    (case c24 => k_is)
    (case k24 => k_is)
    (case a25 => k_is)
    (case l25 => k_is)
    (case c25 => k_is)
    (case k25 => k_is)
    (case z_dict => k_is)
    (case z_any => k_is)
    (case z_tuple => k_is)
    (case z_range => k_is)
    (case z_all => k_is)
    (case z_isinstance => k_is)
    (case z_list => k_is)
    (case z_len => k_is)
    (case z_abs => k_is)
    (case z_int => k_is)
    (case z_str => k_is)
    (case z_sorted => k_is)
    (case z_LETTERS => k_is)
    (case r_LETTERS => exact ⟨_, rfl⟩)
    (case z_DIGITS => k_is)
    (case r_DIGITS => exact ⟨_, rfl⟩)
    (case z_MOST_SIGNS => k_is)
    (case r_MOST_SIGNS => exact ⟨_, rfl⟩)
    (case z_RESERVED => k_is)
    (case y_RESERVED => k_is)
    (case r_RESERVED => exact ⟨by decide +kernel, by repeat (first | exact .nil | refine .cons ⟨_, rfl⟩ ?_)⟩)
    (case z_NIL => k_is)
    (case r_NIL => exact ⟨_, rfl⟩)
