import PyProof.Rows.All
import Wide.All
import OpenK.AllK
import Wide.FinOn
import HandS.ForMost
import HandS.ForExc
import KE.DataEq
import HandS.TupAny
import HandS.TupMul
import HandS.Wide
import HandS.Deep
import HandS.Style
import HandS.IsInst
import HandS.WideBits
import HandS.StrMore
import HandS.Flow
import HandS.CallSlots
import HandS.CallLocal
import HandS.Text
import HandS.WordsExc
import HandS.ExcOwn
import HandS.TryOnly
import HandS.Comp
import HandS.Iter
import HandS.ExcIs
import HandS.Strs
import HandS.Set
import HandS.SortInts
import HandS.SetFor
import HandS.SetKeys
import HandS.Codes
import PySem.Challenge.RW_cellchains_k33_integers_and_data
import KE.RegKIsAll
set_option Elab.async false
set_option linter.all false
set_option maxRecDepth 100000
namespace PL
open PySem PySem.Spec PyProof.Rows L2

/-! data: values, and tuples of data -/
inductive D where
  | v (x : V)
  | tup (ds : List D)

abbrev D.non : D := .v .non
abbrev D.bl (b : Bool) : D := .v (.bl b)
abbrev D.int (i : Int) : D := .v (.int i)
abbrev D.str (x : Str) : D := .v (.str x)
abbrev D.ob (a : Addr) : D := .v (.ref a)

section
variable (K : PySem.W.Frag) (H : Hp)
mutual
def RepD : D → V → Prop
  | .v x, u => u = x
  | .tup ds, u => ∃ a us, u = .ref a ∧ SqT K H a us ∧ RepL ds us
def RepL : List D → List V → Prop
  | [], us => us = []
  | d :: ds, us => ∃ u r, us = u :: r ∧ RepD d u ∧ RepL ds r
end
end

def Ext (K : PySem.W.Frag) (H H' : Hp) : Prop := ∀ a xs, SqT K H a xs → SqT K H' a xs
theorem Ext.refl {K : PySem.W.Frag} {H : Hp} : Ext K H H := fun _ _ h => h
theorem Ext.trans {K : PySem.W.Frag} {H H1 H2 : Hp} (a : Ext K H H1) (b : Ext K H1 H2) : Ext K H H2 := fun c xs h => b c xs (a c xs h)
theorem Ext.new {K : PySem.W.Frag} {H : Hp} {p : Addr} {o : HO} (h : H p = none) : Ext K H (upd H p o) := fun a xs q => by
  rcases q with (q | ⟨ob, q⟩) | q
  · exact .inl (.inl (by rw [upd_ne (ne_of_none q h)]; exact q))
  · exact .inl (.inr ⟨ob, by rw [upd_ne (ne_of_none q h)]; exact q⟩)
  · exact .inr q
theorem Ext.mut {K : PySem.W.Frag} {H : Hp} {p : Addr} {o o' : HO} (h : H p = some o) (m : Mut (some o)) : Ext K H (upd H p o') := fun a xs q => by
  rcases q with (q | ⟨ob, q⟩) | q
  · exact .inl (.inl (by rw [upd_ne (ne_of q h (by rintro rfl; exact m))]; exact q))
  · exact .inl (.inr ⟨ob, by rw [upd_ne (ne_of q h (by rintro rfl; exact m))]; exact q⟩)
  · exact .inr q

mutual
theorem RepD.mono {K : PySem.W.Frag} {H H' : Hp} (e : Ext K H H') : ∀ (d : D) {u : V}, RepD K H d u → RepD K H' d u
  | .v _, _, h => by unfold RepD at h ⊢; exact h
  | .tup ds, _, h => by
    unfold RepD at h ⊢
    obtain ⟨a, us, e1, q, r⟩ := h
    exact ⟨a, us, e1, e _ _ q, RepL.mono e ds r⟩
theorem RepL.mono {K : PySem.W.Frag} {H H' : Hp} (e : Ext K H H') : ∀ (ds : List D) {us : List V}, RepL K H ds us → RepL K H' ds us
  | [], _, h => by unfold RepL at h ⊢; exact h
  | d :: ds, _, h => by
    unfold RepL at h ⊢
    obtain ⟨u, r, e1, q, t⟩ := h
    exact ⟨u, r, e1, RepD.mono e d q, RepL.mono e ds t⟩
end
theorem RepL.length {K : PySem.W.Frag} {H : Hp} : ∀ {ds : List D} {us : List V}, RepL K H ds us → us.length = ds.length
  | [], _, h => by unfold RepL at h; rw [h]; rfl
  | d :: ds, _, h => by
    unfold RepL at h
    obtain ⟨u, r, rfl, _, t⟩ := h
    simp [RepL.length t]
theorem RepL.get {K : PySem.W.Frag} {H : Hp} : ∀ {ds : List D} {us : List V} {i : Nat} {d : D}, RepL K H ds us → ds[i]? = some d → ∃ u, us[i]? = some u ∧ RepD K H d u
  | [], _, _, _, _, e => by simp at e
  | d :: ds, _, 0, _, h, e => by
    unfold RepL at h
    obtain ⟨u, r, rfl, q, _⟩ := h
    simp at e; subst e
    exact ⟨u, by simp, q⟩
  | d :: ds, _, i + 1, _, h, e => by
    unfold RepL at h
    obtain ⟨u, r, rfl, _, t⟩ := h
    obtain ⟨u', h1, h2⟩ := RepL.get (i := i) t (by simpa using e)
    exact ⟨u', by simpa using h1, h2⟩
theorem RepL.get' {K : PySem.W.Frag} {H : Hp} : ∀ {ds : List D} {us : List V} {i : Nat} {u : V}, RepL K H ds us → us[i]? = some u → ∃ d, ds[i]? = some d ∧ RepD K H d u
  | [], _, _, _, h, e => by unfold RepL at h; subst h; simp at e
  | d :: ds, _, 0, _, h, e => by
    unfold RepL at h
    obtain ⟨u, r, rfl, q, _⟩ := h
    simp at e; subst e
    exact ⟨d, by simp, q⟩
  | d :: ds, _, i + 1, _, h, e => by
    unfold RepL at h
    obtain ⟨u, r, rfl, _, t⟩ := h
    obtain ⟨u', h1, h2⟩ := RepL.get' (i := i) t (by simpa using e)
    exact ⟨u', by simpa using h1, h2⟩
theorem RepL.append {K : PySem.W.Frag} {H : Hp} : ∀ {ds es : List D} {us ws : List V}, RepL K H ds us → RepL K H es ws → RepL K H (ds ++ es) (us ++ ws)
  | [], _, _, _, h, g => by unfold RepL at h; subst h; exact g
  | d :: ds, _, _, _, h, g => by
    unfold RepL at h
    obtain ⟨u, r, rfl, q, t⟩ := h
    show RepL K H (d :: (ds ++ _)) _
    unfold RepL
    exact ⟨u, _, rfl, q, RepL.append t g⟩
theorem RepL.set {K : PySem.W.Frag} {H : Hp} {d' : D} {u' : V} (hd : RepD K H d' u') : ∀ {ds : List D} {us : List V} (i : Nat), RepL K H ds us → RepL K H (ds.set i d') (us.set i u')
  | [], _, _, h => by unfold RepL at h; subst h; simp [RepL]
  | d :: ds, _, 0, h => by
    unfold RepL at h
    obtain ⟨u, r, rfl, q, t⟩ := h
    simp only [List.set_cons_zero]; unfold RepL
    exact ⟨u', r, rfl, hd, t⟩
  | d :: ds, _, i + 1, h => by
    unfold RepL at h
    obtain ⟨u, r, rfl, q, t⟩ := h
    simp only [List.set_cons_succ]; unfold RepL
    exact ⟨u, _, rfl, q, RepL.set hd i t⟩
theorem RepL.drop {K : PySem.W.Frag} {H : Hp} : ∀ {ds : List D} {us : List V} (i : Nat), RepL K H ds us → RepL K H (ds.drop i) (us.drop i)
  | _, _, 0, h => by simpa using h
  | [], _, _ + 1, h => by unfold RepL at h; subst h; simp [RepL]
  | d :: ds, _, i + 1, h => by
    unfold RepL at h
    obtain ⟨u, r, rfl, q, t⟩ := h
    simpa using RepL.drop i t
theorem RepL.take {K : PySem.W.Frag} {H : Hp} : ∀ {ds : List D} {us : List V} (i : Nat), RepL K H ds us → RepL K H (ds.take i) (us.take i)
  | _, _, 0, h => by simp [RepL]
  | [], _, _ + 1, h => by unfold RepL at h; subst h; simp [RepL]
  | d :: ds, _, i + 1, h => by
    unfold RepL at h
    obtain ⟨u, r, rfl, q, t⟩ := h
    simp only [List.take_succ_cons]; unfold RepL
    exact ⟨u, _, rfl, q, RepL.take i t⟩
theorem RepL.cons {K : PySem.W.Frag} {H : Hp} {d : D} {u : V} {ds : List D} {us : List V} (h : RepD K H d u) (t : RepL K H ds us) : RepL K H (d :: ds) (u :: us) := by
  unfold RepL; exact ⟨u, us, rfl, h, t⟩
theorem RepL.nil {K : PySem.W.Frag} {H : Hp} : RepL K H [] [] := by unfold RepL; rfl
theorem RepL.ints {K : PySem.W.Frag} {H : Hp} : ∀ {ns : List Int} {us : List V}, RepL K H (ns.map D.int) us → us = ns.map V.int
  | [], _, h => by unfold RepL at h; simpa using h
  | n :: ns, _, h => by
    simp only [List.map_cons] at h; unfold RepL at h
    obtain ⟨u, r, rfl, q, t⟩ := h
    unfold RepD at q
    rw [RepL.ints t, q]; rfl
theorem RepL.of_ints {K : PySem.W.Frag} {H : Hp} : ∀ {ns : List Int}, RepL K H (ns.map D.int) (ns.map V.int)
  | [] => .nil
  | n :: ns => .cons (by unfold RepD; rfl) RepL.of_ints

/-! memory -/
inductive Ob where
  | lst (ds : List D)
  | rol (ds : List D)
  | dk (kvs : List (Key × D))
  | ins (C : Addr) (fs : List (Str × D))
abbrev Mem := Addr → Option Ob
def mupd (M : Mem) (a : Addr) (o : Ob) : Mem := fun b => if b = a then some o else M b
theorem mupd_same {M : Mem} {a : Addr} {o : Ob} : mupd M a o a = some o := if_pos rfl
theorem mupd_ne {M : Mem} {a b : Addr} {o : Ob} (h : b ≠ a) : mupd M a o b = M b := if_neg h
theorem mupd_mupd {M : Mem} {a : Addr} {o u : Ob} : mupd (mupd M a o) a u = mupd M a u := by
  funext b; unfold mupd; split <;> rfl

section
variable (K : PySem.W.Frag) (H : Hp)
def RepKV {κ : Type} : List (κ × D) → List (κ × V) → Prop
  | [], us => us = []
  | (k, d) :: r, us => ∃ u t, us = (k, u) :: t ∧ RepD K H d u ∧ RepKV r t
def RepO (a : Addr) : Ob → Prop
  | .lst ds => ∃ us, H a = some (.lst us) ∧ RepL K H ds us
  | .rol ds => ∃ o us, H a = some (.frz o (.lst us)) ∧ RepL K H ds us
  | .dk kvs => ∃ us, H a = some (.dK us) ∧ RepKV K H kvs us
  | .ins C fs => ∃ dx us, H a = some (.ins C dx us) ∧ RepKV K H fs us
def Sim (M : Mem) : Prop := ∀ a o, M a = some o → RepO K H a o
end
section
variable {K : PySem.W.Frag} {H H' : Hp} {M : Mem} {a : Addr}
theorem RepKV.mono {κ : Type} (e : Ext K H H') : ∀ {kvs : List (κ × D)} {us : List (κ × V)}, RepKV K H kvs us → RepKV K H' kvs us
  | [], _, h => h
  | (k, d) :: r, _, h => by
    obtain ⟨u, t, e1, q, z⟩ := h
    exact ⟨u, t, e1, RepD.mono e d q, RepKV.mono e z⟩
theorem RepO.mono (e : Ext K H H') (h : H' a = H a) : ∀ {o : Ob}, RepO K H a o → RepO K H' a o
  | .lst _, ⟨us, q, r⟩ => ⟨us, by rw [h]; exact q, RepL.mono e _ r⟩
  | .rol _, ⟨o, us, q, r⟩ => ⟨o, us, by rw [h]; exact q, RepL.mono e _ r⟩
  | .dk _, ⟨us, q, r⟩ => ⟨us, by rw [h]; exact q, RepKV.mono e r⟩
  | .ins _ _, ⟨dx, us, q, r⟩ => ⟨dx, us, by rw [h]; exact q, RepKV.mono e r⟩
theorem RepO.there : ∀ {o : Ob}, RepO K H a o → ∃ x, H a = some x
  | .lst _, ⟨us, q, r⟩ => ⟨_, q⟩
  | .rol _, ⟨o, us, q, r⟩ => ⟨_, q⟩
  | .dk _, ⟨us, q, r⟩ => ⟨_, q⟩
  | .ins _ _, ⟨dx, us, q, r⟩ => ⟨_, q⟩
theorem Sim.mono (s : Sim K H M) (e : Ext K H H') (h : ∀ a o, M a = some o → H' a = H a) : Sim K H' M := fun a o q => (s a o q).mono e (h a o q)
theorem Sim.free (s : Sim K H M) {p : Addr} (h : H p = none) : M p = none := by
  cases q : M p with
  | none => rfl
  | some o =>
    obtain ⟨x, e⟩ := (s p o q).there
    rw [h] at e; cases e
/-- a new object, known -/
theorem Sim.new (s : Sim K H M) {p : Addr} {o : HO} {ob : Ob} (h : H p = none) (r : RepO K (upd H p o) p ob) : Sim K (upd H p o) (mupd M p ob) := fun b o' q => by
  by_cases hb : b = p
  · subst hb
    rw [mupd_same] at q; cases q
    exact r
  · rw [mupd_ne hb] at q
    exact (s b o' q).mono (Ext.new h) (upd_ne hb)
/-- a new object, not known -/
theorem Sim.laid (s : Sim K H M) {p : Addr} {o : HO} (h : H p = none) : Sim K (upd H p o) M := fun b o' q => by
  obtain ⟨x, e⟩ := (s b o' q).there
  exact (s b o' q).mono (Ext.new h) (upd_ne (ne_of_none e h))
/-- an object changed -/
theorem Sim.put (s : Sim K H M) {p : Addr} {o o' : HO} {ob : Ob} (h : H p = some o) (m : Mut (some o)) (r : RepO K (upd H p o') p ob) : Sim K (upd H p o') (mupd M p ob) := fun b q' q => by
  by_cases hb : b = p
  · subst hb
    rw [mupd_same] at q; cases q
    exact r
  · rw [mupd_ne hb] at q
    exact (s b q' q).mono (Ext.mut h m) (upd_ne hb)
end

/-! environments -/
abbrev DEnv := List (Option D)
def RepE (K : PySem.W.Frag) (H : Hp) (env : DEnv) (σ : L2.St) : Prop := env.length = σ.length ∧ ∀ (i : Nat) (d : D), env[i]? = some (some d) → ∃ u, σ[i]? = some (some u) ∧ RepD K H d u
theorem RepE.mono {K : PySem.W.Frag} {H H' : Hp} {env : DEnv} {σ : L2.St} (r : RepE K H env σ) (e : Ext K H H') : RepE K H' env σ :=
  ⟨r.1, fun i d h => let ⟨u, h1, h2⟩ := r.2 i d h; ⟨u, h1, RepD.mono e d h2⟩⟩
theorem RepE.set {K : PySem.W.Frag} {H : Hp} {env : DEnv} {σ : L2.St} (r : RepE K H env σ) {d : D} {u : V} (h : RepD K H d u) (i : Nat) : RepE K H (env.set i (some d)) (σ.set i (some u)) := by
  refine ⟨by simp [r.1], fun j e q => ?_⟩
  by_cases hj : i = j
  · subst hj
    by_cases hi : i < env.length
    · rw [List.getElem?_set_self hi] at q
      cases q
      exact ⟨u, by rw [List.getElem?_set_self (by rw [← r.1]; exact hi)], h⟩
    · rw [List.getElem?_eq_none (by simpa using hi)] at q; cases q
  · rw [List.getElem?_set_ne hj] at q ⊢
    exact r.2 j e q

/-! readings -/
abbrev DK := D → Mem → Prop
abbrev DX := Value → List (Str × D) → Mem → Prop
abbrev DE := DEnv → Mem → DK → DX → Prop
abbrev DT := DEnv → Mem → (Bool → Mem → Prop) → DX → Prop
abbrev DA := DEnv → Mem → (List D → Mem → Prop) → DX → Prop
structure DEnds where
  nx : DEnv → Mem → Prop
  rt : DK
  bk : DEnv → Mem → Prop := fun _ _ => False
  ct : DEnv → Mem → Prop := fun _ _ => False
  ex : Value → List (Str × D) → DEnv → Mem → Prop := fun _ _ _ _ => False
abbrev DS := DEnds → DEnv → Mem → Prop

def RepX (K : PySem.W.Frag) (H : Hp) (d : Option Addr) (fs : List (Str × D)) : Prop :=
  match d with
  | none => fs = []
  | some a => fs ≠ [] ∧ ∃ us, H a = some (.xd us) ∧ RepKV K H fs us

section
variable (K : PySem.W.Frag) (W : WX)
/-- the ends as the heap sees them, from H on -/
def upK (H : Hp) (Q : VK) : DK := fun d M' => ∀ u H', Ext K H H' → Sim K H' M' → RepD K H' d u → Q u H'
def upX (H : Hp) (σ : L2.St) : DX := fun c fs M' => ∀ d H', Ext K H H' → Sim K H' M' → RepX K H' d fs → W c d σ H'
def liftE (t : DE) : TE := fun σ H Q => ∃ env M, RepE K H env σ ∧ Sim K H M ∧ t env M (upK K H Q) (upX K W H σ)
def liftT (t : DT) : TT := fun σ H Q => ∃ env M, RepE K H env σ ∧ Sim K H M ∧ t env M (fun b M' => ∀ H', Ext K H H' → Sim K H' M' → Q b H') (upX K W H σ)
def liftA (t : DA) : TA := fun σ H Q => ∃ env M, RepE K H env σ ∧ Sim K H M ∧ t env M (fun ds M' => ∀ us H', Ext K H H' → Sim K H' M' → RepL K H' ds us → Q us H') (upX K W H σ)
def upN (H : Hp) (Q : L2.St → Hp → Prop) : DEnv → Mem → Prop := fun env' M' => ∀ σ' H', Ext K H H' → Sim K H' M' → RepE K H' env' σ' → Q σ' H'
def upEnds (H : Hp) (D : Ends) : DEnds where
  nx := upN K H D.nx
  rt := upK K H D.rt
  bk := upN K H D.bk
  ct := upN K H D.ct
  ex := fun c fs env' M' => ∀ d σ' H', Ext K H H' → Sim K H' M' → RepE K H' env' σ' → RepX K H' d fs → W c d σ' H'
def liftS (t : DS) : TS := fun D σ H => ∃ env M, RepE K H env σ ∧ Sim K H M ∧ t (upEnds K W H D) env M
end

def MonoE (t : DE) : Prop := ∀ env M (Q Q' : DK) (E E' : DX), (∀ d M, Q d M → Q' d M) → (∀ c f M, E c f M → E' c f M) → t env M Q E → t env M Q' E'
def MonoT (t : DT) : Prop := ∀ env M (Q Q' : Bool → Mem → Prop) (E E' : DX), (∀ d M, Q d M → Q' d M) → (∀ c f M, E c f M → E' c f M) → t env M Q E → t env M Q' E'
def MonoA (t : DA) : Prop := ∀ env M (Q Q' : List D → Mem → Prop) (E E' : DX), (∀ d M, Q d M → Q' d M) → (∀ c f M, E c f M → E' c f M) → t env M Q E → t env M Q' E'
structure DEnds.Le (D D' : DEnds) : Prop where
  nx : ∀ e M, D.nx e M → D'.nx e M
  rt : ∀ d M, D.rt d M → D'.rt d M
  bk : ∀ e M, D.bk e M → D'.bk e M
  ct : ∀ e M, D.ct e M → D'.ct e M
  ex : ∀ c f e M, D.ex c f e M → D'.ex c f e M
def MonoS (t : DS) : Prop := ∀ (D D' : DEnds) env M, D.Le D' → t D env M → t D' env M

structure XE (X : Cx) (W : WX) (e : Expr) (t : DE) : Prop where
  mono : MonoE t
  pe : PE X e (liftE X.K W t)
structure XT (X : Cx) (W : WX) (e : Expr) (t : DT) : Prop where
  mono : MonoT t
  pt : PT X e (liftT X.K W t)
structure XW (X : Cx) (W : WX) (e : Expr) (t : DT) : Prop where
  mono : MonoT t
  pw : PW X e (liftT X.K W t)
structure XA (X : Cx) (W : WX) (es : List Expr) (t : DA) : Prop where
  mono : MonoA t
  pa : PA X es (liftA X.K W t)
structure XS (X : Cx) (W : WX) (st : Stmt) (t : DS) : Prop where
  mono : MonoS t
  ps : PS X st (liftS X.K W t)
structure XSs (X : Cx) (W : WX) (st : List Stmt) (t : DS) : Prop where
  mono : MonoS t
  ps : PSs X st (liftS X.K W t)

theorem PEw {X : Cx} {e : Expr} {t t' : TE} (h : PE X e t) (w : ∀ σ H Q, t' σ H Q → t σ H Q) : PE X e t' := ⟨fun pins s σ H Q I q => h.run pins s σ H Q I (w σ H Q q)⟩
theorem PTw {X : Cx} {e : Expr} {t t' : TT} (h : PT X e t) (w : ∀ σ H Q, t' σ H Q → t σ H Q) : PT X e t' := ⟨fun pins s σ H Q I q => h.run pins s σ H Q I (w σ H Q q)⟩
theorem PWw {X : Cx} {e : Expr} {t t' : TT} (h : PW X e t) (w : ∀ σ H Q, t' σ H Q → t σ H Q) : PW X e t' := ⟨fun wh pins s σ H Q I q => h.run wh pins s σ H Q I (w σ H Q q)⟩
theorem PAw {X : Cx} {e : List Expr} {t t' : TA} (h : PA X e t) (w : ∀ σ H Q, t' σ H Q → t σ H Q) : PA X e t' := ⟨fun pos pins s σ H Q I q => h.run pos pins s σ H Q I (w σ H Q q)⟩
theorem PSw {X : Cx} {e : Stmt} {t t' : TS} (h : PS X e t) (w : ∀ D σ H, t' D σ H → t D σ H) : PS X e t' := ⟨fun pins s σ H Q I q => h.run pins s σ H Q I (w Q σ H q)⟩
theorem PSsw {X : Cx} {e : List Stmt} {t t' : TS} (h : PSs X e t) (w : ∀ D σ H, t' D σ H → t D σ H) : PSs X e t' := ⟨fun pins s σ H Q I q => h.run pins s σ H Q I (w Q σ H q)⟩

section
variable {K : PySem.W.Frag} {W : WX}
/-- a step of evaluation: the D-reading leads to the V-reading -/
theorem stepE {t : DE} (m : MonoE t) {σ : L2.St} {H : Hp} {env : DEnv} {M : Mem} {P : VK} {Q : DK} {E : DX} (re : RepE K H env σ) (s : Sim K H M) (h : t env M Q E)
    (hq : ∀ d M1 u H1, Ext K H H1 → Sim K H1 M1 → RepE K H1 env σ → RepD K H1 d u → Q d M1 → P u H1) (he : ∀ c f M1, E c f M1 → upX K W H σ c f M1) : liftE K W t σ H P :=
  ⟨env, M, re, s, m env M _ _ _ _ (fun d M1 q u H1 e1 s1 r1 => hq d M1 u H1 e1 s1 (re.mono e1) r1 q) he h⟩
theorem stepT {t : DT} (m : MonoT t) {σ : L2.St} {H : Hp} {env : DEnv} {M : Mem} {P : Bool → Hp → Prop} {Q : Bool → Mem → Prop} {E : DX} (re : RepE K H env σ) (s : Sim K H M) (h : t env M Q E)
    (hq : ∀ d M1 H1, Ext K H H1 → Sim K H1 M1 → RepE K H1 env σ → Q d M1 → P d H1) (he : ∀ c f M1, E c f M1 → upX K W H σ c f M1) : liftT K W t σ H P :=
  ⟨env, M, re, s, m env M _ _ _ _ (fun d M1 q H1 e1 s1 => hq d M1 H1 e1 s1 (re.mono e1) q) he h⟩
theorem stepA {t : DA} (m : MonoA t) {σ : L2.St} {H : Hp} {env : DEnv} {M : Mem} {P : List V → Hp → Prop} {Q : List D → Mem → Prop} {E : DX} (re : RepE K H env σ) (s : Sim K H M) (h : t env M Q E)
    (hq : ∀ ds M1 us H1, Ext K H H1 → Sim K H1 M1 → RepE K H1 env σ → RepL K H1 ds us → Q ds M1 → P us H1) (he : ∀ c f M1, E c f M1 → upX K W H σ c f M1) : liftA K W t σ H P :=
  ⟨env, M, re, s, m env M _ _ _ _ (fun d M1 q u H1 e1 s1 r1 => hq d M1 u H1 e1 s1 (re.mono e1) r1 q) he h⟩
theorem upX_mono {H H1 : Hp} {σ : L2.St} (e : Ext K H H1) : ∀ c f M1, upX K W H σ c f M1 → upX K W H1 σ c f M1 := fun c f M1 q d H' e' s r => q d H' (e.trans e') s r
theorem upK_mono {H H1 : Hp} {Q : VK} (e : Ext K H H1) : ∀ d M1, upK K H Q d M1 → upK K H1 Q d M1 := fun c M1 q d H' e' s r => q d H' (e.trans e') s r
end
end PL

namespace PL
open PySem PySem.Spec PyProof.Rows L2

/-! results of operations by values -/
inductive Res where
  | val (c : Prop) (d : D)
  | new (c : Prop) (o : Ob)
  | put (c : Prop) (a : Addr) (o : Ob) (d : D)
  | bad
def Res.run : Res → Mem → DK → Prop
  | .val c d, M, Q => c ∧ Q d M
  | .new c o, M, Q => c ∧ ∀ p, M p = none → Q (.ob p) (mupd M p o)
  | .put c a o d, M, Q => c ∧ Q d (mupd M a o)
  | .bad, _, _ => False
theorem Res.mono {r : Res} {M : Mem} {Q Q' : DK} (h : ∀ d M, Q d M → Q' d M) (q : r.run M Q) : r.run M Q' := by
  cases r with
  | val c d => exact ⟨q.1, h _ _ q.2⟩
  | new c o => exact ⟨q.1, fun p hp => h _ _ (q.2 p hp)⟩
  | put c a o d => exact ⟨q.1, h _ _ q.2⟩
  | bad => exact q

section
variable {K : PySem.W.Frag} {H : Hp} {M : Mem} {Q : VK}
theorem fin_val {x : V} (h : upK K H Q (.v x) M) (s : Sim K H M) : Q x H := h x H Ext.refl s (by unfold RepD; rfl)
theorem fin_rep {d : D} {x : V} (h : upK K H Q d M) (s : Sim K H M) (r : RepD K H d x) : Q x H := h x H Ext.refl s r
theorem fin_new {ob : Ob} {o : HO} {p : Addr} (h : ∀ p, M p = none → upK K H Q (.ob p) (mupd M p ob)) (s : Sim K H M) (hp : H p = none) (r : RepO K (upd H p o) p ob) : Q (.ref p) (upd H p o) :=
  h p (s.free hp) _ _ (Ext.new hp) (s.new hp r) (by unfold RepD; rfl)
theorem fin_tup {ds : List D} {us : List V} {p : Addr} (h : upK K H Q (.tup ds) M) (s : Sim K H M) (hp : H p = none) (r : RepL K H ds us) : Q (.ref p) (upd H p (.tup us)) :=
  h _ _ (Ext.new hp) (s.laid hp) (by unfold RepD; exact ⟨p, us, rfl, SqT.of upd_same, RepL.mono (Ext.new hp) _ r⟩)
theorem repO_lst {p : Addr} {ds : List D} {us : List V} (e : Ext K H (upd H p (.lst us))) (r : RepL K H ds us) : RepO K (upd H p (.lst us)) p (.lst ds) := ⟨us, upd_same, RepL.mono e _ r⟩
theorem fin_lst {ds : List D} {us : List V} {p : Addr} (h : ∀ p, M p = none → upK K H Q (.ob p) (mupd M p (.lst ds))) (s : Sim K H M) (hp : H p = none) (r : RepL K H ds us) : Q (.ref p) (upd H p (.lst us)) :=
  fin_new h s hp (repO_lst (Ext.new hp) r)
theorem fin_put {ob : Ob} {o o' : HO} {a : Addr} {d : D} {x : V} (h : upK K H Q d (mupd M a ob)) (s : Sim K H M) (ha : H a = some o) (m : Mut (some o)) (r : RepO K (upd H a o') a ob) (rd : RepD K H d x) : Q x (upd H a o') :=
  h x _ (Ext.mut ha m) (s.put ha m r) (RepD.mono (Ext.mut ha m) _ rd)
theorem rep_v {x u : V} (h : RepD K H (.v x) u) : u = x := by unfold RepD at h; exact h
theorem rep_of {x : V} : RepD K H (.v x) x := by unfold RepD; rfl
theorem rep_tup {ds : List D} {u : V} (h : RepD K H (.tup ds) u) : ∃ a us, u = .ref a ∧ SqT K H a us ∧ RepL K H ds us := by unfold RepD at h; exact h
theorem Sim.lst (s : Sim K H M) {a : Addr} {ds : List D} (h : M a = some (.lst ds)) : ∃ us, H a = some (.lst us) ∧ RepL K H ds us := s a _ h
theorem Sim.seq (s : Sim K H M) {a : Addr} {ds : List D} (h : M a = some (.lst ds) ∨ M a = some (.rol ds)) : ∃ us, SqL K H a us ∧ RepL K H ds us := by
  rcases h with h | h
  · obtain ⟨us, e, r⟩ := s a _ h
    exact ⟨us, SqL.of e, r⟩
  · obtain ⟨o, us, e, r⟩ := s a _ h
    exact ⟨us, .inl (.inr ⟨o, e⟩), r⟩
end

/-! plain data -/
mutual
def D.pure : D → Bool
  | .v .non | .v (.bl _) | .v (.int _) | .v (.str _) => true
  | .v _ => false
  | .tup ds => pureL ds
def pureL : List D → Bool
  | [] => true
  | d :: ds => d.pure && pureL ds
end
mutual
def D.py : D → PyData
  | .v .non => .none
  | .v (.bl b) => .bool b
  | .v (.int i) => .int i
  | .v (.str x) => .str x
  | .v _ => .none
  | .tup ds => .tuple (pyL ds)
def pyL : List D → List PyData
  | [] => []
  | d :: ds => d.py :: pyL ds
end
mutual
def D.dp : D → Nat
  | .v _ => 0
  | .tup ds => dpL ds + 1
def dpL : List D → Nat
  | [] => 0
  | d :: ds => max d.dp (dpL ds)
end
/-- == of plain data -/
def D.eqv (d e : D) : Bool := PyData.eqv d.py e.py
def eqvL (ds es : List D) : Bool := PyData.eqvAll (pyL ds) (pyL es)
theorem pyL_map : ∀ ds : List D, pyL ds = ds.map D.py
  | [] => by simp [pyL]
  | d :: ds => by simp [pyL, pyL_map ds]
mutual
theorem plain_py : ∀ d : D, d.py.plain = true
  | .v x => by cases x <;> simp [D.py, PyData.plain]
  | .tup ds => by simp [D.py, PyData.plain, plain_pyL ds]
theorem plain_pyL : ∀ ds : List D, PyData.plainAll (pyL ds) = true
  | [] => by simp [pyL, PyData.plainAll]
  | d :: ds => by simp [pyL, PyData.plainAll, plain_py d, plain_pyL ds]
end
mutual
theorem depth_py : ∀ d : D, d.py.depth = d.dp
  | .v x => by cases x <;> simp [D.py, D.dp, PyData.depth]
  | .tup ds => by simp [D.py, D.dp, PyData.depth, depth_pyL ds]
theorem depth_pyL : ∀ ds : List D, PyData.depthAll (pyL ds) = dpL ds
  | [] => by simp [pyL, dpL, PyData.depthAll]
  | d :: ds => by simp [pyL, dpL, PyData.depthAll, depth_py d, depth_pyL ds]
end
mutual
theorem RepD.dp {K : PySem.W.Frag} {H : Hp} : ∀ (d : D) {u : V}, d.pure = true → RepD K H d u → Dp K H u d.py
  | .v x, u, hp, h => by
    have e := rep_v h; subst e
    cases u <;> first | exact .non | exact .bl _ | exact .int _ | exact .str _ | (simp [D.pure] at hp)
  | .tup ds, u, hp, h => by
    obtain ⟨a, us, rfl, q, r⟩ := rep_tup h
    unfold D.py
    exact .tup q (RepL.dp ds (by simpa [D.pure] using hp) r)
theorem RepL.dp {K : PySem.W.Frag} {H : Hp} : ∀ (ds : List D) {us : List V}, pureL ds = true → RepL K H ds us → DpAll K H us (pyL ds)
  | [], us, hp, h => by unfold RepL at h; subst h; unfold pyL; exact .nil
  | d :: ds, us, hp, h => by
    unfold RepL at h
    obtain ⟨u, r, rfl, q, t⟩ := h
    simp only [pureL, Bool.and_eq_true] at hp
    unfold pyL
    exact .cons (RepD.dp d hp.1 q) (RepL.dp ds hp.2 t)
end

/-- plain data, or a list of such -/
def pyM (M : Mem) : D → Option PyData
  | .v (.ref a) => match M a with
    | some (.lst ds) => if pureL ds = true then some (.list (pyL ds)) else none
    | some (.rol ds) => if pureL ds = true then some (.list (pyL ds)) else none
    | _ => none
  | .v x => if (D.v x).pure = true then some (D.v x).py else none
  | .tup ds => if pureL ds = true then some (.tuple (pyL ds)) else none
theorem pyM_pure {M : Mem} : ∀ {d : D}, d.pure = true → pyM M d = some d.py
  | .v x, h => by cases x <;> simp_all [pyM, D.pure]
  | .tup ds, h => by simp_all [pyM, D.pure, D.py]
theorem pyM_dp {K : PySem.W.Frag} {H : Hp} {M : Mem} (s : Sim K H M) {d : D} {u : V} {p : PyData} (h : pyM M d = some p) (r : RepD K H d u) : Dp K H u p ∧ p.plain = true := by
  cases d with
  | tup ds =>
    simp only [pyM] at h
    split at h
    · cases h
      rename_i hp
      refine ⟨?_, by simp [PyData.plain, plain_pyL ds]⟩
      have := RepD.dp (.tup ds) (by simpa [D.pure] using hp) r
      simpa [D.py] using this
    · cases h
  | v x =>
    cases x with
    | ref a =>
      simp only [pyM] at h
      have e := rep_v r; subst e
      split at h
      · split at h
        · cases h
          rename_i ds hm hp
          obtain ⟨us, e, r⟩ := s a _ hm
          exact ⟨.lst (SqL.of e) (RepL.dp ds hp r), by simp [PyData.plain, plain_pyL ds]⟩
        · cases h
      · split at h
        · cases h
          rename_i ds hm hp
          obtain ⟨o, us, e, r⟩ := s a _ hm
          exact ⟨.lst (.inl (.inr ⟨o, e⟩)) (RepL.dp ds hp r), by simp [PyData.plain, plain_pyL ds]⟩
        · cases h
      · cases h
    | _ => (first
        | (simp [pyM, D.pure, D.py] at h; subst h; have e := rep_v r; subst e; exact ⟨by constructor, by simp [PyData.plain]⟩)
        | (simp [pyM, D.pure] at h))

/-! two-place operations -/
abbrev DOp2 := D → D → Mem → Res
def upR2 (K : PySem.W.Frag) (r : DOp2) : R2 := fun x y H Q => ∃ dx dy M, RepD K H dx x ∧ RepD K H dy y ∧ Sim K H M ∧ (r dx dy M).run M (upK K H Q)
def XOp (X : Cx) (f : Value → Value → Sem Value) (r : DOp2) : Prop := OpR X f (upR2 X.K r)

def dBin (r : DOp2) (ta tb : DE) : DE := fun env M Q E => ta env M (fun x M1 => tb env M1 (fun y M2 => (r x y M2).run M2 Q) E) E
theorem dBin_mono {r : DOp2} {ta tb : DE} (ha : MonoE ta) (hb : MonoE tb) : MonoE (dBin r ta tb) := fun env M Q Q' E E' hQ hE h =>
  ha env M _ _ _ _ (fun x M1 h1 => hb env M1 _ _ _ _ (fun y M2 h2 => Res.mono hQ h2) hE h1) hE h
section
variable {X : Cx} {W : WX} {a b : Expr} {ta tb : DE} {pos : Pos} {r : DOp2}
theorem bin_up {r2 : R2} (ha : XE X W a ta) (hb : XE X W b tb) (hr : ∀ x y H Q, upR2 X.K r x y H Q → r2 x y H Q) : ∀ σ H Q, liftE X.K W (dBin r ta tb) σ H Q → tOp r2 (liftE X.K W ta) (liftE X.K W tb) σ H Q := by
  rintro σ H Q ⟨env, M, re, s, h⟩
  refine stepE ha.mono re s h (fun d M1 u H1 e1 s1 re1 r1 h1 => ?_) fun _ _ _ z => z
  refine stepE hb.mono re1 s1 h1 (fun d2 M2 u2 H2 e2 s2 re2 r2 h2 => ?_) (upX_mono e1)
  exact hr _ _ _ _ ⟨d, d2, M2, RepD.mono e2 _ r1, r2, s2, Res.mono (upK_mono (e1.trans e2)) h2⟩
theorem xe_bin {op : Operator} (ho : XOp X (binaryOp op) r) (ha : XE X W a ta) (hb : XE X W b tb) : XE X W (.BinOp a op b pos) (dBin r ta tb) :=
  ⟨dBin_mono ha.mono hb.mono, PEw (pe_op ho ha.pe hb.pe) (bin_up ha hb fun _ _ _ _ h => h)⟩
theorem xe_cmp {op : CmpOp} (ho : XOp X (compareOp op) r) (ha : XE X W a ta) (hb : XE X W b tb) (hm : behindInMarks op b = false) : XE X W (.Compare a [op] [b] pos) (dBin r ta tb) :=
  ⟨dBin_mono ha.mono hb.mono, PEw (pe_cmpR ho ha.pe hb.pe hm) (bin_up ha hb fun _ _ _ _ h => h)⟩
end


/-! arithmetic -/
def opAdd : DOp2
  | .v (.int i), .v (.int j), _ => .val True (.int (i + j))
  | .v (.str a), .v (.str b), _ => .val (a.length + b.length ≤ sizeLine) (.str (a ++ b))
  | .tup a, .tup b, _ => .val (a.length + b.length ≤ sizeLine) (.tup (a ++ b))
  | .v (.ref a), .v (.ref b), M => match M a, M b with
    | some (.lst xs), some (.lst ys) => .new (xs.length + ys.length ≤ sizeLine) (.lst (xs ++ ys))
    | _, _ => .bad
  | _, _, _ => .bad
def opSub : DOp2
  | .v (.int i), .v (.int j), _ => .val True (.int (i - j))
  | _, _, _ => .bad
def opMul : DOp2
  | .v (.int i), .v (.int j), _ => .val (IntMulOk i j) (.int (i * j))
  | .tup xs, .v (.int k), _ => .val (xs ≠ [] ∧ 2 ≤ k ∧ k ≤ 1000 ∧ xs.length ≤ 1000) (.tup (List.replicate k.toNat xs).flatten)
  | .v (.str x), .v (.int k), _ => .val (1 ≤ x.length ∧ 2 ≤ k ∧ k ≤ 1000 ∧ x.length ≤ 1000) (.str ⟨(List.replicate k.toNat x.cps.toList).flatten.toArray⟩)
  | _, _, _ => .bad
def opFdiv : DOp2
  | .v (.int i), .v (.int j), _ => .val (0 < j ∧ j < 1073741824) (.int (i / j))
  | _, _, _ => .bad
def opMod : DOp2
  | .v (.int i), .v (.int j), _ => .val (0 < j) (.int (i % j))
  | _, _, _ => .bad
def opPow : DOp2
  | .v (.int i), .v (.int j), _ => .val (0 ≤ j ∧ j ≤ 1000000 ∧ i.natAbs < 2 ^ 64) (.int (i ^ j.toNat))
  | _, _, _ => .bad
theorem fold_rep (a : Array Nat) : ∀ (n : Nat) (acc : Array Nat), (List.replicate n a).foldl (· ++ ·) acc = acc ++ (List.replicate n a.toList).flatten.toArray
  | 0, acc => by simp
  | n + 1, acc => by
    rw [List.replicate_succ, List.foldl_cons, fold_rep a n, List.replicate_succ, List.flatten_cons]
    apply Array.toList_inj.mp
    simp
section
variable {X : Cx}
theorem x_sub : XOp X (binaryOp .Sub) opSub := by
  rintro pins s σ H x y v u Q I rx ry ⟨dx, dy, M, r1, r2, sm, h⟩
  unfold opSub at h
  split at h <;> first | exact h.elim | skip
  rw [rep_v r1] at rx; rw [rep_v r2] at ry
  exact op_sub pins s σ H _ _ v u Q I rx ry ⟨_, _, rfl, rfl, fin_val h.2 sm⟩
theorem x_fdiv : XOp X (binaryOp .FloorDiv) opFdiv := by
  rintro pins s σ H x y v u Q I rx ry ⟨dx, dy, M, r1, r2, sm, h⟩
  unfold opFdiv at h
  split at h <;> first | exact h.elim | skip
  rw [rep_v r1] at rx; rw [rep_v r2] at ry
  exact op_fdiv pins s σ H _ _ v u Q I rx ry ⟨_, _, rfl, rfl, h.1, fin_val h.2 sm⟩
theorem x_mod : XOp X (binaryOp .Mod) opMod := by
  rintro pins s σ H x y v u Q I rx ry ⟨dx, dy, M, r1, r2, sm, h⟩
  unfold opMod at h
  split at h <;> first | exact h.elim | skip
  rw [rep_v r1] at rx; rw [rep_v r2] at ry
  exact op_mod pins s σ H _ _ v u Q I rx ry ⟨_, _, rfl, rfl, h.1, fin_val h.2 sm⟩
theorem x_pow : XOp X (binaryOp .Pow) opPow := by
  rintro pins s σ H x y v u Q I rx ry ⟨dx, dy, M, r1, r2, sm, h⟩
  unfold opPow at h
  split at h <;> first | exact h.elim | skip
  rw [rep_v r1] at rx; rw [rep_v r2] at ry
  exact op_pow pins s σ H _ _ v u Q I rx ry ⟨_, _, rfl, rfl, h.1, fin_val h.2 sm⟩
theorem x_add : XOp X (binaryOp .Add) opAdd := by
  rintro pins s σ H x y v u Q I rx ry ⟨dx, dy, M, r1, r2, sm, h⟩
  unfold opAdd at h
  split at h <;> first | exact h.elim | skip
  · rw [rep_v r1] at rx; rw [rep_v r2] at ry
    exact op_add pins s σ H _ _ v u Q I rx ry ⟨_, _, rfl, rfl, fin_val h.2 sm⟩
  · rw [rep_v r1] at rx; rw [rep_v r2] at ry
    exact op_add_str pins s σ H _ _ v u Q I rx ry ⟨_, _, rfl, rfl, h.1, fin_val h.2 sm⟩
  · obtain ⟨a, us, rfl, q1, l1⟩ := rep_tup r1
    obtain ⟨b, ws, rfl, q2, l2⟩ := rep_tup r2
    refine op_catA pins s σ H _ _ v u Q I rx ry ⟨_, _, _, _, rfl, rfl, q1, q2, by rw [l1.length, l2.length]; exact h.1, fun e => ?_, fun _ e => ?_, fun _ _ p hp => ?_⟩
    · refine fin_rep h.2 sm ?_
      subst e
      have := l1.length
      rw [List.eq_nil_of_length_eq_zero this.symm, List.nil_append]
      exact r2
    · refine fin_rep h.2 sm ?_
      subst e
      have := l2.length
      rw [List.eq_nil_of_length_eq_zero this.symm, List.append_nil]
      exact r1
    · exact fin_tup h.2 sm hp (RepL.append l1 l2)
  · split at h <;> first | exact h.elim | skip
    rename_i hm1 hm2
    rw [rep_v r1] at rx; rw [rep_v r2] at ry
    obtain ⟨us, e1, l1⟩ := sm.lst hm1
    obtain ⟨ws, e2, l2⟩ := sm.lst hm2
    exact op_cat pins s σ H _ _ v u Q I rx ry ⟨_, _, _, _, rfl, rfl, e1, e2, by rw [l1.length, l2.length]; exact h.1, fun p hp => fin_lst h.2 sm hp (RepL.append l1 l2)⟩
theorem RepL.rep {K : PySem.W.Frag} {H : Hp} {ds : List D} {us : List V} (h : RepL K H ds us) : ∀ k : Nat, RepL K H (List.replicate k ds).flatten (List.replicate k us).flatten
  | 0 => by simp only [List.replicate_zero, List.flatten_nil]; exact .nil
  | k + 1 => by
    simp only [List.replicate_succ, List.flatten_cons]
    exact RepL.append h (RepL.rep h k)
theorem x_mul : XOp X (binaryOp .Mult) opMul := by
  rintro pins s σ H x y v u Q I rx ry ⟨dx, dy, M, r1, r2, sm, h⟩
  unfold opMul at h
  split at h <;> first | exact h.elim | skip
  · rw [rep_v r1] at rx; rw [rep_v r2] at ry
    obtain ⟨t, rfl⟩ := rx
    obtain ⟨t', rfl⟩ := ry
    exact mul_int ⟨.int _, H, I.tok _, ⟨_, rfl⟩, fin_val h.2 sm⟩ h.1
  · obtain ⟨a, us, rfl, q1, l1⟩ := rep_tup r1
    rw [rep_v r2] at ry
    obtain ⟨h1, h2, h3, h4⟩ := h.1
    refine op_repT pins s σ H _ _ v u Q I rx ry ⟨_, _, _, rfl, rfl, q1, fun e => h1 ?_, h2, h3, by rw [l1.length]; exact h4, fun p hp => fin_tup h.2 sm hp (RepL.rep l1 _)⟩
    have := l1.length
    rw [e] at this
    exact List.eq_nil_of_length_eq_zero this.symm
  · rename_i z k
    rw [rep_v r1] at rx; rw [rep_v r2] at ry
    obtain ⟨t, rfl⟩ := rx
    obtain ⟨t', rfl⟩ := ry
    obtain ⟨h1, h2, h3, h4⟩ := h.1
    have nk : ¬ k < 1 := by omega
    have k1 : (k == 1) = false := by simp; omega
    have z1 : (z.length == 0) = false := by simp; omega
    have hk : (z.length : Int) * k ≤ 1000000 := by
      have a1 : (z.length : Int) * k ≤ 1000 * k := Int.mul_le_mul_of_nonneg_right (by omega) (by omega)
      omega
    have hn : z.length * k.toNat ≤ 1000000 := by
      have : ((z.length * k.toNat : Nat) : Int) = (z.length : Int) * k := by
        rw [Int.natCast_mul, Int.toNat_of_nonneg (by omega)]
      omega
    refine PySem.P.mul_str ?_ (fun _ _ => ?_) (fun _ _ => ?_) ?_
    · rw [decide_eq_false (by omega), decide_eq_false (by omega)]; rfl
    · have : ((2 : Int) ^ 63 - 1) / k ≥ (2 ^ 63 - 1) / 1000 := by
        have h5 : (2 ^ 63 - 1 : Int) / 1000 * k ≤ (2 ^ 63 - 1) := by
          have : (2 ^ 63 - 1 : Int) / 1000 * k ≤ (2 ^ 63 - 1 : Int) / 1000 * 1000 := Int.mul_le_mul_of_nonneg_left h3 (by decide)
          omega
        exact (Int.le_ediv_iff_mul_le (by omega)).mpr h5
      omega
    · simp only [Builtin.Str.tooLong, decide_eq_false_iff_not]
      rw [sizeLine_eq]
      omega
    · rw [if_neg nk, k1, z1]
      rw [fold_rep, Array.empty_append]
      refine ⟨?_, .str _, H, I.tok _, ⟨_, rfl⟩, fin_val h.2 sm⟩
      show (List.toArray _).size ≤ _
      rw [List.size_toArray, List.length_flatten, List.map_replicate, List.sum_replicate_nat, Nat.mul_comm, sizeLine_eq]
      show z.cps.size * k.toNat ≤ _
      have e : z.length = z.cps.size := rfl
      rw [e] at hn
      omega
end
end PL

namespace PL
open PySem PySem.Spec PyProof.Rows L2

/-! comparisons -/
def mostDeep : Nat := 150
def opEq : DOp2 := fun x y M => match pyM M x, pyM M y with
  | some p, some q => .val (min p.depth q.depth ≤ mostDeep) (.bl (PyData.eqv p q))
  | _, _ => .bad
def opNe : DOp2 := fun x y M => match pyM M x, pyM M y with
  | some p, some q => .val (min p.depth q.depth ≤ mostDeep) (.bl (!PyData.eqv p q))
  | _, _ => .bad
def opLt : DOp2
  | .v (.int i), .v (.int j), _ => .val True (.bl (decide (i < j)))
  | .v (.str a), .v (.str b), _ => .val True (.bl (decide (a.cps.toList < b.cps.toList)))
  | _, _, _ => .bad
def opLe : DOp2
  | .v (.int i), .v (.int j), _ => .val True (.bl (decide (i ≤ j)))
  | .v (.str a), .v (.str b), _ => .val True (.bl (!decide (b.cps.toList < a.cps.toList)))
  | _, _, _ => .bad
def opGt : DOp2
  | .v (.int i), .v (.int j), _ => .val True (.bl (decide (j < i)))
  | .v (.str a), .v (.str b), _ => .val True (.bl (decide (b.cps.toList < a.cps.toList)))
  | _, _, _ => .bad
def opGe : DOp2
  | .v (.int i), .v (.int j), _ => .val True (.bl (decide (j ≤ i)))
  | .v (.str a), .v (.str b), _ => .val True (.bl (!decide (a.cps.toList < b.cps.toList)))
  | _, _, _ => .bad
def D.isNon : D → Bool
  | .v .non => true
  | _ => false
def opIs : DOp2
  | d, .v .non, _ => .val True (.bl d.isNon)
  | .v (.bl a), .v (.bl b), _ => .val True (.bl (decide (a = b)))
  | _, _, _ => .bad
def opIsNot : DOp2
  | d, .v .non, _ => .val True (.bl (!d.isNon))
  | .v (.bl a), .v (.bl b), _ => .val True (.bl (!decide (a = b)))
  | _, _, _ => .bad
def D.key : D → Option Key
  | .v (.int i) => some (.inl i)
  | .v (.str x) => some (.inr x)
  | _ => none
def look {κ β : Type} [DecidableEq κ] : List (κ × β) → κ → Option β
  | [], _ => none
  | (a, d) :: r, k => if a = k then some d else look r k
/-- x in y, as a bool where it is defined -/
def isIn (x y : D) (M : Mem) : Option (Nat × Bool) := match y with
  | .v (.str b) => match x with
    | .v (.str a) => if a.cps.size = 1 then some (0, decide (a.cps.getD 0 0 ∈ b.cps.toList)) else none
    | _ => none
  | .tup ds => if pureL ds && x.pure then some (min (dpL ds) x.dp, ds.any fun d => D.eqv d x) else none
  | .v (.ref a) => match M a with
    | some (.lst ds) => if pureL ds && x.pure then some (min (dpL ds) x.dp, ds.any fun d => D.eqv d x) else none
    | some (.rol ds) => if pureL ds && x.pure then some (min (dpL ds) x.dp, ds.any fun d => D.eqv d x) else none
    | some (.dk kvs) => match x.key with
      | some k => some (0, (look kvs k).isSome)
      | none => none
    | _ => none
  | _ => none
def opIn : DOp2 := fun x y M => match isIn x y M with
  | some (n, b) => .val (n ≤ mostDeep) (.bl b)
  | none => .bad
def opNotIn : DOp2 := fun x y M => match isIn x y M with
  | some (n, b) => .val (n ≤ mostDeep) (.bl (!b))
  | none => .bad

theorem key_rep {K : PySem.W.Frag} {H : Hp} {d : D} {u : V} {k : Key} (h : d.key = some k) (r : RepD K H d u) : u = kV k := by
  unfold D.key at h
  split at h <;> cases h <;> exact rep_v r
theorem RepKV.look {κ : Type} [DecidableEq κ] {K : PySem.W.Frag} {H : Hp} (k : κ) : ∀ {kvs : List (κ × D)} {us : List (κ × V)}, RepKV K H kvs us →
    match PL.look kvs k, valV us k with | some d, some u => RepD K H d u | none, none => True | _, _ => False
  | [], _, h => by unfold RepKV at h; subst h; simp [PL.look, valV]
  | (k', d) :: r, _, h => by
    obtain ⟨u, t, rfl, q, z⟩ := h
    have ih := RepKV.look k z
    by_cases e : k' = k
    · simpa [PL.look, valV, e] using q
    · simpa [PL.look, valV, e] using ih
theorem RepKV.isSome {κ : Type} [DecidableEq κ] {K : PySem.W.Frag} {H : Hp} (k : κ) {kvs : List (κ × D)} {us : List (κ × V)} (h : RepKV K H kvs us) : (valV us k).isSome = (PL.look kvs k).isSome := by
  have q := h.look k
  cases e : PL.look kvs k <;> cases f : valV us k <;> simp_all
theorem any_eqv (x : D) : ∀ ds : List D, ((pyL ds).any fun y => PyData.eqv y x.py) = ds.any fun d => D.eqv d x
  | [] => by simp [pyL]
  | d :: ds => by simp [pyL, any_eqv x ds, D.eqv]

section
variable {X : Cx}
theorem rd_of {pins : List (Addr × Obj)} {σ : L2.St} {H : Hp} {s : Shared} {d : PyData} {x : V} {v : Value} (I : Inv X pins σ H s) (h : Dp X.K H x d) (r : RelV x v) : ∃ as, Reads s.heap v d as := Dp.reads I d x v h r
theorem x_eq (hu : X.A.units + 200 < cLine) : XOp X (compareOp .Eq) opEq := by
  rintro pins s σ H x y v u Q I rx ry ⟨dx, dy, M, r1, r2, sm, h⟩
  unfold opEq at h
  split at h <;> first | exact h.elim | skip
  rename_i p q hp hq
  obtain ⟨p1, n1⟩ := pyM_dp sm hp r1
  obtain ⟨p2, n2⟩ := pyM_dp sm hq r2
  obtain ⟨as, a1⟩ := rd_of I p1 rx
  obtain ⟨bs, b1⟩ := rd_of I p2 ry
  have hd := h.1
  unfold mostDeep at hd
  exact SeqAt.eq_plain a1 b1 n1 n2 (by omega) ⟨.bl _, H, I, rfl, fin_val h.2 sm⟩
theorem x_ne (hu : X.A.units + 200 < cLine) : XOp X (compareOp .NotEq) opNe := by
  rintro pins s σ H x y v u Q I rx ry ⟨dx, dy, M, r1, r2, sm, h⟩
  unfold opNe at h
  split at h <;> first | exact h.elim | skip
  rename_i p q hp hq
  obtain ⟨p1, n1⟩ := pyM_dp sm hp r1
  obtain ⟨p2, n2⟩ := pyM_dp sm hq r2
  obtain ⟨as, a1⟩ := rd_of I p1 rx
  obtain ⟨bs, b1⟩ := rd_of I p2 ry
  have hd := h.1
  unfold mostDeep at hd
  exact SeqAt.ne_plain a1 b1 n1 n2 (by omega) ⟨.bl _, H, I, rfl, fin_val h.2 sm⟩
theorem x_lt : XOp X (compareOp .Lt) opLt := by
  rintro pins s σ H x y v u Q I rx ry ⟨dx, dy, M, r1, r2, sm, h⟩
  unfold opLt at h
  split at h <;> first | exact h.elim | skip
  all_goals rw [rep_v r1] at rx; rw [rep_v r2] at ry
  · exact op_lt pins s σ H _ _ v u Q I rx ry ⟨_, _, rfl, rfl, fin_val h.2 sm⟩
  · exact op_lt_str pins s σ H _ _ v u Q I rx ry ⟨_, _, rfl, rfl, fin_val h.2 sm⟩
theorem x_le : XOp X (compareOp .LtE) opLe := by
  rintro pins s σ H x y v u Q I rx ry ⟨dx, dy, M, r1, r2, sm, h⟩
  unfold opLe at h
  split at h <;> first | exact h.elim | skip
  all_goals rw [rep_v r1] at rx; rw [rep_v r2] at ry
  · exact op_le pins s σ H _ _ v u Q I rx ry ⟨_, _, rfl, rfl, fin_val h.2 sm⟩
  · exact op_le_str pins s σ H _ _ v u Q I rx ry ⟨_, _, rfl, rfl, fin_val h.2 sm⟩
theorem x_gt : XOp X (compareOp .Gt) opGt := by
  rintro pins s σ H x y v u Q I rx ry ⟨dx, dy, M, r1, r2, sm, h⟩
  unfold opGt at h
  split at h <;> first | exact h.elim | skip
  all_goals rw [rep_v r1] at rx; rw [rep_v r2] at ry
  · exact op_gt pins s σ H _ _ v u Q I rx ry ⟨_, _, rfl, rfl, fin_val h.2 sm⟩
  · exact op_gt_str pins s σ H _ _ v u Q I rx ry ⟨_, _, rfl, rfl, fin_val h.2 sm⟩
theorem x_ge : XOp X (compareOp .GtE) opGe := by
  rintro pins s σ H x y v u Q I rx ry ⟨dx, dy, M, r1, r2, sm, h⟩
  unfold opGe at h
  split at h <;> first | exact h.elim | skip
  all_goals rw [rep_v r1] at rx; rw [rep_v r2] at ry
  · exact op_ge pins s σ H _ _ v u Q I rx ry ⟨_, _, rfl, rfl, fin_val h.2 sm⟩
  · exact op_ge_str pins s σ H _ _ v u Q I rx ry ⟨_, _, rfl, rfl, fin_val h.2 sm⟩
theorem non_rep {K : PySem.W.Frag} {H : Hp} {d : D} {u : V} (r : RepD K H d u) : decide (u = .non) = d.isNon := by
  cases d with
  | tup ds =>
    obtain ⟨a, us, rfl, _⟩ := rep_tup r
    rfl
  | v x =>
    rw [rep_v r]
    cases x <;> rfl
theorem x_is : XOp X (compareOp .Is) opIs := by
  rintro pins s σ H x y v u Q I rx ry ⟨dx, dy, M, r1, r2, sm, h⟩
  unfold opIs at h
  split at h <;> first | exact h.elim | skip
  · rw [rep_v r2] at ry
    refine op_isN pins s σ H _ _ v u Q I rx ry ⟨rfl, ?_⟩
    rw [non_rep r1]
    exact fin_val h.2 sm
  · rw [rep_v r1] at rx; rw [rep_v r2] at ry
    exact op_isBl pins s σ H _ _ v u Q I rx ry ⟨_, _, rfl, rfl, fin_val h.2 sm⟩
theorem x_isnot : XOp X (compareOp .IsNot) opIsNot := by
  rintro pins s σ H x y v u Q I rx ry ⟨dx, dy, M, r1, r2, sm, h⟩
  unfold opIsNot at h
  split at h <;> first | exact h.elim | skip
  · rw [rep_v r2] at ry
    refine op_notN pins s σ H _ _ v u Q I rx ry ⟨rfl, ?_⟩
    rw [non_rep r1]
    exact fin_val h.2 sm
  · rw [rep_v r1] at rx; rw [rep_v r2] at ry
    exact op_notBl pins s σ H _ _ v u Q I rx ry ⟨_, _, rfl, rfl, fin_val h.2 sm⟩

theorem one_sign {a : Str} (h : a.cps.size = 1) : a = ⟨#[a.cps.getD 0 0]⟩ := by
  obtain ⟨⟨l⟩⟩ := a
  match l, h with
  | [c], _ => rfl
theorem x_in (hu : X.A.units + 200 < cLine) : XOp X (compareOp .In) opIn := by
  rintro pins s σ H x y v u Q I rx ry ⟨dx, dy, M, r1, r2, sm, h⟩
  unfold opIn at h
  split at h <;> first | exact h.elim | skip
  rename_i n b hb
  have hn := h.1
  unfold mostDeep at hn
  unfold isIn at hb
  split at hb
  · -- texts
    split at hb <;> try (cases hb; done)
    split at hb <;> cases hb
    rename_i h1
    rw [rep_v r1] at rx; rw [rep_v r2] at ry
    refine op_in_sign pins s σ H _ _ v u Q I rx ry ⟨_, _, congrArg V.str (one_sign h1), rfl, fin_val h.2 sm⟩
  · -- tuples
    split at hb <;> cases hb
    rename_i ds hp
    simp only [Bool.and_eq_true] at hp
    obtain ⟨a, us, rfl, q1, l1⟩ := rep_tup r2
    obtain ⟨as, a1⟩ := rd_of I (Dp.tup q1 (RepL.dp ds hp.1 l1)) ry
    obtain ⟨bs, b1⟩ := rd_of I (RepD.dp dx hp.2 r1) rx
    refine SeqAt.in_tuple_data a1 b1 (plain_pyL ds) (plain_py dx) (by rw [depth_pyL, depth_py]; omega) ?_
    rw [any_eqv]
    exact ⟨.bl _, H, I, rfl, fin_val h.2 sm⟩
  · -- lists, dicts
    have e := rep_v r2
    subst e
    split at hb
    · split at hb <;> cases hb
      rename_i ds hm hp
      simp only [Bool.and_eq_true] at hp
      obtain ⟨us, e1, l1⟩ := sm.lst hm
      obtain ⟨as, a1⟩ := rd_of I (Dp.lst (SqL.of e1) (RepL.dp ds hp.1 l1)) ry
      obtain ⟨bs, b1⟩ := rd_of I (RepD.dp dx hp.2 r1) rx
      refine SeqAt.in_list_data a1 b1 (plain_pyL ds) (plain_py dx) (by rw [depth_pyL, depth_py]; omega) ?_
      rw [any_eqv]
      exact ⟨.bl _, H, I, rfl, fin_val h.2 sm⟩
    · split at hb <;> cases hb
      rename_i ds hm hp
      simp only [Bool.and_eq_true] at hp
      obtain ⟨us, e1, l1⟩ := sm.seq (.inr hm)
      obtain ⟨as, a1⟩ := rd_of I (Dp.lst e1 (RepL.dp ds hp.1 l1)) ry
      obtain ⟨bs, b1⟩ := rd_of I (RepD.dp dx hp.2 r1) rx
      refine SeqAt.in_list_data a1 b1 (plain_pyL ds) (plain_py dx) (by rw [depth_pyL, depth_py]; omega) ?_
      rw [any_eqv]
      exact ⟨.bl _, H, I, rfl, fin_val h.2 sm⟩
    · split at hb <;> cases hb
      rename_i kvs hm _ k hk
      obtain ⟨us, e1, l1⟩ := sm _ _ hm
      have ex := key_rep hk r1
      subst ex
      obtain rfl : u = Value.ref _ := ry
      refine d_in (o := valV us k) (by omega) I (DGet.k e1) rx fun s' I' => ⟨.bl _, H, I', rfl, ?_⟩
      rw [l1.isSome k]
      exact fin_val h.2 sm
    · cases hb
  · cases hb
theorem x_notin (hu : X.A.units + 200 < cLine) : XOp X (compareOp .NotIn) opNotIn := by
  rintro pins s σ H x y v u Q I rx ry ⟨dx, dy, M, r1, r2, sm, h⟩
  unfold opNotIn at h
  split at h <;> first | exact h.elim | skip
  rename_i n b hb
  have hn := h.1
  unfold mostDeep at hn
  unfold isIn at hb
  split at hb
  · split at hb <;> try (cases hb; done)
    split at hb <;> cases hb
    rename_i h1
    rw [rep_v r1] at rx; rw [rep_v r2] at ry
    refine op_notIn_sign pins s σ H _ _ v u Q I rx ry ⟨_, _, congrArg V.str (one_sign h1), rfl, fin_val h.2 sm⟩
  · split at hb <;> cases hb
    rename_i ds hp
    simp only [Bool.and_eq_true] at hp
    obtain ⟨a, us, rfl, q1, l1⟩ := rep_tup r2
    obtain ⟨as, a1⟩ := rd_of I (Dp.tup q1 (RepL.dp ds hp.1 l1)) ry
    obtain ⟨bs, b1⟩ := rd_of I (RepD.dp dx hp.2 r1) rx
    refine SeqAt.notIn_tuple_data a1 b1 (plain_pyL ds) (plain_py dx) (by rw [depth_pyL, depth_py]; omega) ?_
    rw [any_eqv]
    exact ⟨.bl _, H, I, rfl, fin_val h.2 sm⟩
  · have e := rep_v r2
    subst e
    split at hb
    · split at hb <;> cases hb
      rename_i ds hm hp
      simp only [Bool.and_eq_true] at hp
      obtain ⟨us, e1, l1⟩ := sm.lst hm
      obtain ⟨as, a1⟩ := rd_of I (Dp.lst (SqL.of e1) (RepL.dp ds hp.1 l1)) ry
      obtain ⟨bs, b1⟩ := rd_of I (RepD.dp dx hp.2 r1) rx
      refine SeqAt.notIn_list_data a1 b1 (plain_pyL ds) (plain_py dx) (by rw [depth_pyL, depth_py]; omega) ?_
      rw [any_eqv]
      exact ⟨.bl _, H, I, rfl, fin_val h.2 sm⟩
    · split at hb <;> cases hb
      rename_i ds hm hp
      simp only [Bool.and_eq_true] at hp
      obtain ⟨us, e1, l1⟩ := sm.seq (.inr hm)
      obtain ⟨as, a1⟩ := rd_of I (Dp.lst e1 (RepL.dp ds hp.1 l1)) ry
      obtain ⟨bs, b1⟩ := rd_of I (RepD.dp dx hp.2 r1) rx
      refine SeqAt.notIn_list_data a1 b1 (plain_pyL ds) (plain_py dx) (by rw [depth_pyL, depth_py]; omega) ?_
      rw [any_eqv]
      exact ⟨.bl _, H, I, rfl, fin_val h.2 sm⟩
    · split at hb <;> cases hb
      rename_i kvs hm _ k hk
      obtain ⟨us, e1, l1⟩ := sm _ _ hm
      have ex := key_rep hk r1
      subst ex
      obtain rfl : u = Value.ref _ := ry
      refine d_notIn (o := valV us k) (by omega) I (DGet.k e1) rx fun s' I' => ⟨.bl _, H, I', rfl, ?_⟩
      rw [l1.isSome k]
      exact fin_val h.2 sm
    · cases hb
  · cases hb
end
end PL

namespace PL
open PySem PySem.Spec PyProof.Rows L2

/-! names, constants -/
def dVar (i : Nat) : DE := fun env M Q _ => match env[i]? with
  | some (some d) => Q d M
  | _ => False
def dC (d : D) : DE := fun _ M Q _ => Q d M
theorem dC_mono {d : D} : MonoE (dC d) := fun _ _ _ _ _ _ hQ _ h => hQ _ _ h
section
variable {X : Cx} {W : WX} {pos : Pos}
theorem xe_var (i : Nat) {x : Str} (hN : X.N[i]? = some x := by rfl) (hv : Vis X.env.scope x := by first | exact Or.inl rfl | exact Or.inr (Or.inl rfl) | exact Or.inr (Or.inr rfl)) (hd : (x == ("__debug__" : Str)) = false := by decide)
    (hcd : (x == ("__classdict__" : Str)) = false := by decide) : XE X W (.Name x pos) (dVar i) := by
  refine ⟨fun env M Q Q' E E' hQ hE h => ?_, PEw (pe_var hN hv hd hcd) ?_⟩
  · unfold dVar at h ⊢
    split at h
    · exact hQ _ _ h
    · exact h
  · rintro σ H Q ⟨env, M, re, s, h⟩
    unfold dVar at h
    split at h
    · rename_i d e
      obtain ⟨u, h1, h2⟩ := re.2 i d e
      exact ⟨u, h1, fin_rep h s h2⟩
    · exact h.elim
theorem xe_const {e : Expr} {x : V} (h : PE X e (tC x)) : XE X W e (dC (.v x)) := by
  refine ⟨dC_mono, PEw h ?_⟩
  rintro σ H Q ⟨env, M, re, s, h⟩
  exact fin_val h s
theorem xe_int {i j} : XE X W (.Constant (.int i) j pos) (dC (.int i)) := xe_const pe_int
theorem xe_str {x j} : XE X W (.Constant (.str x) j pos) (dC (.str x)) := xe_const pe_str
theorem xe_bl {b j} : XE X W (.Constant (.bool b) j pos) (dC (.bl b)) := xe_const pe_bl
theorem xe_non {j} : XE X W (.Constant .none j pos) (dC .non) := xe_const pe_non
theorem xe_glob {x : Str} {v : V} {u : Value} (hg : Gl X x) (hm : X.mg x = some u) (r : RelV v u) (hd : (x == ("__debug__" : Str)) = false := by decide) : XE X W (.Name x pos) (dC (.v v)) := xe_const (pe_glob hg hm r hd)
theorem xe_bltn {x : Str} {v : V} {u : Value} (hg : Gl X x) (hm : X.mg x = none) (hv : bootBuiltins x = some u) (r : RelV v u) (hn : x ≠ "__name__" := by decide) (hd : (x == ("__debug__" : Str)) = false := by decide) : XE X W (.Name x pos) (dC (.v v)) :=
  xe_const (pe_bltn hg hm hv r hn hd)
/-- a constant tuple of the module -/
theorem xe_globT {x : Str} {a : Addr} {ds : List D} (hg : Gl X x) (hm : X.mg x = some (.ref a)) (r : ∀ H, RepD X.K H (.tup ds) (.ref a)) (hd : (x == ("__debug__" : Str)) = false := by decide) : XE X W (.Name x pos) (dC (.tup ds)) := by
  refine ⟨dC_mono, PEw (pe_glob (v := .ref a) hg hm rfl hd) ?_⟩
  rintro σ H Q ⟨env, M, re, s, h⟩
  exact fin_rep h s (r H)
end

/-! one-place operations, truth -/
def truth (M : Mem) : D → Option Bool
  | .v .non => some false
  | .v (.bl b) => some b
  | .v (.int i) => some (i != 0)
  | .v (.str x) => if x.length ≤ sizeLine then some ((x.length : Int) != 0) else none
  | .tup ds => some (!ds.isEmpty)
  | .v (.ref a) => match M a with
    | some (.lst ds) => some (!ds.isEmpty)
    | some (.rol ds) => some (!ds.isEmpty)
    | some (.dk kvs) => some (!kvs.isEmpty)
    | _ => none
  | _ => none
theorem RepL.isEmpty {K : PySem.W.Frag} {H : Hp} {ds : List D} {us : List V} (h : RepL K H ds us) : us.isEmpty = ds.isEmpty := by
  have := h.length
  cases ds <;> cases us <;> simp_all
theorem RepKV.length {κ : Type} {K : PySem.W.Frag} {H : Hp} : ∀ {kvs : List (κ × D)} {us : List (κ × V)}, RepKV K H kvs us → us.length = kvs.length
  | [], _, h => by unfold RepKV at h; rw [h]; rfl
  | (k, d) :: r, _, h => by
    obtain ⟨u, t, rfl, q, z⟩ := h
    simp [RepKV.length z]
theorem RepKV.isEmpty {κ : Type} {K : PySem.W.Frag} {H : Hp} {kvs : List (κ × D)} {us : List (κ × V)} (h : RepKV K H kvs us) : us.isEmpty = kvs.isEmpty := by
  have := h.length
  cases kvs <;> cases us <;> simp_all
theorem truth_v {K : PySem.W.Frag} {H : Hp} {M : Mem} (s : Sim K H M) {d : D} {u : V} {b : Bool} (r : RepD K H d u) (h : truth M d = some b) : TruV K u H b := by
  unfold truth at h
  split at h
  · cases h; rw [rep_v r]; rfl
  · cases h; rw [rep_v r]; rfl
  · cases h; rw [rep_v r]; rfl
  · split at h <;> cases h
    rw [rep_v r]
    exact ⟨by assumption, rfl⟩
  · cases h
    obtain ⟨a, us, rfl, q, l⟩ := rep_tup r
    exact .inr (.inl ⟨us, q, by rw [l.isEmpty]⟩)
  · rw [rep_v r]
    split at h
    · cases h
      rename_i hm
      obtain ⟨us, e, l⟩ := s _ _ hm
      exact .inl ⟨us, SqL.of e, by rw [l.isEmpty]⟩
    · cases h
      rename_i hm
      obtain ⟨o, us, e, l⟩ := s _ _ hm
      exact .inl ⟨us, .inl (.inr ⟨o, e⟩), by rw [l.isEmpty]⟩
    · cases h
      rename_i hm
      obtain ⟨us, e, l⟩ := s _ _ hm
      exact .inr (.inr ⟨us, e, by rw [l.isEmpty]⟩)
    · cases h
  · cases h

def dTruth (t : DE) : DT := fun env M Q E => t env M (fun d M1 => match truth M1 d with
  | some b => Q b M1
  | none => False) E
theorem dTruth_mono {t : DE} (h : MonoE t) : MonoT (dTruth t) := fun env M Q Q' E E' hQ hE => h env M _ _ _ _ (fun d M1 => by
  show (match truth M1 d with | some b => Q b M1 | none => False) → (match truth M1 d with | some b => Q' b M1 | none => False)
  cases truth M1 d with
  | none => exact id
  | some b => exact hQ b M1) hE
def dAnd (t u : DT) : DT := fun env M Q E => t env M (fun b M1 => if b = true then u env M1 Q E else Q false M1) E
def dOr (t u : DT) : DT := fun env M Q E => t env M (fun b M1 => if b = true then Q true M1 else u env M1 Q E) E
def dNot (t : DT) : DT := fun env M Q E => t env M (fun b M1 => Q (!b) M1) E
def dIf (t : DT) (ta tb : DE) : DE := fun env M Q E => t env M (fun b M1 => if b = true then ta env M1 Q E else tb env M1 Q E) E
def dAndV (ta tb : DE) : DE := fun env M Q E => ta env M (fun d M1 => match truth M1 d with
  | some true => tb env M1 Q E
  | some false => Q d M1
  | none => False) E
def dOrV (ta tb : DE) : DE := fun env M Q E => ta env M (fun d M1 => match truth M1 d with
  | some true => Q d M1
  | some false => tb env M1 Q E
  | none => False) E
def dNotV (ta : DE) : DE := fun env M Q E => ta env M (fun d M1 => match truth M1 d with
  | some b => Q (.bl (!b)) M1
  | none => False) E
theorem dAnd_mono {t u : DT} (h : MonoT t) (g : MonoT u) : MonoT (dAnd t u) := fun env M Q Q' E E' hQ hE => h env M _ _ _ _ (fun b M1 => by
  cases b with
  | true => rw [if_pos rfl, if_pos rfl]; exact g env M1 _ _ _ _ hQ hE
  | false => rw [if_neg Bool.false_ne_true, if_neg Bool.false_ne_true]; exact hQ false M1) hE
theorem dOr_mono {t u : DT} (h : MonoT t) (g : MonoT u) : MonoT (dOr t u) := fun env M Q Q' E E' hQ hE => h env M _ _ _ _ (fun b M1 => by
  cases b with
  | true => rw [if_pos rfl, if_pos rfl]; exact hQ true M1
  | false => rw [if_neg Bool.false_ne_true, if_neg Bool.false_ne_true]; exact g env M1 _ _ _ _ hQ hE) hE
theorem dNot_mono {t : DT} (h : MonoT t) : MonoT (dNot t) := fun env M Q Q' E E' hQ hE => h env M _ _ _ _ (fun b M1 => hQ (!b) M1) hE
theorem dIf_mono {t : DT} {ta tb : DE} (h : MonoT t) (ha : MonoE ta) (hb : MonoE tb) : MonoE (dIf t ta tb) := fun env M Q Q' E E' hQ hE => h env M _ _ _ _ (fun b M1 => by
  cases b with
  | true => rw [if_pos rfl, if_pos rfl]; exact ha env M1 _ _ _ _ hQ hE
  | false => rw [if_neg Bool.false_ne_true, if_neg Bool.false_ne_true]; exact hb env M1 _ _ _ _ hQ hE) hE
theorem dAndV_mono {ta tb : DE} (ha : MonoE ta) (hb : MonoE tb) : MonoE (dAndV ta tb) := fun env M Q Q' E E' hQ hE => ha env M _ _ _ _ (fun d M1 => by
  show (match truth M1 d with | some true => tb env M1 Q E | some false => Q d M1 | none => False) → (match truth M1 d with | some true => tb env M1 Q' E' | some false => Q' d M1 | none => False)
  cases truth M1 d with
  | none => exact id
  | some b => cases b with
    | true => exact hb env M1 _ _ _ _ hQ hE
    | false => exact hQ d M1) hE
theorem dOrV_mono {ta tb : DE} (ha : MonoE ta) (hb : MonoE tb) : MonoE (dOrV ta tb) := fun env M Q Q' E E' hQ hE => ha env M _ _ _ _ (fun d M1 => by
  show (match truth M1 d with | some true => Q d M1 | some false => tb env M1 Q E | none => False) → (match truth M1 d with | some true => Q' d M1 | some false => tb env M1 Q' E' | none => False)
  cases truth M1 d with
  | none => exact id
  | some b => cases b with
    | true => exact hQ d M1
    | false => exact hb env M1 _ _ _ _ hQ hE) hE
theorem dNotV_mono {ta : DE} (ha : MonoE ta) : MonoE (dNotV ta) := fun env M Q Q' E E' hQ hE => ha env M _ _ _ _ (fun d M1 => by
  show (match truth M1 d with | some b => Q (.bl (!b)) M1 | none => False) → (match truth M1 d with | some b => Q' (.bl (!b)) M1 | none => False)
  cases truth M1 d with
  | none => exact id
  | some b => exact hQ _ M1) hE

section
variable {X : Cx} {W : WX} {a b c : Expr} {rest : List Expr} {ta tb : DE} {t u : DT} {pos : Pos}
/-- a test by its value's truth -/
theorem xt_val (h : XE X W a ta) (he : ∀ whole, isTrue a X.env whole = (do let v ← whole; standAt a.pos; holding [v] (truthy v)) := by intro _; rfl) : XT X W a (dTruth ta) := by
  refine ⟨dTruth_mono h.mono, PTw (pt_truth h.pe he) ?_⟩
  rintro σ H Q ⟨env, M, re, s, q⟩
  refine stepE h.mono re s q (fun d M1 u H1 e1 s1 re1 r1 h1 => ?_) fun _ _ _ z => z
  show ∃ k, _
  split at h1
  · rename_i b hb
    exact ⟨b, truth_v s1 r1 hb, h1 H1 e1 s1⟩
  · exact h1.elim
theorem xt_cmp {op : CmpOp} {r : DOp2} (ho : XOp X (compareOp op) r) (ha : XE X W a ta) (hb : XE X W b tb) (hm : behindInMarks op b = false)
    (hB : ∀ x y M Q, (r x y M).run M Q → (r x y M).run M fun d M' => (∃ k, d = .bl k) ∧ Q d M') : XT X W (.Compare a [op] [b] pos) (dTruth (dBin r ta tb)) := by
  refine ⟨dTruth_mono (dBin_mono ha.mono hb.mono), PTw (pt_cmpR ho ha.pe hb.pe hm) ?_⟩
  rintro σ H Q ⟨env, M, re, s, q⟩
  have q' : dBin r ta tb env M (fun d M1 => (∃ k, d = D.bl k) ∧ match truth M1 d with
      | some b => ∀ H', Ext X.K H H' → Sim X.K H' M1 → Q b H'
      | none => False) (upX X.K W H σ) := ha.mono env M _ _ _ _ (fun x M1 h1 => hb.mono env M1 _ _ _ _ (fun y M2 h2 => hB _ _ _ _ h2) (fun _ _ _ z => z) h1) (fun _ _ _ z => z) q
  show tOp _ _ _ _ _ _
  refine bin_up ha hb (fun _ _ _ _ h => h) σ H _ ⟨env, M, re, s, dBin_mono ha.mono hb.mono env M _ _ _ _ (fun d M1 h1 u H1 e1 s1 r1 => ?_) (fun _ _ _ z => z) q'⟩
  obtain ⟨⟨k, rfl⟩, h1⟩ := h1
  rw [rep_v r1]
  exact ⟨k, rfl, h1 H1 e1 s1⟩
theorem bl_eq : ∀ x y M Q, (opEq x y M).run M Q → (opEq x y M).run M fun d M' => (∃ k, d = .bl k) ∧ Q d M' := fun x y M Q h => by
  unfold opEq at h ⊢
  split at h
  · exact ⟨h.1, ⟨_, rfl⟩, h.2⟩
  · exact h.elim
theorem bl_ne : ∀ x y M Q, (opNe x y M).run M Q → (opNe x y M).run M fun d M' => (∃ k, d = .bl k) ∧ Q d M' := fun x y M Q h => by
  unfold opNe at h ⊢
  split at h
  · exact ⟨h.1, ⟨_, rfl⟩, h.2⟩
  · exact h.elim
theorem bl_lt : ∀ x y M Q, (opLt x y M).run M Q → (opLt x y M).run M fun d M' => (∃ k, d = .bl k) ∧ Q d M' := fun x y M Q h => by
  unfold opLt at h ⊢
  split at h <;> first | exact h.elim | exact ⟨h.1, ⟨_, rfl⟩, h.2⟩
theorem bl_le : ∀ x y M Q, (opLe x y M).run M Q → (opLe x y M).run M fun d M' => (∃ k, d = .bl k) ∧ Q d M' := fun x y M Q h => by
  unfold opLe at h ⊢
  split at h <;> first | exact h.elim | exact ⟨h.1, ⟨_, rfl⟩, h.2⟩
theorem bl_gt : ∀ x y M Q, (opGt x y M).run M Q → (opGt x y M).run M fun d M' => (∃ k, d = .bl k) ∧ Q d M' := fun x y M Q h => by
  unfold opGt at h ⊢
  split at h <;> first | exact h.elim | exact ⟨h.1, ⟨_, rfl⟩, h.2⟩
theorem bl_ge : ∀ x y M Q, (opGe x y M).run M Q → (opGe x y M).run M fun d M' => (∃ k, d = .bl k) ∧ Q d M' := fun x y M Q h => by
  unfold opGe at h ⊢
  split at h <;> first | exact h.elim | exact ⟨h.1, ⟨_, rfl⟩, h.2⟩
theorem bl_is : ∀ x y M Q, (opIs x y M).run M Q → (opIs x y M).run M fun d M' => (∃ k, d = .bl k) ∧ Q d M' := fun x y M Q h => by
  unfold opIs at h ⊢
  split at h <;> first | exact h.elim | exact ⟨h.1, ⟨_, rfl⟩, h.2⟩
theorem bl_isnot : ∀ x y M Q, (opIsNot x y M).run M Q → (opIsNot x y M).run M fun d M' => (∃ k, d = .bl k) ∧ Q d M' := fun x y M Q h => by
  unfold opIsNot at h ⊢
  split at h <;> first | exact h.elim | exact ⟨h.1, ⟨_, rfl⟩, h.2⟩
theorem bl_in : ∀ x y M Q, (opIn x y M).run M Q → (opIn x y M).run M fun d M' => (∃ k, d = .bl k) ∧ Q d M' := fun x y M Q h => by
  unfold opIn at h ⊢
  split at h
  · exact ⟨h.1, ⟨_, rfl⟩, h.2⟩
  · exact h.elim
theorem bl_notin : ∀ x y M Q, (opNotIn x y M).run M Q → (opNotIn x y M).run M fun d M' => (∃ k, d = .bl k) ∧ Q d M' := fun x y M Q h => by
  unfold opNotIn at h ⊢
  split at h
  · exact ⟨h.1, ⟨_, rfl⟩, h.2⟩
  · exact h.elim
theorem stepB {K : PySem.W.Frag} {t : DT} {σ : L2.St} {H : Hp} {env : DEnv} {M : Mem} {Q : Bool → Hp → Prop} (re : RepE K H env σ) (s : Sim K H M) (h : t env M (fun b M' => ∀ H', Ext K H H' → Sim K H' M' → Q b H') (upX K W H σ)) : liftT K W t σ H Q := ⟨env, M, re, s, h⟩
theorem xt_wh (h : XW X W a t) : XT X W a t := ⟨h.mono, h.pw.pt⟩
theorem xw_and1 (h : XT X W a t) : XW X W (.BoolOp .And [a] pos) t := ⟨h.mono, pw_and1 h.pt⟩
theorem xw_or1 (h : XT X W a t) : XW X W (.BoolOp .Or [a] pos) t := ⟨h.mono, pw_or1 h.pt⟩
theorem upT_mono {K : PySem.W.Frag} {H H1 : Hp} {Q : Bool → Hp → Prop} (e : Ext K H H1) : ∀ b M1, (∀ H', Ext K H H' → Sim K H' M1 → Q b H') → ∀ H', Ext K H1 H' → Sim K H' M1 → Q b H' := fun b M1 q H' e' s => q H' (e.trans e') s
theorem xw_and (ha : XT X W a t) (hb : XW X W (.BoolOp .And (b :: rest) pos) u) : XW X W (.BoolOp .And (a :: b :: rest) pos) (dAnd t u) := by
  refine ⟨dAnd_mono ha.mono hb.mono, PWw (pw_and ha.pt hb.pw) ?_⟩
  rintro σ H Q ⟨env, M, re, s, h⟩
  refine stepT ha.mono re s h (fun c M1 H1 e1 s1 re1 h1 => ?_) fun _ _ _ z => z
  cases c with
  | true =>
    rw [if_pos rfl] at h1 ⊢
    exact stepB re1 s1 (hb.mono _ _ _ _ _ _ (upT_mono e1) (upX_mono e1) h1)
  | false =>
    rw [if_neg Bool.false_ne_true] at h1 ⊢
    exact h1 H1 e1 s1
theorem xw_or (ha : XT X W a t) (hb : XW X W (.BoolOp .Or (b :: rest) pos) u) : XW X W (.BoolOp .Or (a :: b :: rest) pos) (dOr t u) := by
  refine ⟨dOr_mono ha.mono hb.mono, PWw (pw_or ha.pt hb.pw) ?_⟩
  rintro σ H Q ⟨env, M, re, s, h⟩
  refine stepT ha.mono re s h (fun c M1 H1 e1 s1 re1 h1 => ?_) fun _ _ _ z => z
  cases c with
  | true =>
    rw [if_pos rfl] at h1 ⊢
    exact h1 H1 e1 s1
  | false =>
    rw [if_neg Bool.false_ne_true] at h1 ⊢
    exact stepB re1 s1 (hb.mono _ _ _ _ _ _ (upT_mono e1) (upX_mono e1) h1)
theorem xt_not (ha : XT X W a t) : XT X W (.UnaryOp .Not a pos) (dNot t) := by
  refine ⟨dNot_mono ha.mono, PTw (pt_not ha.pt) ?_⟩
  rintro σ H Q ⟨env, M, re, s, h⟩
  exact stepT ha.mono re s h (fun c M1 H1 e1 s1 re1 h1 => h1 H1 e1 s1) fun _ _ _ z => z
theorem xe_if (hc : XT X W c t) (ha : XE X W a ta) (hb : XE X W b tb) : XE X W (.IfExp c a b pos) (dIf t ta tb) := by
  refine ⟨dIf_mono hc.mono ha.mono hb.mono, PEw (pe_ifExp hc.pt ha.pe hb.pe) ?_⟩
  rintro σ H Q ⟨env, M, re, s, h⟩
  refine stepT hc.mono re s h (fun c M1 H1 e1 s1 re1 h1 => ?_) fun _ _ _ z => z
  cases c with
  | true =>
    rw [if_pos rfl] at h1 ⊢
    exact ⟨env, M1, re1, s1, ha.mono _ _ _ _ _ _ (upK_mono e1) (upX_mono e1) h1⟩
  | false =>
    rw [if_neg Bool.false_ne_true] at h1 ⊢
    exact ⟨env, M1, re1, s1, hb.mono _ _ _ _ _ _ (upK_mono e1) (upX_mono e1) h1⟩
theorem xe_one {op} (h : XE X W a ta) : XE X W (.BoolOp op [a] pos) ta := ⟨h.mono, pe_one h.pe⟩
theorem xe_and (ha : XE X W a ta) (hb : XE X W (.BoolOp .And (b :: rest) pos) tb) : XE X W (.BoolOp .And (a :: b :: rest) pos) (dAndV ta tb) := by
  refine ⟨dAndV_mono ha.mono hb.mono, PEw (pe_andT ha.pe hb.pe) ?_⟩
  rintro σ H Q ⟨env, M, re, s, h⟩
  refine stepE ha.mono re s h (fun d M1 u H1 e1 s1 re1 r1 h1 => ?_) fun _ _ _ z => z
  split at h1
  · rename_i hb'
    refine ⟨true, truth_v s1 r1 hb', ?_⟩
    rw [if_pos rfl]
    exact ⟨env, M1, re1, s1, hb.mono _ _ _ _ _ _ (upK_mono e1) (upX_mono e1) h1⟩
  · rename_i hb'
    refine ⟨false, truth_v s1 r1 hb', ?_⟩
    rw [if_neg Bool.false_ne_true]
    exact h1 u H1 e1 s1 r1
  · exact h1.elim
theorem xe_or (ha : XE X W a ta) (hb : XE X W (.BoolOp .Or (b :: rest) pos) tb) : XE X W (.BoolOp .Or (a :: b :: rest) pos) (dOrV ta tb) := by
  refine ⟨dOrV_mono ha.mono hb.mono, PEw (pe_orT ha.pe hb.pe) ?_⟩
  rintro σ H Q ⟨env, M, re, s, h⟩
  refine stepE ha.mono re s h (fun d M1 u H1 e1 s1 re1 r1 h1 => ?_) fun _ _ _ z => z
  split at h1
  · rename_i hb'
    refine ⟨true, truth_v s1 r1 hb', ?_⟩
    rw [if_pos rfl]
    exact h1 u H1 e1 s1 r1
  · rename_i hb'
    refine ⟨false, truth_v s1 r1 hb', ?_⟩
    rw [if_neg Bool.false_ne_true]
    exact ⟨env, M1, re1, s1, hb.mono _ _ _ _ _ _ (upK_mono e1) (upX_mono e1) h1⟩
  · exact h1.elim
theorem xe_not (ha : XE X W a ta) : XE X W (.UnaryOp .Not a pos) (dNotV ta) := by
  refine ⟨dNotV_mono ha.mono, PEw (pe_notT ha.pe) ?_⟩
  rintro σ H Q ⟨env, M, re, s, h⟩
  refine stepE ha.mono re s h (fun d M1 u H1 e1 s1 re1 r1 h1 => ?_) fun _ _ _ z => z
  split at h1
  · rename_i b hb'
    exact ⟨b, truth_v s1 r1 hb', fin_val (fun u H' e s' r => h1 u H' (e1.trans e) s' r) s1⟩
  · exact h1.elim
end

/-! -x -/
def dNeg (ta : DE) : DE := fun env M Q E => ta env M (fun d M1 => match d with
  | .v (.int i) => Q (.int (-i)) M1
  | _ => False) E
theorem xe_neg {X : Cx} {W : WX} {a : Expr} {ta : DE} {pos : Pos} (ha : XE X W a ta) : XE X W (.UnaryOp .USub a pos) (dNeg ta) := by
  refine ⟨fun env M Q Q' E E' hQ hE => ha.mono env M _ _ _ _ (fun d M1 => ?_) hE, PEw (pe_un un_neg ha.pe) ?_⟩
  · cases d with
    | tup _ => exact id
    | v x => cases x <;> first | exact id | exact hQ _ _
  · rintro σ H Q ⟨env, M, re, s, h⟩
    refine stepE ha.mono re s h (fun d M1 u H1 e1 s1 re1 r1 h1 => ?_) fun _ _ _ z => z
    split at h1
    · rw [rep_v r1]
      exact ⟨_, rfl, fin_val (fun u H' e s' r => h1 u H' (e1.trans e) s' r) s1⟩
    · exact h1.elim

/-! argument lists, displays -/
def dNil : DA := fun _ M Q _ => Q [] M
def dCons (ta : DE) (tr : DA) : DA := fun env M Q E => ta env M (fun d M1 => tr env M1 (fun ds M2 => Q (d :: ds) M2) E) E
theorem dCons_mono {ta : DE} {tr : DA} (h : MonoE ta) (g : MonoA tr) : MonoA (dCons ta tr) := fun env M Q Q' E E' hQ hE =>
  h env M _ _ _ _ (fun d M1 => g env M1 _ _ _ _ (fun ds M2 => hQ (d :: ds) M2) hE) hE
theorem upA_mono {K : PySem.W.Frag} {H H1 : Hp} {Q : List V → Hp → Prop} (e : Ext K H H1) : ∀ ds M1, (∀ us H', Ext K H H' → Sim K H' M1 → RepL K H' ds us → Q us H') → ∀ us H', Ext K H1 H' → Sim K H' M1 → RepL K H' ds us → Q us H' :=
  fun ds M1 q us H' e' s r => q us H' (e.trans e') s r
section
variable {X : Cx} {W : WX} {e : Expr} {es : List Expr} {te : DE} {t : DA} {pos : Pos}
theorem xa_nil : XA X W [] dNil := by
  refine ⟨fun _ _ _ _ _ _ hQ _ h => hQ _ _ h, PAw pa_nil ?_⟩
  rintro σ H Q ⟨env, M, re, s, h⟩
  exact h [] H Ext.refl s .nil
theorem xa_cons (ha : XE X W e te) (hr : XA X W es t) (hs : starEach (e :: es) X.env = (false, eval e X.env) :: starEach es X.env := by rfl) : XA X W (e :: es) (dCons te t) := by
  refine ⟨dCons_mono ha.mono hr.mono, PAw (pa_cons ha.pe hr.pa hs) ?_⟩
  rintro σ H Q ⟨env, M, re, s, h⟩
  refine stepE ha.mono re s h (fun d M1 u H1 e1 s1 re1 r1 h1 => ?_) fun _ _ _ z => z
  refine stepA hr.mono re1 s1 h1 (fun ds M2 us H2 e2 s2 re2 r2 h2 => ?_) (upX_mono e1)
  exact h2 (u :: us) H2 (e1.trans e2) s2 (.cons (RepD.mono e2 _ r1) r2)
def dTup (n : Nat) (t : DA) : DE := fun env M Q E => t env M (fun ds M1 => ds.length = n ∧ Q (.tup ds) M1) E
def dLst (n : Nat) (t : DA) : DE := fun env M Q E => t env M (fun ds M1 => ds.length = n ∧ ∀ p, M1 p = none → Q (.ob p) (mupd M1 p (.lst ds))) E
theorem xe_tup {x1} {n : Nat} (h : XA X W es t) (hn : n ≤ sizeLine := by decide) : XE X W (.Tuple es x1 pos) (dTup n t) := by
  refine ⟨fun env M Q Q' E E' hQ hE => h.mono env M _ _ _ _ (fun ds M1 q => ⟨q.1, hQ _ _ q.2⟩) hE, PEw (pe_tup h.pa) ?_⟩
  rintro σ H Q ⟨env, M, re, s, q⟩
  refine stepA h.mono re s q (fun ds M1 us H1 e1 s1 re1 r1 h1 => ?_) fun _ _ _ z => z
  exact ⟨by rw [r1.length, h1.1]; exact hn, fun p hp => fin_tup (upK_mono e1 _ _ h1.2) s1 hp r1⟩
theorem xe_lst {n : Nat} (h : XA X W es t) (hn : n ≤ sizeLine := by decide) : XE X W (.List es pos) (dLst n t) := by
  refine ⟨fun env M Q Q' E E' hQ hE => h.mono env M _ _ _ _ (fun ds M1 q => ⟨q.1, fun p hp => hQ _ _ (q.2 p hp)⟩) hE, PEw (pe_lst h.pa) ?_⟩
  rintro σ H Q ⟨env, M, re, s, q⟩
  refine stepA h.mono re s q (fun ds M1 us H1 e1 s1 re1 r1 h1 => ?_) fun _ _ _ z => z
  exact ⟨by rw [r1.length, h1.1]; exact hn, fun p hp => fin_lst (fun p hp => upK_mono e1 _ _ (h1.2 p hp)) s1 hp r1⟩
end

/-! subscripts -/
def opIx : DOp2
  | .tup ds, .v (.int i), _ => match atI ds i with
    | some d => .val True d
    | none => .bad
  | .v (.str z), .v (.int i), _ => match atI z.cps.toList i with
    | some c => .val (z.length ≤ sizeLine) (.str ⟨#[c]⟩)
    | none => .bad
  | .v (.ref a), y, M => match M a with
    | some (.lst ds) => match y with
      | .v (.int i) => match atI ds i with
        | some d => .val True d
        | none => .bad
      | _ => .bad
    | some (.rol ds) => match y with
      | .v (.int i) => match atI ds i with
        | some d => .val True d
        | none => .bad
      | _ => .bad
    | some (.dk kvs) => match y.key with
      | some k => match look kvs k with
        | some d => .val True d
        | none => .bad
      | none => .bad
    | _ => .bad
  | _, _, _ => .bad
theorem RepL.atI {K : PySem.W.Frag} {H : Hp} {ds : List D} {us : List V} {i : Int} {d : D} (r : RepL K H ds us) (h : L2.atI ds i = some d) : ∃ u, L2.atI us i = some u ∧ RepD K H d u := by
  unfold L2.atI at h ⊢
  rw [r.length]
  cases q : ixN ds.length i with
  | none => rw [q] at h; cases h
  | some j =>
    rw [q] at h
    exact r.get h
section
variable {X : Cx}
theorem ix_dict (hu : X.A.units + 200 < cLine) : IxR X (fun x y H Q => ∃ a kvs k v, x = .ref a ∧ H a = some (.dK kvs) ∧ y = kV k ∧ valV kvs k = some v ∧ Q v H) := by
  intro value slice pins s σ H x y v u Q I rx ry h hs
  obtain ⟨a, kvs, k, w', rfl, e, rfl, ev, q⟩ := h
  obtain rfl : v = Value.ref a := rx
  have g : DGet H a (kV k) (some w') := by rw [← ev]; exact DGet.k e
  exact tail_any (dict_typeIs I g) PySem.F.slot_dict_getitem.lookup (d_getItem (by omega) I g ry fun w2 s3 I3 rw' => ⟨w', H, I3, rw', q⟩) hs
theorem x_ix (hu : X.A.units + 200 < cLine) : IxR X (upR2 X.K opIx) := by
  rintro value slice pins s σ H x y v u Q I rx ry ⟨dx, dy, M, r1, r2, sm, h⟩ hs
  unfold opIx at h
  split at h <;> first | exact h.elim | skip
  · split at h <;> first | exact h.elim | skip
    rename_i d hd
    obtain ⟨a, us, rfl, q1, l1⟩ := rep_tup r1
    obtain ⟨w', e1, e2⟩ := l1.atI hd
    rw [rep_v r2] at ry
    exact ix_tup value slice pins s σ H _ _ v u Q I rx ry ⟨_, _, _, _, rfl, rfl, q1, e1, fin_rep h.2 sm e2⟩ hs
  · split at h <;> first | exact h.elim | skip
    rename_i c hc
    rw [rep_v r1] at rx; rw [rep_v r2] at ry
    exact ix_str value slice pins s σ H _ _ v u Q I rx ry ⟨_, _, _, rfl, rfl, h.1, hc, fin_val h.2 sm⟩ hs
  · rw [rep_v r1] at rx
    split at h <;> first | exact h.elim | skip
    · rename_i ds hm
      split at h <;> first | exact h.elim | skip
      split at h <;> first | exact h.elim | skip
      rename_i d hd
      obtain ⟨us, q1, l1⟩ := sm.seq (.inl hm)
      obtain ⟨w', e1, e2⟩ := l1.atI hd
      rw [rep_v r2] at ry
      exact ix_list value slice pins s σ H _ _ v u Q I rx ry ⟨_, _, _, _, rfl, rfl, q1, e1, fin_rep h.2 sm e2⟩ hs
    · rename_i ds hm
      split at h <;> first | exact h.elim | skip
      split at h <;> first | exact h.elim | skip
      rename_i d hd
      obtain ⟨us, q1, l1⟩ := sm.seq (.inr hm)
      obtain ⟨w', e1, e2⟩ := l1.atI hd
      rw [rep_v r2] at ry
      exact ix_list value slice pins s σ H _ _ v u Q I rx ry ⟨_, _, _, _, rfl, rfl, q1, e1, fin_rep h.2 sm e2⟩ hs
    · rename_i kvs hm
      split at h <;> first | exact h.elim | skip
      rename_i k hk
      split at h <;> first | exact h.elim | skip
      rename_i d hd
      obtain ⟨us, q1, l1⟩ := sm _ _ hm
      have hl := l1.look k
      rw [hd] at hl
      have ey := key_rep hk r2
      subst ey
      cases hv : valV us k with
      | none => rw [hv] at hl; exact hl.elim
      | some w' =>
        rw [hv] at hl
        exact ix_dict hu value slice pins s σ H _ _ v u Q I rx ry ⟨_, _, _, _, rfl, q1, rfl, hv, fin_rep h.2 sm hl⟩ hs
theorem xe_ix {W : WX} {a b : Expr} {ta tb : DE} {pos : Pos} (hu : X.A.units + 200 < cLine) (ha : XE X W a ta) (hb : XE X W b tb) (hs : PlainIx b := by intro _ _; rfl) : XE X W (.Subscript a b pos) (dBin opIx ta tb) :=
  ⟨dBin_mono ha.mono hb.mono, PEw (pe_ix (x_ix hu) ha.pe hb.pe hs) (bin_up ha hb fun _ _ _ _ h => h)⟩
end

/-! slices -/
abbrev DO := DEnv → Mem → (Option Int → Mem → Prop) → DX → Prop
def dNoPart : DO := fun _ M Q _ => Q none M
def dPart (t : DE) : DO := fun env M Q E => t env M (fun d M1 => match d with
  | .v (.int i) => Q (some i) M1
  | _ => False) E
def MonoO (t : DO) : Prop := ∀ env M (Q Q' : Option Int → Mem → Prop) (E E' : DX), (∀ d M, Q d M → Q' d M) → (∀ c f M, E c f M → E' c f M) → t env M Q E → t env M Q' E'
def liftO (K : PySem.W.Frag) (W : WX) (t : DO) : TO := fun σ H Q => ∃ env M, RepE K H env σ ∧ Sim K H M ∧ t env M (fun b M' => ∀ H', Ext K H H' → Sim K H' M' → Q b H') (upX K W H σ)
structure XO (X : Cx) (W : WX) (e : Option Expr) (t : DO) : Prop where
  mono : MonoO t
  po : PO X e (liftO X.K W t)
theorem POw {X : Cx} {e : Option Expr} {t t' : TO} (h : PO X e t) (w : ∀ σ H Q, t' σ H Q → t σ H Q) : PO X e t' := ⟨fun pins s σ H Q I q => h.run pins s σ H Q I (w σ H Q q)⟩
def cutD {α : Type} (xs : List α) (lo hi : Option Int) : List α := (xs.drop (HT.sIx xs.length 0 lo)).take (HT.sIx xs.length xs.length hi - HT.sIx xs.length 0 lo)
theorem RepL.cut {K : PySem.W.Frag} {H : Hp} {ds : List D} {us : List V} (r : RepL K H ds us) (lo hi : Option Int) : RepL K H (cutD ds lo hi) (cutV us lo hi) := by
  unfold cutD cutV
  rw [r.length]
  exact (r.drop _).take _
def opSl : D → Option Int → Option Int → Mem → Res
  | .tup ds, lo, hi, _ => .val True (.tup (cutD ds lo hi))
  | .v (.str z), lo, hi, _ => .val (z.length ≤ sizeLine) (.str (cutS z lo hi))
  | .v (.ref a), lo, hi, M => match M a with
    | some (.lst ds) => .new True (.lst (cutD ds lo hi))
    | some (.rol ds) => .new True (.lst (cutD ds lo hi))
    | _ => .bad
  | _, _, _, _ => .bad
def dSl (ta : DE) (tl th : DO) : DE := fun env M Q E => ta env M (fun x M1 => tl env M1 (fun l M2 => th env M2 (fun u M3 => (opSl x l u M3).run M3 Q) E) E) E
section
variable {X : Cx} {W : WX} {e : Expr} {lo hi : Option Expr} {te : DE} {tl th : DO} {pos p2 : Pos}
theorem xo_none : XO X W none dNoPart := by
  refine ⟨fun _ _ _ _ _ _ hQ _ h => hQ _ _ h, POw po_none ?_⟩
  rintro σ H Q ⟨env, M, re, s, h⟩
  exact h H Ext.refl s
theorem xo_some (h : XE X W e te) : XO X W (some e) (dPart te) := by
  refine ⟨fun env M Q Q' E E' hQ hE => h.mono env M _ _ _ _ (fun d M1 => ?_) hE, POw (po_some h.pe) ?_⟩
  · cases d with
    | tup _ => exact id
    | v x => cases x <;> first | exact id | exact hQ _ _
  · rintro σ H Q ⟨env, M, re, s, q⟩
    refine stepE h.mono re s q (fun d M1 u H1 e1 s1 re1 r1 h1 => ?_) fun _ _ _ z => z
    split at h1
    · rw [rep_v r1]
      exact ⟨_, rfl, h1 H1 e1 s1⟩
    · exact h1.elim
theorem stepO {K : PySem.W.Frag} {t : DO} (m : MonoO t) {σ : L2.St} {H : Hp} {env : DEnv} {M : Mem} {P : Option Int → Hp → Prop} {Q : Option Int → Mem → Prop} {E : DX} (re : RepE K H env σ) (s : Sim K H M) (h : t env M Q E)
    (hq : ∀ d M1 H1, Ext K H H1 → Sim K H1 M1 → RepE K H1 env σ → Q d M1 → P d H1) (he : ∀ c f M1, E c f M1 → upX K W H σ c f M1) : liftO K W t σ H P :=
  ⟨env, M, re, s, m env M _ _ _ _ (fun d M1 q H1 e1 s1 => hq d M1 H1 e1 s1 (re.mono e1) q) he h⟩
theorem x_sl : SlR X (fun x lo hi H Q => ∃ dx M, RepD X.K H dx x ∧ Sim X.K H M ∧ (opSl dx lo hi M).run M (upK X.K H Q)) := by
  rintro pins s σ H x v vl vu lo hi sl Q I rx hs pl pu ⟨dx, M, r1, sm, h⟩
  unfold opSl at h
  split at h <;> first | exact h.elim | skip
  · rename_i ds
    obtain ⟨a, us, rfl, q1, l1⟩ := rep_tup r1
    refine sl_tupA pins s σ H _ v vl vu _ _ sl Q I rx hs pl pu ⟨a, us, rfl, q1, fun hw => ?_, fun _ p hp => fin_tup h.2 sm hp (l1.cut _ _)⟩
    refine fin_rep h.2 sm ?_
    have e : cutD ds lo hi = ds := by
      unfold cutD
      rw [← l1.length, hw.1, hw.2, l1.length]
      simp
    rw [e]
    exact r1
  · rw [rep_v r1] at rx
    exact sl_str pins s σ H _ v vl vu _ _ sl Q I rx hs pl pu ⟨_, rfl, h.1, fin_val h.2 sm⟩
  · rw [rep_v r1] at rx
    split at h <;> first | exact h.elim | skip
    · rename_i hm
      obtain ⟨us, q1, l1⟩ := sm.seq (.inl hm)
      exact sl_list pins s σ H _ v vl vu _ _ sl Q I rx hs pl pu ⟨_, us, rfl, q1, fun p hp => fin_lst h.2 sm hp (l1.cut _ _)⟩
    · rename_i hm
      obtain ⟨us, q1, l1⟩ := sm.seq (.inr hm)
      exact sl_list pins s σ H _ v vl vu _ _ sl Q I rx hs pl pu ⟨_, us, rfl, q1, fun p hp => fin_lst h.2 sm hp (l1.cut _ _)⟩
theorem xe_sl (he : XE X W e te) (hl : XO X W lo tl) (hh : XO X W hi th) : XE X W (.Subscript e (.Slice lo hi none p2) pos) (dSl te tl th) := by
  refine ⟨fun env M Q Q' E E' hQ hE => he.mono env M _ _ _ _ (fun d M1 => hl.mono env M1 _ _ _ _ (fun l M2 => hh.mono env M2 _ _ _ _ (fun u M3 => Res.mono hQ) hE) hE) hE, PEw (pe_slice x_sl he.pe hl.po hh.po) ?_⟩
  rintro σ H Q ⟨env, M, re, s, h⟩
  refine stepE he.mono re s h (fun d M1 u H1 e1 s1 re1 r1 h1 => ?_) fun _ _ _ z => z
  refine stepO hl.mono re1 s1 h1 (fun l M2 H2 e2 s2 re2 h2 => ?_) (upX_mono e1)
  refine stepO hh.mono re2 s2 h2 (fun h M3 H3 e3 s3 re3 h3 => ?_) (upX_mono (e1.trans e2))
  exact ⟨d, M3, RepD.mono (e2.trans e3) _ r1, s3, Res.mono (upK_mono ((e1.trans e2).trans e3)) h3⟩
/-- xs[::-1] of a list -/
def dRev (te : DE) : DE := fun env M Q E => te env M (fun d M1 => match d with
  | .v (.ref a) => match M1 a with
    | some (.lst ds) => ∀ p, M1 p = none → Q (.ob p) (mupd M1 p (.lst ds.reverse))
    | _ => False
  | _ => False) E
theorem RepL.reverse {K : PySem.W.Frag} {H : Hp} : ∀ {ds : List D} {us : List V}, RepL K H ds us → RepL K H ds.reverse us.reverse
  | [], _, h => by unfold RepL at h; subst h; exact .nil
  | d :: ds, _, h => by
    unfold RepL at h
    obtain ⟨u, r, rfl, q, t⟩ := h
    rw [List.reverse_cons, List.reverse_cons]
    exact RepL.append (RepL.reverse t) (.cons q .nil)
theorem xe_rev {k : Nat} {p1 p2 p3 : Pos} (he : XE X W e te) : XE X W (.Subscript e (.Slice none none (some (.UnaryOp .USub (.Constant (.int 1) k p1) p2)) p3) pos) (dRev te) := by
  refine ⟨fun env M Q Q' E E' hQ hE => he.mono env M _ _ _ _ (fun d M1 => ?_) hE, PEw (pe_revL he.pe) ?_⟩
  · cases d with
    | tup _ => exact id
    | v x => cases x with
      | ref a =>
        dsimp only
        cases M1 a with
        | none => exact id
        | some o => cases o <;> first | exact id | exact fun h p hp => hQ _ _ (h p hp)
      | _ => exact id
  · rintro σ H Q ⟨env, M, re, s, h⟩
    refine stepE he.mono re s h (fun d M1 u H1 e1 s1 re1 r1 h1 => ?_) fun _ _ _ z => z
    split at h1 <;> first | exact h1.elim | skip
    split at h1 <;> first | exact h1.elim | skip
    rename_i ds hm
    obtain ⟨us, q1, l1⟩ := s1.lst hm
    rw [rep_v r1]
    exact ⟨_, us, rfl, SqL.of q1, fun p hp => fin_lst (fun p hp => upK_mono e1 _ _ (h1 p hp)) s1 hp l1.reverse⟩
end
end PL

namespace PL
open PySem PySem.Spec PyProof.Rows L2

/-! built-ins by values -/
abbrev DCall := List D → Mem → Res
def upCall (K : PySem.W.Frag) (r : DCall) : List V → Hp → VK → Prop := fun xs H Q => ∃ ds M, RepL K H ds xs ∧ Sim K H M ∧ (r ds M).run M (upK K H Q)
def dCB (r : DCall) (t : DA) : DE := fun env M Q E => t env M (fun ds M1 => (r ds M1).run M1 Q) E
theorem dCB_mono {r : DCall} {t : DA} (h : MonoA t) : MonoE (dCB r t) := fun env M Q Q' E E' hQ hE => h env M _ _ _ _ (fun ds M1 => Res.mono hQ) hE
section
variable {X : Cx} {W : WX} {x : Str} {p pos : Pos} {e : Expr} {es : List Expr} {t : DA} {id T : String} {r : DCall}
theorem cb_up (ha : XA X W es t) : ∀ σ H Q, liftE X.K W (dCB r t) σ H Q → tCB (upCall X.K r) (liftA X.K W t) σ H Q := by
  rintro σ H Q ⟨env, M, re, s, h⟩
  refine stepA ha.mono re s h (fun ds M1 us H1 e1 s1 re1 r1 h1 => ?_) fun _ _ _ z => z
  exact ⟨ds, M1, r1, s1, Res.mono (upK_mono e1) h1⟩
theorem xe_callB (hc : CallR X (.builtin id) (upCall X.K r)) (hg : Gl X x) (hm : X.mg x = none) (hv : bootBuiltins x = some (.builtin id)) (ha : XA X W (e :: es) t) (hn : x ≠ "__name__" := by decide) (hdb : (x == ("__debug__" : Str)) = false := by decide)
    (he : starEach (e :: es) X.env = (false, eval e X.env) :: starEach es X.env := by rfl) (hpl : (backTo pos (starEach es X.env)).any (·.1) = false := by rfl) : XE X W (.Call (.Name x p) (e :: es) [] pos) (dCB r t) :=
  ⟨dCB_mono ha.mono, PEw (pe_callB hc hg hm hv ha.pa hn hdb he hpl) (cb_up ha)⟩
theorem xe_callTy (hc : CallR X (.type T) (upCall X.K r)) (hg : Gl X x) (hm : X.mg x = none) (hv : bootBuiltins x = some (.type T)) (ha : XA X W (e :: es) t) (hn : x ≠ "__name__" := by decide) (hdb : (x == ("__debug__" : Str)) = false := by decide)
    (he : starEach (e :: es) X.env = (false, eval e X.env) :: starEach es X.env := by rfl) (hpl : (backTo pos (starEach es X.env)).any (·.1) = false := by rfl) : XE X W (.Call (.Name x p) (e :: es) [] pos) (dCB r t) :=
  ⟨dCB_mono ha.mono, PEw (pe_callTy hc hg hm hv ha.pa hn hdb he hpl) (cb_up ha)⟩
end
theorem rl1 {K : PySem.W.Frag} {H : Hp} {d : D} {us : List V} (h : RepL K H [d] us) : ∃ u, us = [u] ∧ RepD K H d u := by
  unfold RepL at h
  obtain ⟨u, r, rfl, q, t⟩ := h
  unfold RepL at t
  exact ⟨u, by rw [t], q⟩
theorem rl2 {K : PySem.W.Frag} {H : Hp} {d e : D} {us : List V} (h : RepL K H [d, e] us) : ∃ u v, us = [u, v] ∧ RepD K H d u ∧ RepD K H e v := by
  unfold RepL at h
  obtain ⟨u, r, rfl, q, t⟩ := h
  obtain ⟨v, rfl, q2⟩ := rl1 t
  exact ⟨u, v, rfl, q, q2⟩
def bLen : DCall
  | [.v (.str z)], _ => .val (z.length ≤ sizeLine) (.int z.length)
  | [.tup ds], _ => .val True (.int ds.length)
  | [.v (.ref a)], M => match M a with
    | some (.lst ds) => .val True (.int ds.length)
    | some (.rol ds) => .val True (.int ds.length)
    | some (.dk kvs) => .val True (.int kvs.length)
    | _ => .bad
  | _, _ => .bad
def bAbs : DCall
  | [.v (.int i)], _ => .val True (.int (if i < 0 then -i else i))
  | _, _ => .bad
def bInt : DCall
  | [.v (.int i)], _ => .val True (.int i)
  | [.v (.bl b)], _ => .val True (.int (if b then 1 else 0))
  | [.v (.str z)], _ => match intText? z with
    | some n => .val (z.length ≤ 640) (.int n)
    | none => .bad
  | _, _ => .bad
def bStr : DCall
  | [.v (.int i)], _ => .val (i.natAbs.log2 < 1920) (.str (Str.ofString (toString i)))
  | _, _ => .bad
def bOrd : DCall
  | [.v (.str z)], _ => .val (z.length = 1) (.int (z.cps.getD 0 0 : Nat))
  | _, _ => .bad
def bTuple : DCall
  | [.tup ds], _ => .val True (.tup ds)
  | [.v (.ref a)], M => match M a with
    | some (.lst ds) => .val True (.tup ds)
    | some (.rol ds) => .val True (.tup ds)
    | _ => .bad
  | _, _ => .bad
def bList : DCall
  | [.tup ds], _ => .new True (.lst ds)
  | [.v (.ref a)], M => match M a with
    | some (.lst ds) => .new True (.lst ds)
    | some (.rol ds) => .new True (.lst ds)
    | _ => .bad
  | _, _ => .bad
def bDivmod : DCall
  | [.v (.int i), .v (.int j)], _ => .val (CDivP i j) (.tup [.int (i / j), .int (i % j)])
  | _, _ => .bad
def bMax2 : DCall
  | [.v (.int i), .v (.int j)], _ => .val True (.int (if j > i then j else i))
  | _, _ => .bad
def bMin2 : DCall
  | [.v (.int i), .v (.int j)], _ => .val True (.int (if j < i then j else i))
  | _, _ => .bad
def bools : List D → Option (List Bool)
  | [] => some []
  | .v (.bl b) :: r => (bools r).map (b :: ·)
  | _ :: _ => none
theorem bools_eq : ∀ {ds : List D} {bs : List Bool}, bools ds = some bs → ds = bs.map D.bl
  | [], bs, h => by simp [bools] at h; subst h; rfl
  | .v (.bl b) :: r, bs, h => by
    simp only [bools, Option.map_eq_some_iff] at h
    obtain ⟨cs, h1, rfl⟩ := h
    rw [bools_eq h1]; rfl
  | .tup _ :: _, _, h => by simp [bools] at h
  | .v .non :: _, _, h => by simp [bools] at h
  | .v (.int _) :: _, _, h => by simp [bools] at h
  | .v (.str _) :: _, _, h => by simp [bools] at h
  | .v (.byt _) :: _, _, h => by simp [bools] at h
  | .v (.flt _) :: _, _, h => by simp [bools] at h
  | .v (.ref _) :: _, _, h => by simp [bools] at h
  | .v (.ty _) :: _, _, h => by simp [bools] at h
theorem bools_map : ∀ bs : List Bool, bools (bs.map D.bl) = some bs
  | [] => rfl
  | b :: bs => by show (bools (bs.map D.bl)).map _ = _; rw [bools_map bs]; rfl
theorem RepL.bls {K : PySem.W.Frag} {H : Hp} : ∀ {bs : List Bool} {us : List V}, RepL K H (bs.map D.bl) us → us = bs.map V.bl
  | [], _, h => by unfold RepL at h; simpa using h
  | n :: ns, _, h => by
    simp only [List.map_cons] at h; unfold RepL at h
    obtain ⟨u, r, rfl, q, t⟩ := h
    rw [RepL.bls t, rep_v q]; rfl
def bAll : DCall
  | [.v (.ref a)], M => match M a with
    | some (.lst ds) => match bools ds with
      | some bs => .val True (.bl (bs.all id))
      | none => .bad
    | _ => .bad
  | _, _ => .bad
def bAny : DCall
  | [.v (.ref a)], M => match M a with
    | some (.lst ds) => match bools ds with
      | some bs => .val True (.bl (bs.any id))
      | none => .bad
    | _ => .bad
  | _, _ => .bad
/-- the type's name of plain data, lists, dicts -/
def tyN (M : Mem) : D → Option String
  | .v .non => some "NoneType"
  | .v (.bl _) => some "bool"
  | .v (.int _) => some "int"
  | .v (.str _) => some "str"
  | .tup _ => some "tuple"
  | .v (.ref a) => match M a with
    | some (.lst _) => some "list"
    | some (.rol _) => some "list"
    | some (.dk _) => some "dict"
    | _ => none
  | _ => none
def isi (a b : String) : Bool := (a == b) || (a == "bool" && b == "int")
def bIsi : DCall
  | [d, .v (.ty n)], M => match tyN M d with
    | some a => .val (n = "tuple" ∨ n = "str" ∨ n = "int" ∨ n = "bool" ∨ n = "list") (.bl (isi a n))
    | none => .bad
  | _, _ => .bad

section
variable {X : Cx}
theorem c_len : CallR X (.builtin "len") (upCall X.K bLen) := by
  rintro pins s σ H xs us Q I r ⟨ds, M, rl, sm, h⟩
  unfold bLen at h
  split at h <;> first | exact h.elim | skip
  · obtain ⟨u, rfl, q⟩ := rl1 rl
    rw [rep_v q] at r
    exact call_len pins s σ H _ us Q I r ⟨_, _, rfl, ⟨h.1, rfl⟩, fin_val h.2 sm⟩
  · obtain ⟨u, rfl, q⟩ := rl1 rl
    obtain ⟨a, ws, rfl, q1, l1⟩ := rep_tup q
    refine call_len_seq pins s σ H _ us Q I r ⟨_, _, rfl, .inr q1, ?_⟩
    rw [l1.length]
    exact fin_val h.2 sm
  · obtain ⟨u, rfl, q⟩ := rl1 rl
    rw [rep_v q] at r
    split at h <;> first | exact h.elim | skip
    · rename_i hm
      obtain ⟨ws, q1, l1⟩ := sm.seq (.inl hm)
      refine call_len_seq pins s σ H _ us Q I r ⟨_, _, rfl, .inl q1, ?_⟩
      rw [l1.length]
      exact fin_val h.2 sm
    · rename_i hm
      obtain ⟨ws, q1, l1⟩ := sm.seq (.inr hm)
      refine call_len_seq pins s σ H _ us Q I r ⟨_, _, rfl, .inl q1, ?_⟩
      rw [l1.length]
      exact fin_val h.2 sm
    · rename_i hm
      obtain ⟨ws, q1, l1⟩ := sm _ _ hm
      obtain ⟨u', rfl, ru⟩ := vals1 r
      obtain rfl : u' = Value.ref _ := ru
      refine d_len I (.inl q1) fun t s' I' => ⟨.int _, H, I', ⟨t, rfl⟩, ?_⟩
      rw [l1.length]
      exact fin_val h.2 sm
theorem c_abs : CallR X (.builtin "abs") (upCall X.K bAbs) := by
  rintro pins s σ H xs us Q I r ⟨ds, M, rl, sm, h⟩
  unfold bAbs at h
  split at h <;> first | exact h.elim | skip
  obtain ⟨u, rfl, q⟩ := rl1 rl
  rw [rep_v q] at r
  exact call_abs pins s σ H _ us Q I r ⟨_, rfl, fin_val h.2 sm⟩
theorem c_int : CallR X (.type "int") (upCall X.K bInt) := by
  rintro pins s σ H xs us Q I r ⟨ds, M, rl, sm, h⟩
  unfold bInt at h
  split at h <;> first | exact h.elim | skip
  · obtain ⟨u, rfl, q⟩ := rl1 rl
    rw [rep_v q] at r
    exact call_int1 pins s σ H _ us Q I r (.inl ⟨_, rfl, fin_val h.2 sm⟩)
  · obtain ⟨u, rfl, q⟩ := rl1 rl
    rw [rep_v q] at r
    exact call_int1 pins s σ H _ us Q I r (.inr ⟨_, rfl, fin_val h.2 sm⟩)
  · obtain ⟨u, rfl, q⟩ := rl1 rl
    rw [rep_v q] at r
    split at h <;> first | exact h.elim | skip
    rename_i hn
    exact call_int_str pins s σ H _ us Q I r ⟨_, _, rfl, hn, h.1, fin_val h.2 sm⟩
theorem c_str : CallR X (.type "str") (upCall X.K bStr) := by
  rintro pins s σ H xs us Q I r ⟨ds, M, rl, sm, h⟩
  unfold bStr at h
  split at h <;> first | exact h.elim | skip
  obtain ⟨u, rfl, q⟩ := rl1 rl
  rw [rep_v q] at r
  exact call_str_int pins s σ H _ us Q I r ⟨_, rfl, h.1, fin_val h.2 sm⟩
theorem c_ord : CallR X (.builtin "ord") (upCall X.K bOrd) := by
  rintro pins s σ H xs us Q I r ⟨ds, M, rl, sm, h⟩
  unfold bOrd at h
  split at h <;> first | exact h.elim | skip
  obtain ⟨u, rfl, q⟩ := rl1 rl
  rw [rep_v q] at r
  exact call_ord pins s σ H _ us Q I r ⟨_, rfl, h.1, fin_val h.2 sm⟩
theorem c_tuple : CallR X (.type "tuple") (upCall X.K bTuple) := by
  rintro pins s σ H xs us Q I r ⟨ds, M, rl, sm, h⟩
  unfold bTuple at h
  split at h <;> first | exact h.elim | skip
  · obtain ⟨u, rfl, q⟩ := rl1 rl
    obtain ⟨a, ws, rfl, q1, l1⟩ := rep_tup q
    exact call_tuple_of pins s σ H _ us Q I r ⟨_, _, rfl, .inr ⟨q1, fin_rep h.2 sm q⟩⟩
  · obtain ⟨u, rfl, q⟩ := rl1 rl
    rw [rep_v q] at r
    split at h <;> first | exact h.elim | skip
    · rename_i hm
      obtain ⟨ws, q1, l1⟩ := sm.seq (.inl hm)
      exact call_tuple_of pins s σ H _ us Q I r ⟨_, _, rfl, .inl ⟨q1, fun l hl => fin_tup h.2 sm hl l1⟩⟩
    · rename_i hm
      obtain ⟨ws, q1, l1⟩ := sm.seq (.inr hm)
      exact call_tuple_of pins s σ H _ us Q I r ⟨_, _, rfl, .inl ⟨q1, fun l hl => fin_tup h.2 sm hl l1⟩⟩
theorem c_list : CallR X (.type "list") (upCall X.K bList) := by
  rintro pins s σ H xs us Q I r ⟨ds, M, rl, sm, h⟩
  unfold bList at h
  split at h <;> first | exact h.elim | skip
  · obtain ⟨u, rfl, q⟩ := rl1 rl
    obtain ⟨a, ws, rfl, q1, l1⟩ := rep_tup q
    exact call_list_of pins s σ H _ us Q I r ⟨_, _, rfl, .inr q1, fun l hl => fin_lst h.2 sm hl l1⟩
  · obtain ⟨u, rfl, q⟩ := rl1 rl
    rw [rep_v q] at r
    split at h <;> first | exact h.elim | skip
    · rename_i hm
      obtain ⟨ws, q1, l1⟩ := sm.seq (.inl hm)
      exact call_list_of pins s σ H _ us Q I r ⟨_, _, rfl, .inl q1, fun l hl => fin_lst h.2 sm hl l1⟩
    · rename_i hm
      obtain ⟨ws, q1, l1⟩ := sm.seq (.inr hm)
      exact call_list_of pins s σ H _ us Q I r ⟨_, _, rfl, .inl q1, fun l hl => fin_lst h.2 sm hl l1⟩
theorem c_divmod : CallR X (.builtin "divmod") (upCall X.K bDivmod) := by
  rintro pins s σ H xs us Q I r ⟨ds, M, rl, sm, h⟩
  unfold bDivmod at h
  split at h <;> first | exact h.elim | skip
  obtain ⟨u, v, rfl, q1, q2⟩ := rl2 rl
  rw [rep_v q1, rep_v q2] at r
  exact call_divmodW pins s σ H _ us Q I r ⟨_, _, rfl, h.1, fun p hp => fin_tup h.2 sm hp (.cons rep_of (.cons rep_of .nil))⟩
theorem c_max2 (hc : X.calm = true) : CallR X (.builtin "max") (upCall X.K bMax2) := by
  rintro pins s σ H xs us Q I r ⟨ds, M, rl, sm, h⟩
  unfold bMax2 at h
  split at h <;> first | exact h.elim | skip
  obtain ⟨u, v, rfl, q1, q2⟩ := rl2 rl
  rw [rep_v q1, rep_v q2] at r
  exact call_max2 hc pins s σ H _ us Q I r ⟨_, _, rfl, fin_val h.2 sm⟩
theorem c_min2 (hc : X.calm = true) : CallR X (.builtin "min") (upCall X.K bMin2) := by
  rintro pins s σ H xs us Q I r ⟨ds, M, rl, sm, h⟩
  unfold bMin2 at h
  split at h <;> first | exact h.elim | skip
  obtain ⟨u, v, rfl, q1, q2⟩ := rl2 rl
  rw [rep_v q1, rep_v q2] at r
  exact call_min2 hc pins s σ H _ us Q I r ⟨_, _, rfl, fin_val h.2 sm⟩
theorem c_all (hc : X.calm = true) : CallR X (.builtin "all") (upCall X.K bAll) := by
  rintro pins s σ H xs us Q I r ⟨ds, M, rl, sm, h⟩
  unfold bAll at h
  split at h <;> first | exact h.elim | skip
  split at h <;> first | exact h.elim | skip
  split at h <;> first | exact h.elim | skip
  rename_i hm _ bs hb
  obtain ⟨u, rfl, q⟩ := rl1 rl
  rw [rep_v q] at r
  obtain ⟨ws, q1, l1⟩ := sm.seq (.inl hm)
  rw [bools_eq hb] at l1
  rw [l1.bls] at q1
  exact cr_all hc pins s σ H _ us Q I r ⟨_, _, rfl, q1, fin_val h.2 sm⟩
theorem c_any (hc : X.calm = true) : CallR X (.builtin "any") (upCall X.K bAny) := by
  rintro pins s σ H xs us Q I r ⟨ds, M, rl, sm, h⟩
  unfold bAny at h
  split at h <;> first | exact h.elim | skip
  split at h <;> first | exact h.elim | skip
  split at h <;> first | exact h.elim | skip
  rename_i hm _ bs hb
  obtain ⟨u, rfl, q⟩ := rl1 rl
  rw [rep_v q] at r
  obtain ⟨ws, q1, l1⟩ := sm.seq (.inl hm)
  rw [bools_eq hb] at l1
  rw [l1.bls] at q1
  exact cr_any hc pins s σ H _ us Q I r ⟨_, _, rfl, q1, fin_val h.2 sm⟩
theorem tyN_x {K : PySem.W.Frag} {H : Hp} {M : Mem} (s : Sim K H M) {d : D} {u : V} {a : String} (r : RepD K H d u) (h : tyN M d = some a) : TyX K H u (.type a) := by
  unfold tyN at h
  split at h
  · cases h; rw [rep_v r]; exact .base .non
  · cases h; rw [rep_v r]; exact .base (.bl _)
  · cases h; rw [rep_v r]; exact .base (.int _)
  · cases h; rw [rep_v r]; exact .base (.str _)
  · cases h
    obtain ⟨b, us, rfl, q, l⟩ := rep_tup r
    rcases q with (q | ⟨o, q⟩) | ⟨o, its, n, q, c, _⟩
    · exact .base (.tup q)
    · exact .fTuple q
    · exact .kTuple q c
  · rw [rep_v r]
    split at h
    · cases h
      rename_i hm
      obtain ⟨us, e, l⟩ := s _ _ hm
      exact .base (.lst e)
    · cases h
      rename_i hm
      obtain ⟨o, us, e, l⟩ := s _ _ hm
      exact .base (.frz e)
    · cases h
      rename_i hm
      obtain ⟨us, e, l⟩ := s _ _ hm
      exact .base (.dK e)
    · cases h
  · cases h
theorem kit_isi {a n : String} (ha : a = "NoneType" ∨ a = "bool" ∨ a = "int" ∨ a = "str" ∨ a = "tuple" ∨ a = "list" ∨ a = "dict") (hn : n = "tuple" ∨ n = "str" ∨ n = "int" ∨ n = "bool" ∨ n = "list") : kitB a n = some (isi a n) := by
  rcases ha with rfl | rfl | rfl | rfl | rfl | rfl | rfl <;> rcases hn with rfl | rfl | rfl | rfl | rfl <;> decide +kernel
theorem tyN_of {M : Mem} {d : D} {a : String} (h : tyN M d = some a) : a = "NoneType" ∨ a = "bool" ∨ a = "int" ∨ a = "str" ∨ a = "tuple" ∨ a = "list" ∨ a = "dict" := by
  unfold tyN at h
  split at h <;> first | (split at h <;> (cases h <;> simp)) | (cases h <;> simp)
theorem c_isi : CallR X (.builtin "isinstance") (upCall X.K bIsi) := by
  rintro pins s σ H xs us Q I r ⟨ds, M, rl, sm, h⟩
  unfold bIsi at h
  split at h <;> first | exact h.elim | skip
  split at h <;> first | exact h.elim | skip
  rename_i d n a hb
  obtain ⟨u, v, rfl, q1, q2⟩ := rl2 rl
  rw [rep_v q2] at r
  exact call_isi pins s σ H _ us Q I r ⟨_, _, _, _, _, rfl, .ty _, tyN_x sm q1 hb, kit_ty (kit_isi (tyN_of hb) h.1), fin_val h.2 sm⟩
end

/-! methods of built-in types -/
abbrev DMeth := D → List D → Mem → Res
def upMeth (K : PySem.W.Frag) (r : DMeth) : V → List V → Hp → VK → Prop := fun x xs H Q => ∃ d ds M, RepD K H d x ∧ RepL K H ds xs ∧ Sim K H M ∧ (r d ds M).run M (upK K H Q)
def isTy (T : String) (d : D) (M : Mem) : Prop := match d with
  | .v (.str _) => T = "str"
  | .v (.ref a) => match M a with
    | some (.lst _) => T = "list"
    | some (.dk _) => T = "dict"
    | _ => False
  | _ => False
def dBM (T : String) (r : DMeth) (to : DE) (t : DA) : DE := fun env M Q E => to env M (fun x M1 => isTy T x M1 ∧ t env M1 (fun ds M2 => (r x ds M2).run M2 Q) E) E
theorem isTy_v {K : PySem.W.Frag} {H : Hp} {M : Mem} {T : String} {d : D} {u : V} (s : Sim K H M) (r : RepD K H d u) (h : isTy T d M) : tyV K T u H := by
  unfold isTy at h
  split at h
  · rw [rep_v r]; exact h
  · rw [rep_v r]
    split at h
    · rename_i hm
      obtain ⟨us, e, l⟩ := s _ _ hm
      exact .inl ⟨h, us, SqL.of e⟩
    · rename_i hm
      obtain ⟨us, e, l⟩ := s _ _ hm
      exact .inr (.inr (.inl ⟨h, .inl ⟨us, e⟩⟩))
    · exact h.elim
  · exact h.elim
section
variable {X : Cx} {W : WX} {o e : Expr} {es : List Expr} {name : Str} {apos cpos : Pos} {to : DE} {t : DA} {T id : String} {r : DMeth}
theorem xe_bm (pa : PlainAttrs T) (slot : Slot T name id) (hty : typeOf (.builtin id) = pure (.type "method_descriptor")) (hm : MtR X id (upMeth X.K r)) (ho : XE X W o to) (ha : XA X W (e :: es) t)
    (hbase : attributeBase o name X.env (eval o X.env) = eval o X.env := by rfl)
    (hfew : ((backTo cpos (starEach (e :: es) X.env)).all (fun x => !x.1) && (backToKw cpos (keywordEach [] X.env)).all (fun x => x.1.isSome)
      && decide ((e :: es).length + ([] : List Keyword).length + (if ([] : List Keyword).isEmpty then 0 else 1) < 30)) = true := by rfl)
    (hline : (apos.endLine == cpos.line) = true := by rfl) (hs : starEach (e :: es) X.env = (false, eval e X.env) :: starEach es X.env := by rfl) (hplain : (backTo cpos (starEach es X.env)).any (·.1) = false := by rfl) :
    XE X W (.Call (.Attribute o name apos) (e :: es) [] cpos) (dBM T r to t) := by
  refine ⟨fun env M Q Q' E E' hQ hE => ho.mono env M _ _ _ _ (fun d M1 h => ⟨h.1, ha.mono env M1 _ _ _ _ (fun ds M2 => Res.mono hQ) hE h.2⟩) hE, PEw (pe_bm pa slot hty hm ho.pe ha.pa hbase hfew hline hs hplain) ?_⟩
  rintro σ H Q ⟨env, M, re, s, h⟩
  refine stepE ho.mono re s h (fun d M1 u H1 e1 s1 re1 r1 h1 => ⟨isTy_v s1 r1 h1.1, ?_⟩) fun _ _ _ z => z
  refine stepA ha.mono re1 s1 h1.2 (fun ds M2 us H2 e2 s2 re2 r2 h2 => ?_) (upX_mono e1)
  exact ⟨d, ds, M2, RepD.mono e2 _ r1, r2, s2, Res.mono (upK_mono (e1.trans e2)) h2⟩
theorem xe_bm0 (pa : PlainAttrs T) (slot : Slot T name id) (hty : typeOf (.builtin id) = pure (.type "method_descriptor")) (hm : MtR X id (upMeth X.K r)) (ho : XE X W o to)
    (hbase : attributeBase o name X.env (eval o X.env) = eval o X.env := by rfl) (hline : (apos.endLine == cpos.line) = true := by rfl) :
    XE X W (.Call (.Attribute o name apos) [] [] cpos) (dBM T r to dNil) := by
  refine ⟨fun env M Q Q' E E' hQ hE => ho.mono env M _ _ _ _ (fun d M1 h => ⟨h.1, Res.mono hQ h.2⟩) hE, PEw (pe_bm0 pa slot hty hm ho.pe hbase hline) ?_⟩
  rintro σ H Q ⟨env, M, re, s, h⟩
  refine stepE ho.mono re s h (fun d M1 u H1 e1 s1 re1 r1 h1 => ⟨isTy_v s1 r1 h1.1, ?_⟩) fun _ _ _ z => z
  exact ⟨d, [], M1, r1, .nil, s1, Res.mono (upK_mono e1) h1.2⟩
end
def mAppend : DMeth
  | .v (.ref a), [d], M => match M a with
    | some (.lst ds) => .put (ds.length < sizeLine) a (.lst (ds ++ [d])) .non
    | _ => .bad
  | _, _, _ => .bad
def mExtend : DMeth
  | .v (.ref a), [.v (.ref b)], M => match M a, M b with
    | some (.lst ds), some (.lst es) => .put (ds.length + es.length ≤ sizeLine) a (.lst (ds ++ es)) .non
    | _, _ => .bad
  | _, _, _ => .bad
def mPop : DMeth
  | .v (.ref a), [], M => match M a with
    | some (.lst ds) => match ds[ds.length - 1]? with
      | some d => .put True a (.lst ds.dropLast) d
      | none => .bad
    | _ => .bad
  | _, _, _ => .bad
def strsOf : List D → Option (List Str)
  | [] => some []
  | .v (.str b) :: r => (strsOf r).map (b :: ·)
  | _ :: _ => none
theorem strsOf_eq : ∀ {ds : List D} {bs : List Str}, strsOf ds = some bs → ds = bs.map D.str
  | [], bs, h => by simp [strsOf] at h; subst h; rfl
  | .v (.str b) :: r, bs, h => by
    simp only [strsOf, Option.map_eq_some_iff] at h
    obtain ⟨cs, h1, rfl⟩ := h
    rw [strsOf_eq h1]; rfl
  | .tup _ :: _, _, h => by simp [strsOf] at h
  | .v .non :: _, _, h => by simp [strsOf] at h
  | .v (.int _) :: _, _, h => by simp [strsOf] at h
  | .v (.bl _) :: _, _, h => by simp [strsOf] at h
  | .v (.byt _) :: _, _, h => by simp [strsOf] at h
  | .v (.flt _) :: _, _, h => by simp [strsOf] at h
  | .v (.ref _) :: _, _, h => by simp [strsOf] at h
  | .v (.ty _) :: _, _, h => by simp [strsOf] at h
theorem strsOf_map : ∀ bs : List Str, strsOf (bs.map D.str) = some bs
  | [] => rfl
  | b :: bs => by show (strsOf (bs.map D.str)).map _ = _; rw [strsOf_map bs]; rfl
theorem RepL.strs {K : PySem.W.Frag} {H : Hp} : ∀ {bs : List Str} {us : List V}, RepL K H (bs.map D.str) us → us = bs.map V.str
  | [], _, h => by unfold RepL at h; simpa using h
  | n :: ns, _, h => by
    simp only [List.map_cons] at h; unfold RepL at h
    obtain ⟨u, r, rfl, q, t⟩ := h
    rw [RepL.strs t, rep_v q]; rfl
theorem RepL.of_strs {K : PySem.W.Frag} {H : Hp} : ∀ {ns : List Str}, RepL K H (ns.map D.str) (ns.map V.str)
  | [] => .nil
  | n :: ns => .cons rep_of RepL.of_strs
theorem RepL.dropLast {K : PySem.W.Frag} {H : Hp} {ds : List D} {us : List V} (h : RepL K H ds us) : RepL K H ds.dropLast us.dropLast := by
  rw [List.dropLast_eq_take, List.dropLast_eq_take, h.length]
  exact h.take _
section
variable {X : Cx}
theorem m_append : MtR X "list.append" (upMeth X.K mAppend) := by
  rintro pins s σ H x xs v us Q I rx rxs ⟨d, ds, M, r1, rl, sm, h⟩
  unfold mAppend at h
  split at h <;> first | exact h.elim | skip
  split at h <;> first | exact h.elim | skip
  rename_i hm
  obtain ⟨u, rfl, q⟩ := rl1 rl
  rw [rep_v r1] at rx
  obtain ⟨ws, e1, l1⟩ := sm.lst hm
  exact mt_append pins s σ H _ _ v us Q I rx rxs ⟨_, ws, u, rfl, rfl, e1, by rw [l1.length]; exact h.1,
    fin_put h.2 sm e1 True.intro (repO_lst (Ext.mut e1 True.intro) (RepL.append l1 (.cons q .nil))) rep_of⟩
theorem m_extend : MtR X "list.extend" (upMeth X.K mExtend) := by
  rintro pins s σ H x xs v us Q I rx rxs ⟨d, ds, M, r1, rl, sm, h⟩
  unfold mExtend at h
  split at h <;> first | exact h.elim | skip
  split at h <;> first | exact h.elim | skip
  rename_i hm1 hm2
  obtain ⟨u, rfl, q⟩ := rl1 rl
  rw [rep_v r1] at rx
  rw [rep_v q] at rxs
  obtain ⟨ws, e1, l1⟩ := sm.lst hm1
  obtain ⟨zs, e2, l2⟩ := sm.lst hm2
  exact mt_extend pins s σ H _ _ v us Q I rx rxs ⟨_, _, ws, zs, rfl, rfl, e1, e2, by rw [l1.length, l2.length]; exact h.1,
    fin_put h.2 sm e1 True.intro (repO_lst (Ext.mut e1 True.intro) (RepL.append l1 l2)) rep_of⟩
theorem m_pop : MtR X "list.pop" (upMeth X.K mPop) := by
  rintro pins s σ H x xs v us Q I rx rxs ⟨d, ds, M, r1, rl, sm, h⟩
  unfold mPop at h
  split at h <;> first | exact h.elim | skip
  split at h <;> first | exact h.elim | skip
  split at h <;> first | exact h.elim | skip
  rename_i hm _ d' hd
  unfold RepL at rl
  subst rl
  rw [rep_v r1] at rx
  obtain ⟨ws, e1, l1⟩ := sm.lst hm
  obtain ⟨w', h1, h2⟩ := l1.get hd
  exact mt_pop pins s σ H _ _ v us Q I rx rxs ⟨_, ws, w', rfl, rfl, e1, by rw [l1.length]; exact h1,
    fin_put h.2 sm e1 True.intro (repO_lst (Ext.mut e1 True.intro) l1.dropLast) h2⟩
end
end PL

namespace PL
open PySem PySem.Spec PyProof.Rows L2

/-! promises -/
abbrev DSp := List D → Mem → DK → DX → Prop
def MonoSp (sp : DSp) : Prop := ∀ ds M (Q Q' : DK) (E E' : DX), (∀ d M, Q d M → Q' d M) → (∀ c f M, E c f M → E' c f M) → sp ds M Q E → sp ds M Q' E'
def upXK (K : PySem.W.Frag) (H : Hp) (E : XK) : DX := fun c fs M' => ∀ d H', Ext K H H' → Sim K H' M' → RepX K H' d fs → E c d H'
def liftSp (K : PySem.W.Frag) (sp : DSp) : Sp := fun vs H Q E => ∃ ds M, RepL K H ds vs ∧ Sim K H M ∧ sp ds M (upK K H Q) (upXK K H E)
structure Fn (P : Program) (w : World) (K : PySem.W.Frag) (mg : Str → Option Value) (base : Heap) (k : Nat) (x : Str) (sp : DSp) (dvs : List D) : Prop where
  mono : MonoSp sp
  ex : ∃ (f : Addr) (fd : FuncData) (ps : List Str) (ds : List Value) (vds : List V), FnOk P w K mg base (L2.CX P w) k f fd ps (liftSp K sp) ∧ mg x = some (.ref f) ∧ PySem.W.keepIn K (.ref f) = true ∧ Binds K fd ps ds ∧ Vals vds ds ∧ ∀ H, RepL K H dvs vds
theorem Fn.up {P : Program} {w : World} {K : PySem.W.Frag} {mg : Str → Option Value} {base : Heap} {j k : Nat} {x : Str} {sp : DSp} {dvs : List D} (F : Fn P w K mg base j x sp dvs) (h : j ≤ k) : Fn P w K mg base k x sp dvs := by
  obtain ⟨m, f, fd, ps, ds, vds, F, r⟩ := F
  exact ⟨m, f, fd, ps, ds, vds, F.mono h, r⟩
def dCall (sp : DSp) (dvs : List D) (t : DA) : DE := fun env M Q E => t env M (fun ds M1 => sp (ds ++ dvs) M1 Q E) E
theorem dCall_mono {sp : DSp} {dvs : List D} {t : DA} (hs : MonoSp sp) (h : MonoA t) : MonoE (dCall sp dvs t) := fun env M Q Q' E E' hQ hE => h env M _ _ _ _ (fun ds M1 => hs _ _ _ _ _ _ hQ hE) hE
theorem upXK_mono {K : PySem.W.Frag} {H H1 : Hp} {E : XK} (e : Ext K H H1) : ∀ c f M1, upXK K H E c f M1 → upXK K H1 E c f M1 := fun c f M1 q d H' e' s r => q d H' (e.trans e') s r
section
variable {X : Cx} {W : WX} {k : Nat} {x : Str} {sp : DSp} {dvs : List D} {e : Expr} {es : List Expr} {t : DA} {p pos : Pos}
theorem xe_call (F : Fn X.prog X.w X.K X.mg X.base k x sp dvs) (hr : Room k X.A) (tk : Takes X W) (hg : Gl X x) (ha : XA X W (e :: es) t) (hdb : (x == ("__debug__" : Str)) = false := by decide)
    (he : starEach (e :: es) X.env = (false, eval e X.env) :: starEach es X.env := by rfl) (hpl : (backTo pos (starEach es X.env)).any (·.1) = false := by rfl) : XE X W (.Call (.Name x p) (e :: es) [] pos) (dCall sp dvs t) := by
  obtain ⟨m, f, fd, ps, ds, vds, F, hm, hk, hb, hd, rd⟩ := F
  refine ⟨dCall_mono m ha.mono, PEw (pe_callSD (E := WE W) F hr hg hm hk hb hd (passAt tk) ha.pa hdb he hpl) ?_⟩
  rintro σ H Q ⟨env, M, re, s, h⟩
  refine stepA ha.mono re s h (fun as M1 us H1 e1 s1 re1 r1 h1 => ?_) fun _ _ _ z => z
  exact ⟨as ++ dvs, M1, RepL.append r1 (rd H1), s1, m _ _ _ _ _ _ (upK_mono e1) (upX_mono e1) h1⟩
theorem xe_call0 (F : Fn X.prog X.w X.K X.mg X.base k x sp dvs) (hr : Room k X.A) (tk : Takes X W) (hg : Gl X x) (hdb : (x == ("__debug__" : Str)) = false := by decide) : XE X W (.Call (.Name x p) [] [] pos) (dCall sp dvs dNil) := by
  obtain ⟨m, f, fd, ps, ds, vds, F, hm, hk, hb, hd, rd⟩ := F
  refine ⟨dCall_mono m (fun _ _ _ _ _ _ hQ _ h => hQ _ _ h), ⟨fun pins s σ H Q I h => ?_⟩⟩
  obtain ⟨env, M, re, sm, h⟩ := h
  refine wpAny_Call_Name_kw (ld_glob I hg hm ?_ hdb)
  exact PySem.W.callWith_K0 I.kIn hk (run_fnSD (E := WE W) (us := []) F hr hb hd (passAt tk σ) I .nil ⟨dvs, M, rd H, sm, h⟩)
/-- a local name that holds a def -/
def dCallL (i : Nat) (S : Addr → Option DSp) (t : DA) : DE := fun env M Q E => match env[i]? with
  | some (some (.v (.ref f))) => match S f with
    | some sp => t env M (fun ds M1 => sp ds M1 Q E) E
    | none => False
  | _ => False
theorem xe_callL {i : Nat} {S : Addr → Option DSp} (A : ∀ f sp, S f = some sp → MonoSp sp ∧ ∃ (fd : FuncData) (ps : List Str), FnOk X.prog X.w X.K X.mg X.base (L2.CX X.prog X.w) k f fd ps (liftSp X.K sp) ∧ PySem.W.keepIn X.K (.ref f) = true ∧ Binds X.K fd ps [])
    (hr : Room k X.A) (tk : Takes X W) (hN : X.N[i]? = some x) (hv : Vis X.env.scope x) (ha : XA X W (e :: es) t) (hdb : (x == ("__debug__" : Str)) = false := by decide) (hcd : (x == ("__classdict__" : Str)) = false := by decide)
    (he : starEach (e :: es) X.env = (false, eval e X.env) :: starEach es X.env := by rfl) (hpl : (backTo pos (starEach es X.env)).any (·.1) = false := by rfl) : XE X W (.Call (.Name x p) (e :: es) [] pos) (dCallL i S t) := by
  refine ⟨fun env M Q Q' E E' hQ hE h => ?_, ⟨fun pins s σ H Q I h => ?_⟩⟩
  · unfold dCallL at h ⊢
    split at h <;> first | exact h.elim | skip
    split at h <;> first | exact h.elim | skip
    rename_i f _ _ sp hS
    exact ha.mono env M _ _ _ _ (fun ds M1 => (A f sp hS).1 _ _ _ _ _ _ hQ hE) hE h
  · obtain ⟨env, M, re, sm, h⟩ := h
    unfold dCallL at h
    split at h <;> first | exact h.elim | skip
    rename_i f hi
    split at h <;> first | exact h.elim | skip
    rename_i sp hS
    obtain ⟨m, fd, ps, F, hk, hb⟩ := A f sp hS
    obtain ⟨u, h1, h2⟩ := re.2 i _ hi
    have eu := rep_v h2
    subst eu
    refine wpAny_Call_Name_kw (thn ((pe_var (pos := p) hN hv hdb hcd).run pins s σ H (fun v H1 => v = .ref f ∧ H1 = H) I ⟨.ref f, h1, rfl, rfl⟩) fun u s1 ⟨v, H1, I1, r1, q1⟩ => ?_)
    obtain ⟨rfl, rfl⟩ := q1
    cases r1
    have q : liftA X.K W t σ H1 fun vs H2 => liftSp X.K sp (vs ++ []) H2 Q (WE W σ) := stepA ha.mono re sm h (fun as M1 us H2 e1 s2 re1 r2 h3 => by
      rw [List.append_nil]
      exact ⟨as, M1, r2, s2, m _ _ _ _ _ _ (upK_mono e1) (upX_mono e1) h3⟩) fun _ _ _ z => z
    refine PySem.W.callWith_K (h₀ := X.base) I.ok.mod.kin hk (thn (ha.pa.run pos pins s1 σ _ _ I1 q) fun us s2 ⟨vs, H2, I2, r, q2⟩ => ⟨I2.kIn, ?_⟩) he hpl
    exact run_fnSD (E := WE W) F hr hb .nil (passAt tk σ) I2 r q2
end

/-! patterns of targets -/
inductive Pat where
  | nm (i : Nat)
  | tp (ps : List Pat)
def seqOf (M : Mem) : D → Option (List D)
  | .tup ds => some ds
  | .v (.ref a) => match M a with
    | some (.lst ds) => some ds
    | _ => none
  | _ => none
mutual
def Pat.bind (M : Mem) : Pat → D → DEnv → Option DEnv
  | .nm i, d, env => some (env.set i (some d))
  | .tp ps, d, env => match seqOf M d with
    | some ds => bindL M ps ds env
    | none => none
def bindL (M : Mem) : List Pat → List D → DEnv → Option DEnv
  | [], [], env => some env
  | p :: ps, d :: ds, env => match p.bind M d env with
    | some env1 => bindL M ps ds env1
    | none => none
  | _, _, _ => none
end
mutual
def Pat.tg (K : PySem.W.Frag) : Pat → TG
  | .nm i => gName i
  | .tp ps => fun v σ H Q => gTup K ps.length (tgs K ps) v σ H Q ∨ gLst K ps.length (tgs K ps) v σ H Q
def tgs (K : PySem.W.Frag) : List Pat → TGs
  | [] => gNil
  | p :: ps => gCons (p.tg K) (tgs K ps)
end
mutual
def Pat.slots : Pat → List Nat
  | .nm i => [i]
  | .tp ps => slotsL ps
def slotsL : List Pat → List Nat
  | [] => []
  | p :: ps => p.slots ++ slotsL ps
end
theorem wipe_set {i : Nat} {x : V} : ∀ {vs : List Nat} {σ : L2.St}, i ∈ vs → wipe (σ.set i (some x)) vs = wipe σ vs
  | v :: vs, σ, h => by
    show (wipe (σ.set i (some x)) vs).set v none = (wipe σ vs).set v none
    by_cases hm : i ∈ vs
    · rw [wipe_set hm]
    · have e : i = v := by
        rcases List.mem_cons.mp h with e | e
        · exact e
        · exact absurd e hm
      subst e
      have comm : ∀ (vs : List Nat) (σ : L2.St), i ∉ vs → wipe (σ.set i (some x)) vs = (wipe σ vs).set i (some x) := by
        intro vs
        induction vs with
        | nil => intro σ _; rfl
        | cons w ws ih =>
          intro σ hn
          show (wipe (σ.set i (some x)) ws).set w none = ((wipe σ ws).set w none).set i (some x)
          rw [ih σ (fun z => hn (List.mem_cons_of_mem _ z)), List.set_comm _ _ (fun z => hn (by rw [z]; exact List.mem_cons_self))]
      rw [comm vs σ hm, List.set_set]
mutual
theorem Pat.rep {K : PySem.W.Frag} {H : Hp} {M : Mem} (s : Sim K H M) (vs : List Nat) : ∀ (p : Pat) {d : D} {v : V} {env env' : DEnv} {σ : L2.St}, RepD K H d v → RepE K H env σ → p.bind M d env = some env' → (∀ i ∈ p.slots, i ∈ vs) →
    ∃ σ', RepE K H env' σ' ∧ wipe σ' vs = wipe σ vs ∧ ∀ Q : L2.St → Hp → Prop, Q σ' H → p.tg K v σ H Q
  | .nm i, d, v, env, env', σ, r, re, h, hs => by
    simp only [Pat.bind, Option.some.injEq] at h
    subst h
    exact ⟨σ.set i (some v), re.set r i, wipe_set (hs i (by simp [Pat.slots])), fun Q q => q⟩
  | .tp ps, d, v, env, env', σ, r, re, h, hs => by
    unfold Pat.bind at h
    split at h
    · rename_i ds hd
      unfold seqOf at hd
      split at hd
      · cases hd
        obtain ⟨a, us, rfl, q, l⟩ := rep_tup r
        obtain ⟨σ', h1, h2, h3⟩ := Pat.repL s vs ps l re h (by simpa [Pat.slots] using hs)
        refine ⟨σ', h1, h2, fun Q q' => .inl ⟨a, us, rfl, q, ?_, h3.2 Q q'⟩⟩
        exact h3.1
      · split at hd <;> cases hd
        rename_i hm
        obtain ⟨us, e, l⟩ := s.lst hm
        rw [rep_v r]
        obtain ⟨σ', h1, h2, h3⟩ := Pat.repL s vs ps l re h (by simpa [Pat.slots] using hs)
        exact ⟨σ', h1, h2, fun Q q' => .inr ⟨_, us, rfl, SqL.of e, h3.1, h3.2 Q q'⟩⟩
      · cases hd
    · cases h
theorem Pat.repL {K : PySem.W.Frag} {H : Hp} {M : Mem} (s : Sim K H M) (vs : List Nat) : ∀ (ps : List Pat) {ds : List D} {us : List V} {env env' : DEnv} {σ : L2.St}, RepL K H ds us → RepE K H env σ → bindL M ps ds env = some env' → (∀ i ∈ slotsL ps, i ∈ vs) →
    ∃ σ', RepE K H env' σ' ∧ wipe σ' vs = wipe σ vs ∧ us.length = ps.length ∧ ∀ Q : L2.St → Hp → Prop, Q σ' H → tgs K ps us σ H Q
  | [], [], us, env, env', σ, r, re, h, hs => by
    simp only [bindL, Option.some.injEq] at h
    subst h
    unfold RepL at r
    subst r
    exact ⟨σ, re, rfl, rfl, fun Q q => ⟨rfl, q⟩⟩
  | p :: ps, d :: ds, us, env, env', σ, r, re, h, hs => by
    unfold bindL at h
    split at h
    · rename_i env1 hb
      unfold RepL at r
      obtain ⟨u, t, rfl, q, l⟩ := r
      obtain ⟨σ1, h1, h2, h3⟩ := Pat.rep s vs p q re hb (fun i hi => hs i (by simp [slotsL, hi]))
      obtain ⟨σ2, g1, g2, g3, g4⟩ := Pat.repL s vs ps l h1 h (fun i hi => hs i (by simp [slotsL, hi]))
      exact ⟨σ2, g1, g2.trans h2, by simp [g3], fun Q q' => ⟨u, t, rfl, h3 _ (g4 Q q')⟩⟩
    · cases h
  | [], _ :: _, _, _, _, _, _, _, h, _ => by simp [bindL] at h
  | _ :: _, [], _, _, _, _, _, _, h, _ => by simp [bindL] at h
end
section
variable {X : Cx} {pos : Pos}
theorem xg_name (i : Nat) {x : Str} (hN : X.N.Nodup) (hi : X.N[i]? = some x := by rfl) (hx : Loc X.env.scope x := by first | exact .inl rfl | exact .inr rfl) (hf : X.fn x = true ∨ X.env.scope.names.lookup x = some .local := by first | exact .inl rfl | exact .inr rfl) : PG X (.Name x pos) ((Pat.nm i).tg X.K) := by
  unfold Pat.tg
  exact pg_name hN hi hx hf
theorem xgs_nil : PGs X [] (tgs X.K []) := by unfold tgs; exact pgs_nil
theorem xgs_cons {e : Expr} {es : List Expr} {p : Pat} {ps : List Pat} (h1 : PG X e (p.tg X.K)) (h2 : PGs X es (tgs X.K ps)) (hs : (assignEach (e :: es) X.env).map (·.2) = assign e X.env :: (assignEach es X.env).map (·.2) := by rfl) : PGs X (e :: es) (tgs X.K (p :: ps)) := by
  unfold tgs
  exact pgs_cons h1 h2 hs
theorem xg_tup {es : List Expr} {k : Nat} {ps : List Pat} (hc : X.calm = true) (h : PGs X es (tgs X.K ps)) (hn : (assignEach es X.env).length = ps.length := by rfl) (hst : (assignEach es X.env).findIdx? (·.1) = none := by rfl) : PG X (.Tuple es k pos) ((Pat.tp ps).tg X.K) := by
  unfold Pat.tg
  refine ⟨fun pins s σ H v u Q I r hw => ?_⟩
  rcases hw with hw | hw
  · exact (pg_tup hc h hn hst).run pins s σ H v u Q I r hw
  · exact (pg_lst hc h hn hst).run pins s σ H v u Q I r hw
end

/-! statements -/
def dNext : DS := fun D env M => D.nx env M
def dSeq (t u : DS) : DS := fun D env M => t { D with nx := u D } env M
def dDrop (te : DE) : DS := fun D env M => te env M (fun _ M1 => D.nx env M1) (fun c f M1 => D.ex c f env M1)
def dRet (te : DE) : DS := fun D env M => te env M D.rt (fun c f M1 => D.ex c f env M1)
def dRetN : DS := fun D env M => D.rt .non M
def dIfS (tc : DT) (t u : DS) : DS := fun D env M => tc env M (fun b M1 => if b = true then t D env M1 else u D env M1) (fun c f M1 => D.ex c f env M1)
def dAsg (te : DE) (p : Pat) : DS := fun D env M => te env M (fun d M1 => match p.bind M1 d env with
  | some env1 => D.nx env1 M1
  | none => False) (fun c f M1 => D.ex c f env M1)
def dBrk : DS := fun D env M => D.bk env M
def dCont : DS := fun D env M => D.ct env M
theorem ends_ex {K : PySem.W.Frag} {W : WX} {H : Hp} {D : Ends} {env : DEnv} {σ : L2.St} (re : RepE K H env σ) : ∀ c f M1, (upEnds K W H D).ex c f env M1 → upX K W H σ c f M1 := fun c f M1 q d H' e s r => q d σ H' e s (re.mono e) r
theorem upN_mono {K : PySem.W.Frag} {H H1 : Hp} {Q : L2.St → Hp → Prop} (e : Ext K H H1) : ∀ env M1, upN K H Q env M1 → upN K H1 Q env M1 := fun c M1 q σ' H' e' s r => q σ' H' (e.trans e') s r
theorem upEnds_le {K : PySem.W.Frag} {W : WX} {H H1 : Hp} {D : Ends} (e : Ext K H H1) : (upEnds K W H D).Le (upEnds K W H1 D) :=
  ⟨upN_mono e, upK_mono e, upN_mono e, upN_mono e, fun c f env M1 q d σ' H' e' s r x => q d σ' H' (e.trans e') s r x⟩
theorem DEnds.Le.refl {D : DEnds} : D.Le D := ⟨fun _ _ h => h, fun _ _ h => h, fun _ _ h => h, fun _ _ h => h, fun _ _ _ _ h => h⟩
section
variable {X : Cx} {W : WX} {st : Stmt} {rest : List Stmt} {t u : DS} {e c : Expr} {te : DE} {tc : DT} {pos : Pos}
theorem xss_nil : XSs X W [] dNext := by
  refine ⟨fun D D' env M l h => l.nx _ _ h, PSsw pss_nil ?_⟩
  rintro D σ H ⟨env, M, re, s, h⟩
  exact h σ H Ext.refl s re
theorem dSeq_mono {t u : DS} (ht : MonoS t) (hu : MonoS u) : MonoS (dSeq t u) := fun D D' env M l => ht _ _ _ _ ⟨fun e M => hu _ _ _ _ l, l.rt, l.bk, l.ct, l.ex⟩
theorem xss_cons (h1 : XS X W st t) (h2 : XSs X W rest u) : XSs X W (st :: rest) (dSeq t u) := by
  refine ⟨dSeq_mono h1.mono h2.mono, PSsw (pss_cons h1.ps h2.ps) ?_⟩
  rintro D σ H ⟨env, M, re, s, h⟩
  refine ⟨env, M, re, s, h1.mono { upEnds X.K W H D with nx := u (upEnds X.K W H D) } _ _ _ ⟨fun env1 M1 q σ1 H1 e1 s1 re1 => ?_, fun _ _ q => q, fun _ _ q => q, fun _ _ q => q, fun _ _ _ _ q => q⟩ h⟩
  exact ⟨env1, M1, re1, s1, h2.mono _ _ _ _ (upEnds_le e1) q⟩
theorem xss_one (h1 : XS X W st t) : XSs X W [st] t := ⟨h1.mono, pss_one h1.ps⟩
theorem xs_pass : XS X W (.Pass pos) dNext := by
  refine ⟨fun D D' env M l h => l.nx _ _ h, PSw ps_pass ?_⟩
  rintro D σ H ⟨env, M, re, s, h⟩
  exact h σ H Ext.refl s re
theorem xs_break : XS X W (.Break pos) dBrk := by
  refine ⟨fun D D' env M l h => l.bk _ _ h, PSw ps_break ?_⟩
  rintro D σ H ⟨env, M, re, s, h⟩
  exact h σ H Ext.refl s re
theorem xs_continue : XS X W (.Continue pos) dCont := by
  refine ⟨fun D D' env M l h => l.ct _ _ h, PSw ps_continue ?_⟩
  rintro D σ H ⟨env, M, re, s, h⟩
  exact h σ H Ext.refl s re
theorem xs_expr (he : XE X W e te) (hs : swapsWith e none pos.line X.env = pure false := by rfl) : XS X W (.Expr e pos) (dDrop te) := by
  refine ⟨fun D D' env M l h => he.mono _ _ _ _ _ _ (fun _ M1 => l.nx _ M1) (fun c f M1 => l.ex c f _ M1) h, PSw (ps_expr he.pe hs) ?_⟩
  rintro D σ H ⟨env, M, re, s, h⟩
  exact stepE he.mono re s h (fun d M1 u H1 e1 s1 re1 r1 q => q σ H1 e1 s1 re1) (ends_ex re)
theorem xs_ret (he : XE X W e te) : XS X W (.Return (some e) pos) (dRet te) := by
  refine ⟨fun D D' env M l h => he.mono _ _ _ _ _ _ (fun d M1 => l.rt d M1) (fun c f M1 => l.ex c f _ M1) h, PSw (ps_ret he.pe) ?_⟩
  rintro D σ H ⟨env, M, re, s, h⟩
  exact stepE he.mono re s h (fun d M1 u H1 e1 s1 re1 r1 q => q u H1 e1 s1 r1) (ends_ex re)
theorem xs_retN : XS X W (.Return none pos) dRetN := by
  refine ⟨fun D D' env M l h => l.rt _ _ h, PSw ps_retN ?_⟩
  rintro D σ H ⟨env, M, re, s, h⟩
  exact h .non H Ext.refl s rep_of
theorem xs_if {a b : List Stmt} (hc : XT X W c tc) (ha : XSs X W a t) (hb : XSs X W b u) : XS X W (.If c a b pos) (dIfS tc t u) := by
  refine ⟨fun D D' env M l h => hc.mono _ _ _ _ _ _ (fun b M1 => ?_) (fun c f M1 => l.ex c f _ M1) h, PSw (ps_if hc.pt ha.ps hb.ps) ?_⟩
  · cases b with
    | true => rw [if_pos rfl, if_pos rfl]; exact ha.mono _ _ _ _ l
    | false => rw [if_neg Bool.false_ne_true, if_neg Bool.false_ne_true]; exact hb.mono _ _ _ _ l
  · rintro D σ H ⟨env, M, re, s, h⟩
    refine stepT hc.mono re s h (fun b M1 H1 e1 s1 re1 q => ?_) (ends_ex re)
    cases b with
    | true =>
      rw [if_pos rfl] at q ⊢
      exact ⟨env, M1, re1, s1, ha.mono _ _ _ _ (upEnds_le e1) q⟩
    | false =>
      rw [if_neg Bool.false_ne_true] at q ⊢
      exact ⟨env, M1, re1, s1, hb.mono _ _ _ _ (upEnds_le e1) q⟩
theorem bind_mono {p : Pat} {M1 : Mem} {d : D} {env : DEnv} {N N' : DEnv → Mem → Prop} (h : ∀ e M, N e M → N' e M) : (match p.bind M1 d env with | some env1 => N env1 M1 | none => False) → (match p.bind M1 d env with | some env1 => N' env1 M1 | none => False) := by
  cases p.bind M1 d env with
  | none => exact id
  | some e => exact h e M1
theorem asg_up (he : XE X W e te) (p : Pat) : ∀ D σ H, liftS X.K W (dAsg te p) D σ H → tAsg (liftE X.K W te) (p.tg X.K) D σ H := by
  rintro D σ H ⟨env, M, re, s, h⟩
  refine stepE he.mono re s h (fun d M1 u H1 e1 s1 re1 r1 q => ?_) (ends_ex re)
  split at q
  · rename_i env1 hb
    obtain ⟨σ', h1, _, h3⟩ := Pat.rep s1 p.slots p r1 re1 hb (fun _ h => h)
    exact h3 _ (q σ' H1 e1 s1 h1)
  · exact q.elim
theorem dAsg_mono (he : MonoE te) {p : Pat} : MonoS (dAsg te p) := fun D D' env M l h => he _ _ _ _ _ _ (fun d M1 => bind_mono l.nx) (fun c f M1 => l.ex c f _ M1) h
theorem xs_asg {tg : Expr} {p : Pat} (he : XE X W e te) (hg : PG X tg (p.tg X.K)) (hs : swapsWithSole [tg] e pos.line X.env = pure false := by rfl) (hw : swappedStores [tg] e X.env = pure none := by rfl)
    (h1 : (assignEach [tg] X.env).map (·.2) = [assign tg X.env] := by rfl) : XS X W (.Assign [tg] e pos) (dAsg te p) := ⟨dAsg_mono he.mono, PSw (ps_asg he.pe hg hs hw h1) (asg_up he p)⟩
theorem xs_set (i : Nat) {x : Str} {pos' : Pos} (hN : X.N.Nodup) (he : XE X W e te) (hi : X.N[i]? = some x := by rfl) (hx : Loc X.env.scope x := by first | exact .inl rfl | exact .inr rfl)
    (hs : swapsWith e (some (.Name x pos')) pos.line X.env = pure false := by rfl) (hf : X.fn x = true ∨ X.env.scope.names.lookup x = some .local := by first | exact .inl rfl | exact .inr rfl) : XS X W (.Assign [.Name x pos'] e pos) (dAsg te (.nm i)) := by
  refine ⟨dAsg_mono he.mono, PSw (ps_set hN hi hx he.pe hs hf) fun D σ H h => ?_⟩
  have := asg_up he (.nm i) D σ H h
  unfold Pat.tg at this
  exact this
/-- x op= e -/
def dAug (i : Nat) (r : DOp2) (te : DE) : DS := fun D env M => match env[i]? with
  | some (some x) => te env M (fun y M1 => (r x y M1).run M1 (fun z M2 => D.nx (env.set i (some z)) M2)) (fun c f M1 => D.ex c f env M1)
  | _ => False
theorem xs_aug (i : Nat) {x : Str} {op : Operator} {r : DOp2} {pos' : Pos} (hN : X.N.Nodup) (ho : XOp X (inplaceOp op) r) (he : XE X W e te) (hi : X.N[i]? = some x := by rfl) (hx : Loc X.env.scope x := by first | exact .inl rfl | exact .inr rfl)
    (hf : X.fn x = true ∨ X.env.scope.names.lookup x = some .local := by first | exact .inl rfl | exact .inr rfl) : XS X W (.AugAssign (.Name x pos') op e pos) (dAug i r te) := by
  refine ⟨fun D D' env M l h => ?_, PSw (ps_aug (ti := upR2 X.K r) hN hi hx he.pe ?_ hf) ?_⟩
  · unfold dAug at h ⊢
    split at h <;> first | exact h.elim | skip
    exact he.mono _ _ _ _ _ _ (fun y M1 => Res.mono fun z M2 => l.nx _ M2) (fun c f M1 => l.ex c f _ M1) h
  · intro pins s σ H x y v u Q I rx ry q
    exact ho pins s σ H x y v u Q I rx ry q
  · rintro D σ H ⟨env, M, re, s, h⟩
    unfold dAug at h
    split at h <;> first | exact h.elim | skip
    rename_i d hd
    obtain ⟨v, h1, h2⟩ := re.2 i d hd
    refine ⟨v, h1, stepE he.mono re s h (fun y M1 u H1 e1 s1 re1 r1 q => ?_) (ends_ex re)⟩
    exact ⟨d, y, M1, RepD.mono e1 _ h2, r1, s1, Res.mono (fun z M2 q2 u2 H2 e2 s2 r2 => q2 _ H2 (e1.trans e2) s2 (re1.mono e2 |>.set r2 i)) q⟩
theorem x_iadd : XOp X (inplaceOp .Add) (fun x y M => match x, y with | .v (.int i), .v (.int j) => .val True (.int (i + j)) | .v (.str a), .v (.str b) => .val (a.length + b.length ≤ sizeLine) (.str (a ++ b)) | _, _ => .bad) := by
  rintro pins s σ H x y v u Q I rx ry ⟨dx, dy, M, r1, r2, sm, h⟩
  dsimp only at h
  split at h <;> first | exact h.elim | skip
  all_goals rw [rep_v r1] at rx; rw [rep_v r2] at ry
  · exact iop_add pins s σ H _ _ v u Q I rx ry ⟨_, _, rfl, rfl, fin_val h.2 sm⟩
  · exact iop_add_str pins s σ H _ _ v u Q I rx ry ⟨_, _, rfl, rfl, h.1, fin_val h.2 sm⟩
theorem x_isub : XOp X (inplaceOp .Sub) opSub := by
  rintro pins s σ H x y v u Q I rx ry ⟨dx, dy, M, r1, r2, sm, h⟩
  unfold opSub at h
  split at h <;> first | exact h.elim | skip
  rw [rep_v r1] at rx; rw [rep_v r2] at ry
  exact iop_sub pins s σ H _ _ v u Q I rx ry ⟨_, _, rfl, rfl, fin_val h.2 sm⟩
end
def opIadd : DOp2 := fun x y M => match x, y with | .v (.int i), .v (.int j) => .val True (.int (i + j)) | .v (.str a), .v (.str b) => .val (a.length + b.length ≤ sizeLine) (.str (a ++ b)) | _, _ => .bad

/-! o[i] = v -/
def putD {κ : Type} [DecidableEq κ] (kvs : List (κ × D)) (k : κ) (d : D) : List (κ × D) := if (kvs.any fun kv => decide (kv.1 = k)) = true then kvs.map (fun kv => if kv.1 = k then (kv.1, d) else kv) else kvs ++ [(k, d)]
theorem RepKV.put {κ : Type} [DecidableEq κ] {K : PySem.W.Frag} {H : Hp} {k : κ} {d : D} {u : V} (q : RepD K H d u) {kvs : List (κ × D)} {us : List (κ × V)} (h : RepKV K H kvs us) : RepKV K H (putD kvs k d) (putK us k u) := by
  have a : ∀ {kvs : List (κ × D)} {us : List (κ × V)}, RepKV K H kvs us → (us.any fun kv => decide (kv.1 = k)) = (kvs.any fun kv => decide (kv.1 = k)) := by
    intro kvs
    induction kvs with
    | nil => intro us h; unfold RepKV at h; rw [h]; rfl
    | cons p r ih =>
      intro us h
      obtain ⟨u', t, rfl, _, z⟩ := h
      simp [List.any_cons, ih z]
  have b : ∀ {kvs : List (κ × D)} {us : List (κ × V)}, RepKV K H kvs us → RepKV K H (kvs.map fun kv => if kv.1 = k then (kv.1, d) else kv) (us.map fun kv => if kv.1 = k then (kv.1, u) else kv) := by
    intro kvs
    induction kvs with
    | nil => intro us h; unfold RepKV at h; rw [h]; rfl
    | cons p r ih =>
      intro us h
      obtain ⟨k', d'⟩ := p
      obtain ⟨u', t, rfl, q', z⟩ := h
      by_cases e : k' = k
      · simp only [List.map_cons, e, if_true]
        exact ⟨u, _, rfl, q, ih z⟩
      · simp only [List.map_cons, e, if_false]
        exact ⟨u', _, rfl, q', ih z⟩
  have c : ∀ {kvs : List (κ × D)} {us : List (κ × V)}, RepKV K H kvs us → RepKV K H (kvs ++ [(k, d)]) (us ++ [(k, u)]) := by
    intro kvs
    induction kvs with
    | nil => intro us h; unfold RepKV at h; rw [h]; exact ⟨u, [], rfl, q, rfl⟩
    | cons p r ih =>
      intro us h
      obtain ⟨k', d'⟩ := p
      obtain ⟨u', t, rfl, q', z⟩ := h
      exact ⟨u', _, rfl, q', ih z⟩
  unfold putD putK
  rw [a h]
  split
  · exact b h
  · exact c h
/-- o i v -/
def opPut : D → D → D → Mem → Res
  | .v (.ref a), y, z, M => match M a with
    | some (.lst ds) => match y with
      | .v (.int i) => match ixN ds.length i with
        | some j => .put True a (.lst (ds.set j z)) .non
        | none => .bad
      | _ => .bad
    | some (.dk kvs) => match y.key with
      | some k => .put (kvs.length < sizeLine) a (.dk (putD kvs k z)) .non
      | none => .bad
    | _ => .bad
  | _, _, _, _ => .bad
def dPut (te to ti : DE) : DS := fun D env M => te env M (fun z M1 => to env M1 (fun o M2 => ti env M2 (fun i M3 => (opPut o i z M3).run M3 (fun _ M4 => D.nx env M4)) (fun c f M' => D.ex c f env M')) (fun c f M' => D.ex c f env M')) (fun c f M' => D.ex c f env M')
section
variable {X : Cx} {W : WX} {o i e : Expr} {to ti te : DE} {pos pos' : Pos}
theorem x_put (hu : X.A.units + 200 < cLine) : PSet X (fun o i v H Q => ∃ d1 di dv M, RepD X.K H d1 o ∧ RepD X.K H di i ∧ RepD X.K H dv v ∧ Sim X.K H M ∧ (opPut d1 di dv M).run M (fun _ M' => ∀ H', Ext X.K H H' → Sim X.K H' M' → Q H')) := by
  rintro pins s σ H o i v ov iv u Q I ro ri rv ⟨d1, d2, d3, M, r1, r2, r3, sm, h⟩
  unfold opPut at h
  split at h <;> first | exact h.elim | skip
  have e1 := rep_v r1
  subst e1
  have ro2 := ro
  obtain rfl : ov = Value.ref _ := ro
  split at h <;> first | exact h.elim | skip
  · split at h <;> first | exact h.elim | skip
    split at h <;> first | exact h.elim | skip
    rename_i hm _ k _ j hj
    rw [rep_v r2] at ri
    obtain ⟨ws, e1, l1⟩ := sm.lst hm
    refine set_list pins s σ H _ _ v _ iv u Q I ro2 ri rv ⟨_, ws, _, j, rfl, rfl, e1, by rw [l1.length]; exact hj, ?_⟩
    exact h.2 _ (Ext.mut e1 True.intro) (sm.put e1 True.intro (repO_lst (Ext.mut e1 True.intro) (RepL.set r3 j l1)))
  · split at h <;> first | exact h.elim | skip
    rename_i kvs hm _ k hk
    obtain ⟨ws, e1, l1⟩ := sm _ _ hm
    have ei := key_rep hk r2
    subst ei
    refine d_setItem (by omega) I (DPut.k e1 (by rw [l1.length]; exact h.1)) ri rv fun s' I' => ⟨_, I', ?_⟩
    have ex := Ext.mut (K := X.K) (o' := .dK (putK ws k v)) e1 True.intro
    exact h.2 _ ex (sm.put e1 True.intro ⟨_, upd_same, RepKV.mono ex (RepKV.put r3 l1)⟩)
theorem xs_put (hu : X.A.units + 200 < cLine) (he : XE X W e te) (ho : XE X W o to) (hi : XE X W i ti) (hs : swapsWithSole [.Subscript o i pos'] e pos.line X.env = pure false := by rfl) (hw : swappedStores [.Subscript o i pos'] e X.env = pure none := by rfl)
    (h1 : (assignEach [.Subscript o i pos'] X.env).map (·.2) = [assign (.Subscript o i pos') X.env] := by rfl)
    (ha : ∀ v, assign (.Subscript o i pos') X.env v = (do let ov ← holding [v] (eval o X.env); let iv ← holding [v, ov] (eval i X.env); standAt pos'; holding [v, ov, iv] (setItem ov iv v); release [v, ov, iv] []) := by intro _; rfl) :
    XS X W (.Assign [.Subscript o i pos'] e pos) (dPut te to ti) := by
  refine ⟨fun D D' env M l h => he.mono _ _ _ _ _ _ (fun z M1 => ho.mono _ _ _ _ _ _ (fun o M2 => hi.mono _ _ _ _ _ _ (fun i M3 => Res.mono fun _ M4 => l.nx _ M4) (fun c f M' => l.ex c f _ M')) (fun c f M' => l.ex c f _ M')) (fun c f M' => l.ex c f _ M') h,
    PSw (ps_asg he.pe (pg_sub ho.pe hi.pe (x_put hu) ha) hs hw h1) ?_⟩
  rintro D σ H ⟨env, M, re, s, h⟩
  refine stepE he.mono re s h (fun z M1 u H1 e1 s1 re1 r1 h1 => ?_) (ends_ex re)
  refine stepE ho.mono re1 s1 h1 (fun o M2 u2 H2 e2 s2 re2 r2 h2 => ?_) fun c f M' q => upX_mono e1 c f M' (ends_ex re c f M' q)
  refine stepE hi.mono re2 s2 h2 (fun i M3 u3 H3 e3 s3 re3 r3 h3 => ?_) fun c f M' q => upX_mono (e1.trans e2) c f M' (ends_ex re c f M' q)
  exact ⟨o, i, z, M3, RepD.mono e3 _ r2, r3, RepD.mono (e2.trans e3) _ r1, s3, Res.mono (fun _ M4 q H' e4 s4 => q σ H' (((e1.trans e2).trans e3).trans e4) s4 (re3.mono e4)) h3⟩
end
end PL

namespace PL
open PySem PySem.Spec PyProof.Rows L2

/-! what is walked: items; what must stand while it is walked -/
structure DIt where
  items : List D
  keep : Mem → Prop
abbrev DI := DEnv → Mem → (DIt → Mem → Prop) → DX → Prop
def MonoI (t : DI) : Prop := ∀ env M (Q Q' : DIt → Mem → Prop) (E E' : DX), (∀ d M, Q d M → Q' d M) → (∀ c f M, E c f M → E' c f M) → t env M Q E → t env M Q' E'
structure ItRep (K : PySem.W.Frag) (H0 : Hp) (J' : It) (J : DIt) : Prop where
  go : ∀ i H M, Ext K H0 H → Sim K H M → J.keep M → i < J.items.length → J'.go i H
  yld : ∀ i H M x H', Ext K H0 H → Sim K H M → J.keep M → i < J.items.length → J'.yld i H x H' → ∃ d, J.items[i]? = some d ∧ RepD K H' d x ∧ Ext K H H' ∧ Sim K H' M
  stop : ∀ H M, Ext K H0 H → Sim K H M → J.keep M → J'.stop J.items.length H
def liftI (K : PySem.W.Frag) (W : WX) (t : DI) : TI := fun σ H R => ∃ env M, RepE K H env σ ∧ Sim K H M ∧ t env M (fun J M' => ∀ J' H', Ext K H H' → Sim K H' M' → ItRep K H' J' J → R J' H') (upX K W H σ)
structure XI (X : Cx) (W : WX) (tg e : Expr) (t : DI) : Prop where
  mono : MonoI t
  pi : PI X tg e (liftI X.K W t)
theorem PIw {X : Cx} {tg e : Expr} {t t' : TI} (h : PI X tg e t) (w : ∀ σ H Q, t' σ H Q → t σ H Q) : PI X tg e t' := ⟨fun pins s σ H Q I q => h.run pins s σ H Q I (w σ H Q q)⟩

theorem rep_list {K : PySem.W.Frag} {H0 : Hp} {a : Addr} {ds : List D} : ItRep K H0 (Itl K a) ⟨ds, fun M => M a = some (.lst ds) ∨ M a = some (.rol ds)⟩ where
  go := fun i H M _ s k hi => by
    obtain ⟨us, q, l⟩ := s.seq k
    have hl : i < us.length := by rw [l.length]; exact hi
    exact ⟨us, us[i], q, by simp [hl]⟩
  yld := fun i H M x H' _ s k _ y => by
    obtain ⟨us, q, l⟩ := s.seq k
    obtain ⟨rfl, y⟩ := y
    obtain ⟨d, h1, h2⟩ := l.get' (y us q)
    exact ⟨d, h1, h2, Ext.refl, s⟩
  stop := fun H M _ s k => by
    obtain ⟨us, q, l⟩ := s.seq k
    exact ⟨us, q, by rw [l.length]; exact Nat.le_refl _⟩
theorem rep_tupI {K : PySem.W.Frag} {H0 : Hp} {a : Addr} {ds : List D} {us : List V} (q : SqT K H0 a us) (l : RepL K H0 ds us) : ItRep K H0 (Itt K a) ⟨ds, fun _ => True⟩ where
  go := fun i H M e s k hi => by
    have hl : i < us.length := by rw [l.length]; exact hi
    exact ⟨us, us[i], e _ _ q, by simp [hl]⟩
  yld := fun i H M x H' e s k _ y => by
    obtain ⟨rfl, y⟩ := y
    obtain ⟨d, h1, h2⟩ := (RepL.mono e ds l).get' (y us (e _ _ q))
    exact ⟨d, h1, h2, Ext.refl, s⟩
  stop := fun H M e s k => ⟨us, e _ _ q, by rw [l.length]; exact Nat.le_refl _⟩

def rg (lo : Int) (n : Nat) : List D := (List.range n).map fun i => D.int (lo + (i : Nat))
theorem rg_length (lo : Int) (n : Nat) : (rg lo n).length = n := by simp [rg]
theorem rep_range {K : PySem.W.Frag} {H0 : Hp} {lo : Int} {n : Nat} : ItRep K H0 (Itr lo n) ⟨rg lo n, fun _ => True⟩ where
  go := fun i H M e s k hi => by rw [rg_length] at hi; exact hi
  yld := fun i H M x H' e s k hi y => by
    obtain ⟨rfl, rfl⟩ := y
    rw [rg_length] at hi
    exact ⟨.int (lo + (i : Nat)), by simp [rg, hi], rep_of, Ext.refl, s⟩
  stop := fun H M e s k => by rw [rg_length]; exact Nat.le_refl n
def signs (x : Str) : List D := x.cps.toList.map fun c => D.str ⟨#[c]⟩
theorem rep_str {K : PySem.W.Frag} {H0 : Hp} {x : Str} : ItRep K H0 (Its x) ⟨signs x, fun _ => True⟩ where
  go := fun i H M e s k hi => by
    have : (signs x).length = x.cps.size := by simp [signs]
    show i < x.cps.size
    rw [← this]
    exact hi
  yld := fun i H M v H' e s k hi y => by
    obtain ⟨rfl, c, hc, rfl⟩ := y
    refine ⟨.str ⟨#[c]⟩, ?_, rep_of, Ext.refl, s⟩
    simp [signs, List.getElem?_map, hc]
  stop := fun H M e s k => by
    have : (signs x).length = x.cps.size := by simp [signs]
    rw [this]
    exact Nat.le_refl _

/-! for over a list, a tuple, a text -/
def dWalk (te : DE) : DI := fun env M R E => te env M (fun d M1 => match d with
  | .tup ds => R ⟨ds, fun _ => True⟩ M1
  | .v (.str x) => R ⟨signs x, fun _ => True⟩ M1
  | .v (.ref a) => match M1 a with
    | some (.lst ds) => R ⟨ds, fun M => M a = some (.lst ds) ∨ M a = some (.rol ds)⟩ M1
    | some (.rol ds) => R ⟨ds, fun M => M a = some (.lst ds) ∨ M a = some (.rol ds)⟩ M1
    | _ => False
  | _ => False) E
section
variable {X : Cx} {W : WX} {tg e : Expr} {te : DE} {pos p : Pos}
theorem iter_list {pins : List (Addr × Obj)} {σ : L2.St} {H : Hp} {s : Shared} {a : Addr} {us : List V} {R : It → Hp → Prop} (I : Inv X pins σ H s) (h : SqL X.K H a us) (q : R (Itl X.K a) H) : wpAny (model X.prog X.w) X.A (pyIter (.ref a)) (PIE X pins σ tg R) X.xe s := by
  obtain ⟨its, rv, p, hz⟩ := I.list h
  exact wpAny_pyIter_list p.isList (pi_one (tk := s.toks) I _ (turn_list a _) ⟨_, Heap.get?_push_size _ rfl, rfl, rfl⟩ q)
theorem iter_tup {pins : List (Addr × Obj)} {σ : L2.St} {H : Hp} {s : Shared} {a : Addr} {us : List V} {R : It → Hp → Prop} (I : Inv X pins σ H s) (h : SqT X.K H a us) (q : R (Itt X.K a) H) : wpAny (model X.prog X.w) X.A (pyIter (.ref a)) (PIE X pins σ tg R) X.xe s := by
  obtain ⟨its, rv, p, hz⟩ := I.tuple h
  exact wpAny_pyIter_tuple (show s.heap.IsTuple a its.toArray from p) (pi_one (tk := s.toks) I _ (turn_tuple a _) ⟨_, Heap.get?_push_size _ rfl, rfl, rfl⟩ q)
theorem iter_str {pins : List (Addr × Obj)} {σ : L2.St} {H : Hp} {s : Shared} {x : Str} {t : Tok} {R : It → Hp → Prop} (I : Inv X pins σ H s) (q : R (Its x) H) : wpAny (model X.prog X.w) X.A (pyIter (.str x t)) (PIE X pins σ tg R) X.xe s := by
  cases hx : x.cps.all (· < 128) with
  | false => exact wpAny_pyIter_wide hx (pi_one (tk := s.toks) I _ (turn_str _ x t "str_iterator" (.inr rfl)) ⟨_, Heap.get?_push_size _ rfl, rfl, rfl⟩ q)
  | true => exact wpAny_pyIter_ascii hx (pi_one (tk := s.toks) I _ (turn_str _ x t "str_ascii_iterator" (.inl rfl)) ⟨_, Heap.get?_push_size _ rfl, rfl, rfl⟩ q)
theorem xi_walk (he : XE X W e te) : XI X W tg e (dWalk te) := by
  refine ⟨fun env M Q Q' E E' hQ hE => he.mono env M _ _ _ _ (fun d M1 => ?_) hE, ⟨fun pins s σ H R I h => ?_⟩⟩
  · cases d with
    | tup ds => exact hQ _ _
    | v x => cases x with
      | str z => exact hQ _ _
      | ref a =>
        dsimp only
        cases M1 a with
        | none => exact id
        | some o => cases o <;> first | exact id | exact hQ _ _
      | _ => exact id
  · obtain ⟨env, M, re, sm, h⟩ := h
    have q : liftE X.K W te σ H fun u H1 => (∃ a us, u = .ref a ∧ SqL X.K H1 a us ∧ R (Itl X.K a) H1) ∨ (∃ a us, u = .ref a ∧ SqT X.K H1 a us ∧ R (Itt X.K a) H1) ∨ ∃ x, u = .str x ∧ R (Its x) H1 := by
      refine stepE he.mono re sm h (fun d M1 u H1 e1 s1 re1 r1 q => ?_) fun _ _ _ z => z
      split at q
      · obtain ⟨a, us, rfl, q1, l1⟩ := rep_tup r1
        exact .inr (.inl ⟨a, us, rfl, q1, q _ H1 e1 s1 (rep_tupI q1 l1)⟩)
      · exact .inr (.inr ⟨_, rep_v r1, q _ H1 e1 s1 rep_str⟩)
      · split at q <;> first | exact q.elim | skip
        · rename_i hm
          obtain ⟨us, q1, l1⟩ := s1.seq (.inl hm)
          exact .inl ⟨_, us, rep_v r1, q1, q _ H1 e1 s1 rep_list⟩
        · rename_i hm
          obtain ⟨us, q1, l1⟩ := s1.seq (.inr hm)
          exact .inl ⟨_, us, rep_v r1, q1, q _ H1 e1 s1 rep_list⟩
      · exact q.elim
    refine thn (he.pe.run pins s σ H _ I q) fun v s1 ⟨u, H1, I1, r1, q1⟩ => ?_
    rcases q1 with ⟨a, us, rfl, q2, q3⟩ | ⟨a, us, rfl, q2, q3⟩ | ⟨x, rfl, q3⟩
    · obtain rfl : v = Value.ref a := r1
      exact iter_list I1 q2 q3
    · obtain rfl : v = Value.ref a := r1
      exact iter_tup I1 q2 q3
    · obtain ⟨t, rfl⟩ := r1
      exact iter_str I1 q3
def dRange1 (ta : DA) : DI := fun env M R E => ta env M (fun ds M1 => match ds with
  | [.v (.int j)] => (-(2 ^ 62) ≤ j ∧ j < 2 ^ 62) ∧ R ⟨rg 0 j.toNat, fun _ => True⟩ M1
  | _ => False) E
def dRange2 (ta : DA) : DI := fun env M R E => ta env M (fun ds M1 => match ds with
  | [.v (.int i), .v (.int j)] => (-(2 ^ 62) ≤ i ∧ i < 2 ^ 62 ∧ -(2 ^ 62) ≤ j ∧ j < 2 ^ 62) ∧ R ⟨rg i (j - i).toNat, fun _ => True⟩ M1
  | _ => False) E
variable {a b : Expr} {ta : DA}
theorem ran1_mono : ∀ (ds : List D) (M1 : Mem) {Q Q' : DIt → Mem → Prop} (_ : ∀ d M, Q d M → Q' d M), (match ds with
  | [.v (.int j)] => (-(2 ^ 62) ≤ j ∧ j < 2 ^ 62) ∧ Q ⟨rg 0 j.toNat, fun _ => True⟩ M1
  | _ => False) → (match ds with
  | [.v (.int j)] => (-(2 ^ 62) ≤ j ∧ j < 2 ^ 62) ∧ Q' ⟨rg 0 j.toNat, fun _ => True⟩ M1
  | _ => False)
  | [], _, _, _, _ => id
  | [.tup _], _, _, _, _ => id
  | [.v x], _, _, _, hQ => by cases x <;> first | exact id | exact fun h => ⟨h.1, hQ _ _ h.2⟩
  | .v x :: _ :: _, _, _, _, hQ => by cases x <;> exact id
  | .tup _ :: _ :: _, _, _, _, _ => id
theorem xi_range1 (hg : Gl X "range") (hm : X.mg "range" = none) (ha : XA X W [a] ta) (hs : starEach [a] X.env = [(false, eval a X.env)] := by rfl) : XI X W tg (.Call (.Name "range" p) [a] [] pos) (dRange1 ta) := by
  refine ⟨fun env M Q Q' E E' hQ hE => ha.mono env M _ _ _ _ (fun ds M1 => ran1_mono ds M1 hQ) hE, PIw (pi_range1 hg hm ha.pa hs) ?_⟩
  rintro σ H R ⟨env, M, re, s, h⟩
  refine stepA ha.mono re s h (fun ds M1 us H1 e1 s1 re1 r1 q => ?_) fun _ _ _ z => z
  split at q <;> first | exact q.elim | skip
  obtain ⟨u, rfl, q1⟩ := rl1 r1
  rw [rep_v q1]
  exact ⟨_, rfl, q.1.1, q.1.2, q.2 _ H1 e1 s1 rep_range⟩
theorem xi_range2 (hg : Gl X "range") (hm : X.mg "range" = none) (ha : XA X W [a, b] ta) (hs : starEach [a, b] X.env = [(false, eval a X.env), (false, eval b X.env)] := by rfl) (hs2 : starEach [b] X.env = [(false, eval b X.env)] := by rfl) :
    XI X W tg (.Call (.Name "range" p) [a, b] [] pos) (dRange2 ta) := by
  refine ⟨fun env M Q Q' E E' hQ hE h => ?_, PIw (pi_range2 hg hm ha.pa hs hs2) ?_⟩
  · refine ha.mono env M _ _ _ _ (fun ds M1 q => ?_) hE h
    split at q <;> first | exact q.elim | exact ⟨q.1, hQ _ _ q.2⟩
  rintro σ H R ⟨env, M, re, s, h⟩
  refine stepA ha.mono re s h (fun ds M1 us H1 e1 s1 re1 r1 q => ?_) fun _ _ _ z => z
  split at q <;> first | exact q.elim | skip
  obtain ⟨u, v, rfl, q1, q2⟩ := rl2 r1
  rw [rep_v q1, rep_v q2]
  exact ⟨_, _, rfl, q.1, q.2 _ H1 e1 s1 rep_range⟩
end

/-! the for statement: a recursion over the items -/
def dLoop (keep : Mem → Prop) (p : Pat) (tb : DS) (Z : DEnds) : List D → DEnv → Mem → Prop
  | [], env, M => keep M ∧ Z.nx env M
  | x :: r, env, M => keep M ∧ match p.bind M x env with
    | some env1 => tb { Z with nx := dLoop keep p tb Z r, ct := dLoop keep p tb Z r, bk := Z.nx } env1 M
    | none => False
def dFor (ti : DI) (p : Pat) (tb : DS) : DS := fun D env M => ti env M (fun J M1 => dLoop J.keep p tb D J.items env M1) (fun c f M1 => D.ex c f env M1)
theorem dLoop_mono {keep : Mem → Prop} {p : Pat} {tb : DS} (hb : MonoS tb) {Z Z' : DEnds} (l : Z.Le Z') : ∀ (xs : List D) (env : DEnv) (M : Mem), dLoop keep p tb Z xs env M → dLoop keep p tb Z' xs env M
  | [], env, M, h => ⟨h.1, l.nx _ _ h.2⟩
  | x :: r, env, M, h => by
    refine ⟨h.1, ?_⟩
    have h2 := h.2
    split
    · rename_i env1 hb1
      rw [hb1] at h2
      exact hb { Z with nx := dLoop keep p tb Z r, ct := dLoop keep p tb Z r, bk := Z.nx } _ _ _ ⟨dLoop_mono hb l r, l.rt, l.nx, dLoop_mono hb l r, l.ex⟩ h2
    · rename_i hb1
      rw [hb1] at h2
      exact h2
section
variable {X : Cx} {W : WX} {tg iter c : Expr} {body : List Stmt} {ti : DI} {p : Pat} {tb : DS} {tc : DT} {pos : Pos}
theorem xs_for (hp : PassesOwn (model X.prog X.w) X.A X.env X.xe) (hc : X.calm = true) (hi : XI X W tg iter ti) (hg : PG X tg (p.tg X.K)) (hb : XSs X W body tb) (hs : ∀ x, foldedSetIterable iter X.env x = pure x := by intro _; rfl) :
    XS X W (.For tg iter body [] pos) (dFor ti p tb) := by
  refine ⟨fun D D' env M l h => hi.mono _ _ _ _ _ _ (fun J M1 => dLoop_mono hb.mono l _ _ _) (fun c f M1 => l.ex c f _ M1) h, PSw (ps_for hp hc hi.pi hg hb.ps hs) ?_⟩
  rintro D σ H ⟨env, M, re, s, h⟩
  refine ⟨env, M, re, s, hi.mono _ _ _ _ _ _ (fun J M1 q J' H1 e1 s1 ir => ?_) (ends_ex re) h⟩
  refine ⟨fun i m σ' H' => m = J.items.length - i ∧ i ≤ J.items.length ∧ Ext X.K H1 H' ∧ ∃ env M, RepE X.K H' env σ' ∧ Sim X.K H' M ∧ dLoop J.keep p tb (upEnds X.K W H D) (J.items.drop i) env M,
    ⟨J.items.length, by simp, Nat.zero_le _, Ext.refl, env, M1, re.mono e1, s1, by simpa using q⟩, ?_⟩
  rintro i m σ2 H2 ⟨rfl, hi2, e2, env2, M2, re2, s2, q2⟩
  by_cases hlt : i < J.items.length
  · rw [List.drop_eq_getElem_cons hlt] at q2
    obtain ⟨kp, q2⟩ := q2
    refine .inr ⟨ir.go i H2 M2 e2 s2 kp hlt, fun σ' H' => Ext X.K H1 H' ∧ ∃ env M, RepE X.K H' env σ' ∧ Sim X.K H' M ∧ dLoop J.keep p tb (upEnds X.K W H D) (J.items.drop (i + 1)) env M, fun σ' H' n => ⟨_, by omega, rfl, hlt, n⟩, fun x H3 y => ?_⟩
    obtain ⟨d, hd, r3, e3, s3⟩ := ir.yld i H2 M2 x H3 e2 s2 kp hlt y
    rw [List.getElem?_eq_getElem hlt] at hd
    obtain rfl := Option.some.inj hd
    split at q2
    · rename_i env3 hb3
      obtain ⟨σ3, h1, _, h3⟩ := Pat.rep s3 p.slots p r3 (re2.mono e3) hb3 (fun _ h => h)
      refine h3 _ ⟨env3, M2, h1, s3, hb.mono _ _ _ _ ⟨?_, ?_, ?_, ?_, ?_⟩ q2⟩
      · exact fun env4 M4 n σ4 H4 e4 s4 re4 => ⟨(e2.trans e3).trans e4, env4, M4, re4, s4, n⟩
      · exact upK_mono ((e1.trans e2).trans e3)
      · exact upN_mono ((e1.trans e2).trans e3)
      · exact fun env4 M4 n σ4 H4 e4 s4 re4 => ⟨(e2.trans e3).trans e4, env4, M4, re4, s4, n⟩
      · exact fun c f env4 M4 n d σ4 H4 e4 s4 re4 x4 => n d σ4 H4 (((e1.trans e2).trans e3).trans e4) s4 re4 x4
    · exact q2.elim
  · have e : i = J.items.length := by omega
    subst e
    rw [List.drop_length] at q2
    exact .inl ⟨ir.stop H2 M2 e2 s2 q2.1, q2.2 σ2 H2 (e1.trans e2) s2 re2⟩

/-! while: some number of turns is enough -/
def dWhileN (tc : DT) (tb : DS) (D : DEnds) : Nat → DEnv → Mem → Prop
  | 0, _, _ => False
  | n + 1, env, M => tc env M (fun b M1 => if b = true then tb { D with nx := dWhileN tc tb D n, ct := dWhileN tc tb D n, bk := D.nx } env M1 else D.nx env M1) (fun c f M1 => D.ex c f env M1)
def dWhile (tc : DT) (tb : DS) : DS := fun D env M => ∃ n, dWhileN tc tb D n env M
theorem dWhileN_mono {tc : DT} {tb : DS} (hc : MonoT tc) (hb : MonoS tb) {D D' : DEnds} (l : D.Le D') : ∀ (n : Nat) (env : DEnv) (M : Mem), dWhileN tc tb D n env M → dWhileN tc tb D' n env M
  | 0, _, _, h => h
  | n + 1, env, M, h => by
    refine hc _ _ _ _ _ _ (fun b M1 => ?_) (fun c f M1 => l.ex c f _ M1) h
    cases b with
    | true => rw [if_pos rfl, if_pos rfl]; exact hb _ _ _ _ ⟨dWhileN_mono hc hb l n, l.rt, l.nx, dWhileN_mono hc hb l n, l.ex⟩
    | false => rw [if_neg Bool.false_ne_true, if_neg Bool.false_ne_true]; exact l.nx _ _
theorem xs_while (hp : PassesOwn (model X.prog X.w) X.A X.env X.xe) (hc : XT X W c tc) (hb : XSs X W body tb) : XS X W (.While c body [] pos) (dWhile tc tb) := by
  refine ⟨fun D D' env M l h => h.imp fun n => dWhileN_mono hc.mono hb.mono l n env M, PSw (ps_while hp hc.pt hb.ps) ?_⟩
  rintro D σ H ⟨env, M, re, s, n, h⟩
  refine ⟨fun m σ' H' => Ext X.K H H' ∧ ∃ env M, RepE X.K H' env σ' ∧ Sim X.K H' M ∧ dWhileN tc tb (upEnds X.K W H D) m env M, ⟨n, Ext.refl, env, M, re, s, h⟩, ?_⟩
  rintro m σ1 H1 ⟨e1, env1, M1, re1, s1, h1⟩
  match m, h1 with
  | m + 1, h1 =>
    refine stepT hc.mono re1 s1 h1 (fun b M2 H2 e2 s2 re2 q => ?_) fun c f M' z d H' e s' r => z d σ1 H' (e1.trans e) s' (re1.mono e) r
    cases b with
    | true =>
      rw [if_pos rfl] at q ⊢
      refine ⟨fun σ' H' => Ext X.K H H' ∧ ∃ env M, RepE X.K H' env σ' ∧ Sim X.K H' M ∧ dWhileN tc tb (upEnds X.K W H D) m env M, fun σ' H' z => ⟨m, Nat.lt_succ_self _, z⟩, env1, M2, re2, s2, hb.mono _ _ _ _ ⟨?_, ?_, ?_, ?_, ?_⟩ q⟩
      · exact fun env4 M4 n σ4 H4 e4 s4 re4 => ⟨(e1.trans e2).trans e4, env4, M4, re4, s4, n⟩
      · exact upK_mono (e1.trans e2)
      · exact upN_mono (e1.trans e2)
      · exact fun env4 M4 n σ4 H4 e4 s4 re4 => ⟨(e1.trans e2).trans e4, env4, M4, re4, s4, n⟩
      · exact fun c f env4 M4 n d σ4 H4 e4 s4 re4 x4 => n d σ4 H4 ((e1.trans e2).trans e4) s4 re4 x4
    | false =>
      rw [if_neg Bool.false_ne_true] at q ⊢
      exact q σ1 H2 (e1.trans e2) s2 re2
end
end PL

namespace PL
open PySem PySem.Spec PyProof.Rows L2

/-! list comprehensions -/
def wipeD (env : DEnv) : List Nat → DEnv
  | [] => env
  | v :: vs => (wipeD env vs).set v none
theorem RepE.clear {K : PySem.W.Frag} {H : Hp} {env : DEnv} {σ : L2.St} (r : RepE K H env σ) (v : Nat) : RepE K H (env.set v none) (σ.set v none) := by
  refine ⟨by simp [r.1], fun i d q => ?_⟩
  by_cases hj : v = i
  · subst hj
    by_cases hi : v < env.length
    · rw [List.getElem?_set_self hi] at q; cases q
    · rw [List.getElem?_eq_none (by simpa using hi)] at q; cases q
  · rw [List.getElem?_set_ne hj] at q ⊢
    exact r.2 i d q
theorem RepE.wipe {K : PySem.W.Frag} {H : Hp} {env : DEnv} {σ : L2.St} (r : RepE K H env σ) : ∀ vs : List Nat, RepE K H (wipeD env vs) (L2.wipe σ vs)
  | [] => r
  | v :: vs => (r.wipe vs).clear v
theorem wipe_wipe {σ : L2.St} : ∀ vs : List Nat, L2.wipe (L2.wipe σ vs) vs = L2.wipe σ vs := by
  have comm : ∀ (vs : List Nat) (σ : L2.St) (v : Nat), L2.wipe (σ.set v none) vs = (L2.wipe σ vs).set v none := by
    intro vs
    induction vs with
    | nil => intro σ v; rfl
    | cons w ws ih =>
      intro σ v
      show (L2.wipe (σ.set v none) ws).set w none = ((L2.wipe σ ws).set w none).set v none
      rw [ih]
      by_cases e : v = w
      · subst e; rfl
      · rw [List.set_comm _ _ e]
  intro vs
  induction vs with
  | nil => rfl
  | cons v vs ih =>
    show (L2.wipe ((L2.wipe σ vs).set v none) vs).set v none = (L2.wipe σ vs).set v none
    rw [comm, ih, List.set_set]
abbrev noX : DX := fun _ _ _ => False
/-- a: the new list; the items, what is made so far -/
def dLcGo (keep : Mem → Prop) (p : Pat) (tt : DT) (te : DE) (env : DEnv) (a : Addr) (Q : DK) : List D → List D → Mem → Prop
  | [], acc, M => keep M ∧ M a = some (.lst acc) ∧ Q (.ob a) M
  | x :: r, acc, M => keep M ∧ match p.bind M x env with
    | some env1 => tt env1 M (fun b M2 => if b = true then te env1 M2 (fun y M3 => M3 a = some (.lst acc) ∧ acc.length < sizeLine ∧ dLcGo keep p tt te env a Q r (acc ++ [y]) (mupd M3 a (.lst (acc ++ [y])))) noX else dLcGo keep p tt te env a Q r acc M2) noX
    | none => False
def dLc (ti : DI) (p : Pat) (tt : DT) (te : DE) (vs : List Nat) : DE := fun env M Q E => ti env M (fun J M1 => ∀ a, M1 a = none → dLcGo J.keep p tt te (wipeD env vs) a Q J.items [] (mupd M1 a (.lst []))) E
def dYes : DT := fun _ M Q _ => Q true M
theorem dYes_mono : MonoT dYes := fun _ _ _ _ _ _ hQ _ h => hQ _ _ h
theorem dLcGo_mono {keep : Mem → Prop} {p : Pat} {tt : DT} {te : DE} (ht : MonoT tt) (he : MonoE te) {env : DEnv} {a : Addr} {Q Q' : DK} (hQ : ∀ d M, Q d M → Q' d M) : ∀ (xs acc : List D) (M : Mem), dLcGo keep p tt te env a Q xs acc M → dLcGo keep p tt te env a Q' xs acc M
  | [], acc, M, h => ⟨h.1, h.2.1, hQ _ _ h.2.2⟩
  | x :: r, acc, M, h => by
    refine ⟨h.1, ?_⟩
    have h2 := h.2
    split
    · rename_i env1 hb1
      rw [hb1] at h2
      refine ht _ _ _ _ _ _ (fun b M2 => ?_) (fun _ _ _ z => z) h2
      cases b with
      | true =>
        rw [if_pos rfl, if_pos rfl]
        exact he _ _ _ _ _ _ (fun y M3 z => ⟨z.1, z.2.1, dLcGo_mono ht he hQ r _ _ z.2.2⟩) (fun _ _ _ z => z)
      | false =>
        rw [if_neg Bool.false_ne_true, if_neg Bool.false_ne_true]
        exact dLcGo_mono ht he hQ r _ _
    · rename_i hb1
      rw [hb1] at h2
      exact h2
abbrev W0 : WX := fun _ _ _ _ => False
structure XTs (X : Cx) (W : WX) (es : List Expr) (t : DT) : Prop where
  mono : MonoT t
  pts : PTs X es (liftT X.K W t)
theorem xts_nil {X : Cx} {W : WX} : XTs X W [] dYes := by
  refine ⟨dYes_mono, ⟨fun pins s σ H Q I h => ?_⟩⟩
  obtain ⟨env, M, re, sm, h⟩ := h
  exact pts_nil.run pins s σ H Q I (h H Ext.refl sm)
theorem xts_one {X : Cx} {W : WX} {c : Expr} {t : DT} (h : XT X W c t) : XTs X W [c] t := ⟨h.mono, pts_one h.pt⟩

section
variable {X : Cx} {W : WX} {elt tg iter : Expr} {ifs : List Expr} {scope : Scope} {own : List (Str × Nat)} {pos : Pos} {ti : DI} {p : Pat} {tt : DT} {te : DE}
theorem lc_up (hi : XI X W tg iter ti) (mt : MonoT tt) (me : MonoE te) (vs : List Nat) (hv : ∀ i ∈ p.slots, i ∈ vs) : ∀ σ H Q, liftE X.K W (dLc ti p tt te vs) σ H Q → tLc (liftI X.K W ti) (p.tg X.K) (liftT X.K W0 tt) (liftE X.K W0 te) vs σ H Q := by
  rintro σ H Q ⟨env, M, re, s, h⟩
  refine ⟨env, M, re, s, hi.mono _ _ _ _ _ _ (fun J M1 q J' H1 e1 s1 ir => ?_) (fun _ _ _ z => z) h⟩
  intro a ha
  have q := q a (s1.free ha)
  have sA : Sim X.K (upd H1 a (.lst [])) (mupd M1 a (.lst [])) := s1.new ha (repO_lst (Ext.new ha) .nil)
  have eA : Ext X.K H1 (upd H1 a (.lst [])) := Ext.new ha
  refine ⟨fun i m H' => m = J.items.length - i ∧ i ≤ J.items.length ∧ Ext X.K H1 H' ∧ ∃ M acc, Sim X.K H' M ∧ dLcGo J.keep p tt te (wipeD env vs) a (upK X.K H Q) (J.items.drop i) acc M,
    ⟨J.items.length, by simp, Nat.zero_le _, eA, _, [], sA, by simpa using q⟩, ?_⟩
  rintro i m H2 ⟨rfl, hi2, e2, M2, acc, s2, q2⟩
  by_cases hlt : i < J.items.length
  · rw [List.drop_eq_getElem_cons hlt] at q2
    obtain ⟨kp, q2⟩ := q2
    refine .inr ⟨ir.go i H2 M2 e2 s2 kp hlt, fun H' => Ext X.K H1 H' ∧ ∃ M acc, Sim X.K H' M ∧ dLcGo J.keep p tt te (wipeD env vs) a (upK X.K H Q) (J.items.drop (i + 1)) acc M, fun H' n => ⟨_, by omega, rfl, hlt, n⟩, fun x H3 y => ?_⟩
    obtain ⟨d, hd, r3, e3, s3⟩ := ir.yld i H2 M2 x H3 e2 s2 kp hlt y
    rw [List.getElem?_eq_getElem hlt] at hd
    obtain rfl := Option.some.inj hd
    split at q2
    · rename_i env3 hb3
      have re3 : RepE X.K H3 (wipeD env vs) (L2.wipe σ vs) := (re.mono ((e1.trans e2).trans e3)).wipe vs
      obtain ⟨σ3, h1, hw, h3⟩ := Pat.rep s3 vs p r3 re3 hb3 hv
      refine h3 _ ⟨hw.trans (wipe_wipe vs), ?_⟩
      refine stepT mt h1 s3 q2 (fun b M4 H4 e4 s4 re4 q4 => ?_) fun _ _ _ z => z.elim
      cases b with
      | true =>
        rw [if_pos rfl] at q4 ⊢
        refine stepE me re4 s4 q4 (fun y M5 u H5 e5 s5 re5 r5 q5 => ?_) fun _ _ _ z => z.elim
        obtain ⟨ma5, lz, q5⟩ := q5
        obtain ⟨us, h5, l5⟩ := s5.lst ma5
        have ex : Ext X.K H5 (upd H5 a (.lst (us ++ [u]))) := Ext.mut h5 True.intro
        refine ⟨us, h5, by rw [l5.length]; exact lz, (((e2.trans e3).trans e4).trans e5).trans ex, _, _, s5.put h5 True.intro (repO_lst ex (RepL.append l5 (.cons r5 .nil))), q5⟩
      | false =>
        rw [if_neg Bool.false_ne_true] at q4 ⊢
        exact ⟨(e2.trans e3).trans e4, M4, acc, s4, q4⟩
    · exact q2.elim
  · have e : i = J.items.length := by omega
    subst e
    rw [List.drop_length] at q2
    exact .inl ⟨ir.stop H2 M2 e2 s2 q2.1, q2.2.2 (.ref a) H2 (e1.trans e2) s2 rep_of⟩
theorem dLc_mono {vs : List Nat} (hi : MonoI ti) (mt : MonoT tt) (me : MonoE te) : MonoE (dLc ti p tt te vs) := fun env M Q Q' E E' hQ hE => hi _ _ _ _ _ _ (fun J M1 q a ha => dLcGo_mono mt me hQ _ _ _ (q a ha)) hE
abbrev BlkAll (X : Cx) (scope : Scope) (P : Cx → Prop) : Prop := ∀ (s : Shared) (H : Hp) (C : Addr) (cl : List (Str × Addr)) (fp : List Addr), P (X.blk s H scope (compEnvC scope cl C X.env) fp)
theorem xe_lc (hc : X.calm = true) (hN : X.N.Nodup) (hi : XI X W tg iter ti) (ok : BlkOk X.N X.env.scope scope own) (hg : BlkAll X scope fun Y => PG Y tg (p.tg X.K)) (ht : BlkAll X scope fun Y => XTs Y W0 ifs tt) (he : BlkAll X scope fun Y => XE Y W0 elt te)
    (hv : p.slots.all (fun i => decide (i ∈ own.map (·.2))) = true := by decide) (hs : ∀ x, foldedSetIterable iter X.env x = pure x := by intro _; rfl) : XE X W (.ListComp elt [⟨tg, iter, ifs, 0⟩] scope pos) (dLc ti p tt te (own.map (·.2))) := by
  have mt := (ht X.s_0 X.H_0 0 [] []).mono
  have me := (he X.s_0 X.H_0 0 [] []).mono
  refine ⟨dLc_mono hi.mono mt me, PEw (pe_lc (g := p.tg X.K) (tt := liftT X.K W0 tt) (te := liftE X.K W0 te) hc hN hi.pi ok hg (fun s H C cl fp => (ht s H C cl fp).pts) (fun s H C cl fp => (he s H C cl fp).pe) hs) (lc_up hi mt me _ fun i h => ?_)⟩
  exact of_decide_eq_true (List.all_eq_true.mp hv i h)
theorem xs_setLc (i : Nat) {y : Str} {py : Pos} {spos : Pos} (hc : X.calm = true) (hN : X.N.Nodup) (hyl : X.env.scope.names.lookup y = some .local) (hsw : swapsWith (.ListComp elt [⟨tg, iter, ifs, 0⟩] scope pos) (some (.Name y py)) spos.line X.env = pure true)
    (hi : XI X W tg iter ti) (ok : BlkOk X.N X.env.scope scope own) (hg : BlkAll X scope fun Y => PG Y tg (p.tg X.K)) (ht : BlkAll X scope fun Y => XTs Y W0 ifs tt) (he : BlkAll X scope fun Y => XE Y W0 elt te)
    (hy : X.N[i]? = some y := by rfl) (hv : p.slots.all (fun i => decide (i ∈ own.map (·.2))) = true := by decide) (hs : ∀ x, foldedSetIterable iter X.env x = pure x := by intro _; rfl) :
    XS X W (.Assign [.Name y py] (.ListComp elt [⟨tg, iter, ifs, 0⟩] scope pos) spos) (dAsg (dLc ti p tt te (own.map (·.2))) (.nm i)) := by
  have mt := (ht X.s_0 X.H_0 0 [] []).mono
  have me := (he X.s_0 X.H_0 0 [] []).mono
  have ml := dLc_mono (p := p) (vs := own.map (·.2)) hi.mono mt me
  refine ⟨dAsg_mono ml, PSw (ps_setLc (g := p.tg X.K) (tt := liftT X.K W0 tt) (te := liftE X.K W0 te) hc hN hy hyl hsw hi.pi ok hg (fun s H C cl fp => (ht s H C cl fp).pts) (fun s H C cl fp => (he s H C cl fp).pe) hs) ?_⟩
  rintro D σ H ⟨env, M, re, s, h⟩
  refine lc_up hi mt me _ (fun i h => of_decide_eq_true (List.all_eq_true.mp hv i h)) σ H _ (stepE ml re s h (fun d M1 u H1 e1 s1 re1 r1 q => ?_) (ends_ex re))
  exact q (σ.set i (some u)) H1 e1 s1 (re1.set r1 i)
end
end PL

namespace PL
open PySem PySem.Spec PyProof.Rows L2

/-! a def's body -/
abbrev bx (P : Program) (w : World) (K : PySem.W.Frag) (mg : Str → Option Value) (base : Heap) (N : List Str) (qual : Str) (st : Stmt) (f : Addr) (cdv : Value) (A : Around) (outer : List Env) (s : Shared) (H : Hp) (E : XK) : Cx :=
  cxOf (L2.CX P w) P w K mg base N qual (defScope st) f cdv A outer s H E
abbrev bW (E : XK) : WX := fun cls d _ H => E cls d H
theorem bx_takes {P : Program} {w : World} {K : PySem.W.Frag} {mg : Str → Option Value} {base : Heap} {N : List Str} {qual : Str} {st : Stmt} {f : Addr} {cdv : Value} {A : Around} {outer : List Env} {s : Shared} {H : Hp} {E : XK} : Takes (bx P w K mg base N qual st f cdv A outer s H E) (bW E) := takes_of rfl rfl rfl rfl
theorem bx_passes {P : Program} {w : World} {K : PySem.W.Frag} {mg : Str → Option Value} {base : Heap} {N : List Str} {qual : Str} {st : Stmt} {f : Addr} {cdv : Value} {A : Around} {outer : List Env} {s : Shared} {H : Hp} {E : XK} :
    PassesOwn (model (bx P w K mg base N qual st f cdv A outer s H E).prog (bx P w K mg base N qual st f cdv A outer s H E).w) (bx P w K mg base N qual st f cdv A outer s H E).A (bx P w K mg base N qual st f cdv A outer s H E).env (bx P w K mg base N qual st f cdv A outer s H E).xe := passes_of rfl
def startD (N : List Str) (ds : List D) : DEnv := ds.map some ++ List.replicate (N.length - ds.length) none
theorem rep_start {K : PySem.W.Frag} {H : Hp} {N : List Str} {ds : List D} {vs : List V} (r : RepL K H ds vs) : RepE K H (startD N ds) (L2.start N vs) := by
  refine ⟨by simp [startD, L2.start, r.length], fun i d h => ?_⟩
  have hi : i < ds.length := by
    by_cases hi : i < ds.length
    · exact hi
    · unfold startD at h
      rw [List.getElem?_append_right (by simpa using hi), List.getElem?_replicate] at h
      split at h <;> cases h
  unfold startD at h
  rw [List.getElem?_append_left (by simpa using hi), List.getElem?_map] at h
  cases e : ds[i]? with
  | none => rw [e] at h; cases h
  | some d' =>
    rw [e] at h
    cases h
    obtain ⟨u, h1, h2⟩ := r.get e
    refine ⟨u, ?_, h2⟩
    unfold L2.start
    rw [List.getElem?_append_left (by simpa [r.length] using hi), List.getElem?_map, h1]
    rfl
def retEnds (Q : DK) (E : DX) : DEnds := { nx := fun _ M' => Q .non M', rt := Q, ex := fun c fs _ M' => E c fs M' }
theorem fn_ok {P : Program} {w : World} {K : PySem.W.Frag} {mg : Str → Option Value} {base : Heap} {x qual : Str} {st : Stmt} {f : Addr} {fd : FuncData} {N ps : List Str} {k : Nat} {sp : DSp} (F : Fun K x qual st f fd) (S : FnScope N ps (defScope st))
    (len : ∀ ds M Q E, sp ds M Q E → ds.length = ps.length)
    (hb : ∃ t : DS, (∀ cdv A outer s H E, Room k (A.deeper (envOfC qual (defScope st) s.heap.objs.size f cdv)) → XSs (bx P w K mg base N qual st f cdv A outer s H E) (bW E) (defBody st) t) ∧
      ∀ ds M Q E, sp ds M Q E → t (retEnds Q E) (startD N ds) M) : FnOk P w K mg base (L2.CX P w) (k + 1) f fd ps (liftSp K sp) := by
  obtain ⟨t, ht, hq⟩ := hb
  refine F.okX S (fun vs H Q E h => ?_) (fun cdv A outer s H vs Q E hr h => ?_)
  · obtain ⟨ds, M, r, _, h⟩ := h
    rw [r.length]
    exact len _ _ _ _ h
  · obtain ⟨ds, M, r, sm, h⟩ := h
    refine ⟨_, (ht cdv A outer s H E hr).ps, startD N ds, M, rep_start r, sm, (ht cdv A outer s H E hr).mono _ _ _ _ ⟨?_, ?_, ?_, ?_, ?_⟩ (hq _ _ _ _ h)⟩
    · exact fun e M' q σ' H' e' s' _ => q .non H' e' s' rep_of
    · exact fun d M' q => q
    · exact fun e M' q => q.elim
    · exact fun e M' q => q.elim
    · exact fun c fs e M' q d σ' H' e' s' _ x => q d H' e' s' x
theorem _root_.L2.Room.u200 {k : Nat} {A : Around} (r : Room k A) : A.units + 200 < cLine := by have := r.un; omega
theorem mkFn {P : Program} {w : World} {K : PySem.W.Frag} {mg : Str → Option Value} {base : Heap} {x : Str} {f : Addr} {fd : FuncData} {ps : List Str} {k : Nat} {sp : DSp} (m : MonoSp sp) (F : FnOk P w K mg base (L2.CX P w) k f fd ps (liftSp K sp)) (hm : mg x = some (.ref f))
    (hk : PySem.W.keepIn K (.ref f) = true) (hb : Binds K fd ps []) : Fn P w K mg base k x sp [] := ⟨m, f, fd, ps, [], [], F, hm, hk, hb, .nil, fun _ => .nil⟩

theorem xe_globE {X : Cx} {W : WX} {x : Str} {v : V} {pos : Pos} (hg : Gl X x) (h : ∃ u, X.mg x = some u ∧ RelV v u) (hd : (x == ("__debug__" : Str)) = false := by decide) : XE X W (.Name x pos) (dC (.v v)) := by
  obtain ⟨u, hm, r⟩ := h
  exact xe_glob hg hm r hd

/-! raise -/
def dRaise (c : Value) (fs : List (Str × D)) : DS := fun Z env M => Z.ex c fs env M
section
variable {X : Cx} {W : WX} {pos : Pos}
theorem xs_raise0 {C : Addr} {e : Expr} (hc : X.calm = true) (tk : Takes X W) (h : PMk X e (fun _ H Q => Q (.ref C) none H)) : XS X W (.Raise (some e) none pos) (dRaise (.ref C) []) := by
  refine ⟨fun D D' env M l h => l.ex _ _ _ _ h, PSw (ps_raise hc tk h) ?_⟩
  rintro D σ H ⟨env, M, re, s, q⟩
  exact q none σ H Ext.refl s re rfl

/-! try: .. except C as n: .. -/
def suiteEnds (i : Nat) (Z : DEnds) : DEnds where
  nx := fun e' => Z.nx (e'.set i none)
  rt := Z.rt
  bk := fun e' => Z.bk (e'.set i none)
  ct := fun e' => Z.ct (e'.set i none)
theorem suiteEnds_le {i : Nat} {Z Z' : DEnds} (l : Z.Le Z') : (suiteEnds i Z).Le (suiteEnds i Z') := ⟨fun _ _ => l.nx _ _, l.rt, fun _ _ => l.bk _ _, fun _ _ => l.ct _ _, fun _ _ _ _ h => h⟩
def exTry (hd : Value → Option Bool) (i : Nat) (ts : Addr → Value → DS) (Z : DEnds) : Value → List (Str × D) → DEnv → Mem → Prop := fun c fs e M' => match hd c with
  | some true => fs = [] ∧ ∀ a, M' a = none → ts a c (suiteEnds i Z) (e.set i (some (.ob a))) M'
  | some false => Z.ex c fs e M'
  | none => False
theorem exTry_mono {hd : Value → Option Bool} {i : Nat} {ts : Addr → Value → DS} (mt : ∀ a c, MonoS (ts a c)) {Z Z' : DEnds} (l : Z.Le Z') : ∀ c fs e M', exTry hd i ts Z c fs e M' → exTry hd i ts Z' c fs e M' := fun c fs e M' q => by
  unfold exTry at q ⊢
  cases hq : hd c with
  | none => rw [hq] at q; exact q
  | some b =>
    rw [hq] at q
    cases b with
    | true => exact ⟨q.1, fun a ha => mt _ _ _ _ _ _ (suiteEnds_le l) (q.2 a ha)⟩
    | false => exact l.ex _ _ _ _ q
def dTryAs (hd : Value → Option Bool) (i : Nat) (tb : DS) (ts : Addr → Value → DS) : DS := fun Z env M => tb { Z with ex := exTry hd i ts Z } env M
theorem xs_tryAs {x n : Str} {c : Value} (i : Nat) {body suite : List Stmt} {b₀ : Stmt} {np pos' : Pos} {tb : DS} {ts : Addr → Value → DS} (hs : X.stack = X.env :: X.outer) (hf : X.env.frame = some X.env.locals) (hN : X.N.Nodup) (hln : X.env.kindOf n = some .local) (hc : Names X x c) (tk : Takes X W)
    (mt : ∀ a c, MonoS (ts a c)) (hb : ∀ (W : WX) (pn : List (Addr × Obj)) (xe : Value → Shared → Prop), Takes (X.tr pn xe) W → PassesOwn (model X.prog X.w) X.A X.env xe → XSs (X.tr pn xe) W body tb)
    (hsu : ∀ (a : Addr) (oe : Obj) (cls : Value) (pn : List (Addr × Obj)), Zc cls none oe → (∃ vs, oe.data = .fields vs) → XSs (X.suite a ((a, oe) :: pn)) W0 (b₀ :: suite) (ts a cls)) (mb : MonoS tb) (hi : X.N[i]? = some n := by rfl) :
    XS X W (.Try body [.ExceptHandler (some (.Name x np)) (some n) (b₀ :: suite) pos'] [] [] pos) (dTryAs (fun z => PySem.W.exmOne X.K z c) i tb ts) := by
  refine ⟨fun Z Z' env M l h => mb { Z with ex := exTry _ i ts Z } _ _ _ ⟨l.nx, l.rt, l.bk, l.ct, exTry_mono mt l⟩ h, PSw (ps_try_as (tb := fun W' => liftS X.K W' tb) (ts := fun a cls d D σ H => d = none ∧ liftS X.K W0 (ts a cls) D σ H) hs hf hN hi hln hc tk (fun W' pn xe t p => (hb W' pn xe t p).ps) fun a oe cls d pn hz hv => ?_) ?_⟩
  · refine ⟨fun pins s σ H D I h => ?_⟩
    obtain ⟨rfl, h⟩ := h
    exact (hsu a oe cls pn hz hv).ps.run pins s σ H D I h
  · rintro D σ H ⟨env, M, re, s, h⟩
    refine ⟨env, M, re, s, mb { upEnds X.K W H D with ex := exTry (fun z => PySem.W.exmOne X.K z c) i ts (upEnds X.K W H D) } _ _ _ ⟨fun _ _ q => q, fun _ _ q => q, fun _ _ q => q, fun _ _ q => q, fun c' fs e M' q d σ' H' e' s' re' rx => ?_⟩ h⟩
    have q : exTry (fun z => PySem.W.exmOne X.K z c) i ts (upEnds X.K W H D) c' fs e M' := q
    unfold exTry at q
    dsimp only at q
    cases hq : PySem.W.exmOne X.K c' c with
    | none => rw [hq] at q; exact q.elim
    | some b =>
      rw [hq] at q
      refine ⟨b, hq, ?_, ?_⟩
      · rintro rfl a ha
        obtain ⟨hfs, q⟩ := q
        have hd : d = none := by
          cases d with
          | none => rfl
          | some d => exact absurd hfs rx.1
        refine ⟨hd, e.set i (some (.ob a)), M', re'.set rep_of i, s', mt _ _ (suiteEnds i (upEnds X.K W H D)) _ _ _ ⟨?_, ?_, ?_, ?_, ?_⟩ (q a (s'.free ha))⟩
        · exact fun e2 M2 z σ2 H2 x2 s2 r2 => z (σ2.set i none) H2 (e'.trans x2) s2 (r2.clear i)
        · exact fun d2 M2 z u2 H2 x2 s2 r2 => z u2 H2 (e'.trans x2) s2 r2
        · exact fun e2 M2 z σ2 H2 x2 s2 r2 => z (σ2.set i none) H2 (e'.trans x2) s2 (r2.clear i)
        · exact fun e2 M2 z σ2 H2 x2 s2 r2 => z (σ2.set i none) H2 (e'.trans x2) s2 (r2.clear i)
        · exact fun c f e2 M2 z => z.elim
      · rintro rfl
        exact q d σ' H' e' s' re' rx
end
end PL

namespace PL
open PySem PySem.Spec PyProof.Rows L2

/-! stepping: each rule fires only where a reading has all its arguments -/
def DEnds.to (Z : DEnds) (n : DEnv → Mem → Prop) : DEnds := { Z with nx := n }
def DEnds.lp (Z : DEnds) (n : DEnv → Mem → Prop) : DEnds := { Z with nx := n, ct := n, bk := Z.nx }
def exK (Z : DEnds) (env : DEnv) : DX := fun c f M => Z.ex c f env M
def bifM (b : Bool) (f g : Mem → Prop) (M : Mem) : Prop := if b = true then f M else g M
def optB (b : Option Bool) (Q : Bool → Mem → Prop) (M : Mem) : Prop := match b with
  | some b => Q b M
  | none => False
def optE (e : Option DEnv) (Q : DEnv → Mem → Prop) (M : Mem) : Prop := match e with
  | some e => Q e M
  | none => False
def nxD (Z : DEnds) (env : DEnv) : DK := fun _ M => Z.nx env M
def ifK (t u : DS) (Z : DEnds) (env : DEnv) : Bool → Mem → Prop := fun b M => bifM b (t Z env) (u Z env) M
def asgK (p : Pat) (Z : DEnds) (env : DEnv) : DK := fun d M => optE (p.bind M d env) Z.nx M
def putK3 (o z : D) (Z : DEnds) (env : DEnv) : DK := fun i M => (opPut o i z M).run M (nxD Z env)
def putK2 (ti : DE) (z : D) (Z : DEnds) (env : DEnv) : DK := fun o M => ti env M (putK3 o z Z env) (exK Z env)
def putK1 (to ti : DE) (Z : DEnds) (env : DEnv) : DK := fun z M => to env M (putK2 ti z Z env) (exK Z env)
def augK2 (i : Nat) (Z : DEnds) (env : DEnv) : DK := fun z M => Z.nx (env.set i (some z)) M
def augK (i : Nat) (r : DOp2) (x : D) (Z : DEnds) (env : DEnv) : DK := fun y M => (r x y M).run M (augK2 i Z env)
def augV (i : Nat) (r : DOp2) (te : DE) (Z : DEnds) (env : DEnv) (M : Mem) : Option (Option D) → Prop
  | some (some x) => te env M (augK i r x Z env) (exK Z env)
  | _ => False
def varK (M : Mem) (Q : DK) : Option (Option D) → Prop
  | some (some x) => Q x M
  | _ => False
def binK2 (r : DOp2) (x : D) (Q : DK) : DK := fun y M => (r x y M).run M Q
def binK1 (r : DOp2) (tb : DE) (env : DEnv) (Q : DK) (E : DX) : DK := fun x M => tb env M (binK2 r x Q) E
def cbK (r : DCall) (Q : DK) : List D → Mem → Prop := fun ds M => (r ds M).run M Q
def callK (sp : DSp) (dvs : List D) (Q : DK) (E : DX) : List D → Mem → Prop := fun ds M => sp (ds ++ dvs) M Q E
def mK2 (r : DMeth) (x : D) (Q : DK) : List D → Mem → Prop := fun ds M => (r x ds M).run M Q
def mK1 (T : String) (r : DMeth) (t : DA) (env : DEnv) (Q : DK) (E : DX) : DK := fun x M => isTy T x M ∧ t env M (mK2 r x Q) E
def consK2 (d : D) (Q : List D → Mem → Prop) : List D → Mem → Prop := fun ds M => Q (d :: ds) M
def consK1 (tr : DA) (env : DEnv) (Q : List D → Mem → Prop) (E : DX) : DK := fun d M => tr env M (consK2 d Q) E
def tupK (n : Nat) (Q : DK) : List D → Mem → Prop := fun ds M => ds.length = n ∧ Q (.tup ds) M
def lstK (n : Nat) (Q : DK) : List D → Mem → Prop := fun ds M => ds.length = n ∧ (Res.new True (.lst ds)).run M Q
def trK (Q : Bool → Mem → Prop) : DK := fun d M => optB (truth M d) Q M
def tK (u : DT) (env : DEnv) (Q : Bool → Mem → Prop) (E : DX) : Mem → Prop := fun M => u env M Q E
def eK (u : DE) (env : DEnv) (Q : DK) (E : DX) : Mem → Prop := fun M => u env M Q E
def cK {α : Type} (x : α) (Q : α → Mem → Prop) : Mem → Prop := fun M => Q x M
def andK (u : DT) (env : DEnv) (Q : Bool → Mem → Prop) (E : DX) : Bool → Mem → Prop := fun b M => bifM b (tK u env Q E) (cK false Q) M
def orK (u : DT) (env : DEnv) (Q : Bool → Mem → Prop) (E : DX) : Bool → Mem → Prop := fun b M => bifM b (cK true Q) (tK u env Q E) M
def notK (Q : Bool → Mem → Prop) : Bool → Mem → Prop := fun b M => Q (!b) M
def ifeK (ta tb : DE) (env : DEnv) (Q : DK) (E : DX) : Bool → Mem → Prop := fun b M => bifM b (eK ta env Q E) (eK tb env Q E) M
def andvK2 (d : D) (tb : DE) (env : DEnv) (Q : DK) (E : DX) : Bool → Mem → Prop := fun b M => bifM b (eK tb env Q E) (cK d Q) M
def orvK2 (d : D) (tb : DE) (env : DEnv) (Q : DK) (E : DX) : Bool → Mem → Prop := fun b M => bifM b (cK d Q) (eK tb env Q E) M
def andvK (tb : DE) (env : DEnv) (Q : DK) (E : DX) : DK := fun d M => optB (truth M d) (andvK2 d tb env Q E) M
def orvK (tb : DE) (env : DEnv) (Q : DK) (E : DX) : DK := fun d M => optB (truth M d) (orvK2 d tb env Q E) M
def blK (Q : DK) : Bool → Mem → Prop := fun b M => Q (.bl b) M
def notvK (Q : DK) : DK := fun d M => optB (truth M d) (notK (blK Q)) M
def negK (Q : DK) : DK := fun d M => match d with
  | .v (.int i) => Q (.int (-i)) M
  | _ => False
def slK3 (x : D) (l : Option Int) (Q : DK) : Option Int → Mem → Prop := fun u M => (opSl x l u M).run M Q
def slK2 (x : D) (th : DO) (env : DEnv) (Q : DK) (E : DX) : Option Int → Mem → Prop := fun l M => th env M (slK3 x l Q) E
def slK1 (tl th : DO) (env : DEnv) (Q : DK) (E : DX) : DK := fun x M => tl env M (slK2 x th env Q E) E
def partK (Q : Option Int → Mem → Prop) : DK := fun d M => match d with
  | .v (.int i) => Q (some i) M
  | _ => False
def revR : D → Mem → Res
  | .v (.ref a), M => match M a with
    | some (.lst ds) => .new True (.lst ds.reverse)
    | _ => .bad
  | _, _ => .bad
def revK (Q : DK) : DK := fun d M => (revR d M).run M Q
def forK (p : Pat) (tb : DS) (Z : DEnds) (env : DEnv) : DIt → Mem → Prop := fun J M => dLoop J.keep p tb Z J.items env M
def lcK (p : Pat) (tt : DT) (te : DE) (vs : List Nat) (env : DEnv) (Q : DK) : DIt → Mem → Prop := fun J M => ∀ a, M a = none → dLcGo J.keep p tt te (wipeD env vs) a Q J.items [] (mupd M a (.lst []))
def walkO (R : DIt → Mem → Prop) (a : Addr) (M : Mem) : Option Ob → Prop
  | some (.lst ds) => R ⟨ds, fun M => M a = some (.lst ds) ∨ M a = some (.rol ds)⟩ M
  | some (.rol ds) => R ⟨ds, fun M => M a = some (.lst ds) ∨ M a = some (.rol ds)⟩ M
  | _ => False
def walkR (R : DIt → Mem → Prop) : DK := fun d M => match d with
  | .tup ds => R ⟨ds, fun _ => True⟩ M
  | .v (.str x) => R ⟨signs x, fun _ => True⟩ M
  | .v (.ref a) => walkO R a M (M a)
  | _ => False
def rng1K (R : DIt → Mem → Prop) : List D → Mem → Prop := fun ds M => match ds with
  | [.v (.int j)] => (-(2 ^ 62) ≤ j ∧ j < 2 ^ 62) ∧ R ⟨rg 0 j.toNat, fun _ => True⟩ M
  | _ => False
def rng2K (R : DIt → Mem → Prop) : List D → Mem → Prop := fun ds M => match ds with
  | [.v (.int i), .v (.int j)] => (-(2 ^ 62) ≤ i ∧ i < 2 ^ 62 ∧ -(2 ^ 62) ≤ j ∧ j < 2 ^ 62) ∧ R ⟨rg i (j - i).toNat, fun _ => True⟩ M
  | _ => False
def clK (sp : DSp) (Q : DK) (E : DX) : List D → Mem → Prop := fun ds M => sp ds M Q E
def callLO (t : DA) (env : DEnv) (M : Mem) (Q : DK) (E : DX) : Option DSp → Prop
  | some sp => t env M (clK sp Q E) E
  | none => False
def callLK (S : Addr → Option DSp) (t : DA) (env : DEnv) (M : Mem) (Q : DK) (E : DX) : Option (Option D) → Prop
  | some (some (.v (.ref f))) => callLO t env M Q E (S f)
  | _ => False

section
variable {Z : DEnds} {env : DEnv} {M : Mem} {Q : DK} {E : DX} {n : DEnv → Mem → Prop}
theorem to_nx : (Z.to n).nx = n := id rfl
theorem to_rt : (Z.to n).rt = Z.rt := id rfl
theorem to_bk : (Z.to n).bk = Z.bk := id rfl
theorem to_ct : (Z.to n).ct = Z.ct := id rfl
theorem to_ex : (Z.to n).ex = Z.ex := id rfl
theorem lp_nx : (Z.lp n).nx = n := id rfl
theorem lp_rt : (Z.lp n).rt = Z.rt := id rfl
theorem lp_bk : (Z.lp n).bk = Z.nx := id rfl
theorem lp_ct : (Z.lp n).ct = n := id rfl
theorem lp_ex : (Z.lp n).ex = Z.ex := id rfl
theorem ret_nx {E : DX} : (retEnds Q E).nx env M = Q .non M := id rfl
theorem ret_rt {E : DX} : (retEnds Q E).rt = Q := id rfl
theorem ret_ex {E : DX} {c f} : (retEnds Q E).ex c f env M = E c f M := id rfl
theorem s_exK {c f} : exK Z env c f M = Z.ex c f env M := id rfl
theorem s_bif1 {f g} : bifM true f g M = f M := id rfl
theorem s_bif0 {f g} : bifM false f g M = g M := id rfl
theorem s_optB {b R} : optB (some b) R M = R b M := id rfl
theorem s_optE {e R} : optE (some e) R M = R e M := id rfl
theorem s_nxD {d} : nxD Z env d M = Z.nx env M := id rfl
theorem s_ifK {t u b} : ifK t u Z env b M = bifM b (t Z env) (u Z env) M := id rfl
theorem s_asgN {i d} : asgK (.nm i) Z env d M = Z.nx (env.set i (some d)) M := id rfl
theorem s_asgT {ps ds} : asgK (.tp ps) Z env (.tup ds) M = optE (bindL M ps ds env) Z.nx M := by simp only [asgK, Pat.bind, seqOf]
theorem s_asgL {ps a} : asgK (.tp ps) Z env (.ob a) M = optE ((Pat.tp ps).bind M (.ob a) env) Z.nx M := id rfl
theorem b_nil : bindL M [] [] env = some env := id rfl
theorem b_nm {i d ps ds} : bindL M (.nm i :: ps) (d :: ds) env = bindL M ps ds (env.set i (some d)) := id rfl
theorem b_tp {qs es ps ds} : bindL M (.tp qs :: ps) (.tup es :: ds) env = (match bindL M qs es env with | some e => bindL M ps ds e | none => none) := by simp only [bindL, Pat.bind, seqOf] <;> rfl
theorem s_next : dNext Z env M = Z.nx env M := id rfl
theorem s_seq {t u} : dSeq t u Z env M = t (Z.to (u Z)) env M := id rfl
theorem s_drop {te} : dDrop te Z env M = te env M (nxD Z env) (exK Z env) := id rfl
theorem s_ret {te} : dRet te Z env M = te env M Z.rt (exK Z env) := id rfl
theorem s_retN : dRetN Z env M = Z.rt .non M := id rfl
theorem s_ifS {tc t u} : dIfS tc t u Z env M = tc env M (ifK t u Z env) (exK Z env) := id rfl
theorem s_asg {te p} : dAsg te p Z env M = te env M (asgK p Z env) (exK Z env) := id rfl
theorem s_brk : dBrk Z env M = Z.bk env M := id rfl
theorem s_cont : dCont Z env M = Z.ct env M := id rfl
theorem s_put {te to ti} : dPut te to ti Z env M = te env M (putK1 to ti Z env) (exK Z env) := id rfl
theorem s_put1 {to ti z} : putK1 to ti Z env z M = to env M (putK2 ti z Z env) (exK Z env) := id rfl
theorem s_put2 {ti z o} : putK2 ti z Z env o M = ti env M (putK3 o z Z env) (exK Z env) := id rfl
theorem s_put3 {z o i} : putK3 o z Z env i M = (opPut o i z M).run M (nxD Z env) := id rfl
theorem s_aug {i r te} : dAug i r te Z env M = augV i r te Z env M env[i]? := id rfl
theorem s_augV {i r te} {x : D} : augV i r te Z env M (some (some x)) = te env M (augK i r x Z env) (exK Z env) := id rfl
theorem s_augK {i r x y} : augK i r x Z env y M = (r x y M).run M (augK2 i Z env) := id rfl
theorem s_augK2 {i z} : augK2 i Z env z M = Z.nx (env.set i (some z)) M := id rfl
theorem s_bin {r ta tb} : dBin r ta tb env M Q E = ta env M (binK1 r tb env Q E) E := id rfl
theorem s_bin1 {r tb x} : binK1 r tb env Q E x M = tb env M (binK2 r x Q) E := id rfl
theorem s_bin2 {r x y} : binK2 r x Q y M = (r x y M).run M Q := id rfl
theorem s_var {i} : dVar i env M Q E = varK M Q env[i]? := id rfl
theorem s_varK {x : D} : varK M Q (some (some x)) = Q x M := id rfl
theorem s_C {d} : dC d env M Q E = Q d M := id rfl
theorem s_cb {r t} : dCB r t env M Q E = t env M (cbK r Q) E := id rfl
theorem s_cbK {r ds} : cbK r Q ds M = (r ds M).run M Q := id rfl
theorem s_call {sp dvs t} : dCall sp dvs t env M Q E = t env M (callK sp dvs Q E) E := id rfl
theorem s_callK {sp ds} : callK sp [] Q E ds M = sp ds M Q E := by unfold callK; rw [List.append_nil]
theorem s_m {T r to t} : dBM T r to t env M Q E = to env M (mK1 T r t env Q E) E := id rfl
theorem s_m1 {T r t x} : mK1 T r t env Q E x M = (isTy T x M ∧ t env M (mK2 r x Q) E) := id rfl
theorem s_m2 {r x ds} : mK2 r x Q ds M = (r x ds M).run M Q := id rfl
theorem s_nil {R} : dNil env M R E = R [] M := id rfl
theorem s_cons {ta tr R} : dCons ta tr env M R E = ta env M (consK1 tr env R E) E := id rfl
theorem s_cons1 {tr R d} : consK1 tr env R E d M = tr env M (consK2 d R) E := id rfl
theorem s_cons2 {d R ds} : consK2 d R ds M = R (d :: ds) M := id rfl
theorem s_tup {n t} : dTup n t env M Q E = t env M (tupK n Q) E := id rfl
theorem s_tupK {n ds} : tupK n Q ds M = (ds.length = n ∧ Q (.tup ds) M) := id rfl
theorem s_lst {n t} : dLst n t env M Q E = t env M (lstK n Q) E := by unfold dLst lstK; simp [Res.run]
theorem s_lstK {n ds} : lstK n Q ds M = (ds.length = n ∧ (Res.new True (.lst ds)).run M Q) := id rfl
theorem s_truth {t R} : dTruth t env M R E = t env M (trK R) E := id rfl
theorem s_trK {R d} : trK R d M = optB (truth M d) R M := id rfl
theorem s_tK {u R} : tK u env R E M = u env M R E := id rfl
theorem s_eK {u} : eK u env Q E M = u env M Q E := id rfl
theorem s_cK {α} {x : α} {R} : cK x R M = R x M := id rfl
theorem s_and {t u R} : dAnd t u env M R E = t env M (andK u env R E) E := id rfl
theorem s_andK {u R b} : andK u env R E b M = bifM b (tK u env R E) (cK false R) M := id rfl
theorem s_or {t u R} : dOr t u env M R E = t env M (orK u env R E) E := id rfl
theorem s_orK {u R b} : orK u env R E b M = bifM b (cK true R) (tK u env R E) M := id rfl
theorem s_not {t R} : dNot t env M R E = t env M (notK R) E := id rfl
theorem s_notK {R b} : notK R b M = R (!b) M := id rfl
theorem s_ife {t ta tb} : dIf t ta tb env M Q E = t env M (ifeK ta tb env Q E) E := id rfl
theorem s_ifeK {ta tb b} : ifeK ta tb env Q E b M = bifM b (eK ta env Q E) (eK tb env Q E) M := id rfl
theorem optB_if {b : Option Bool} {f g : Mem → Prop} : (match b with | some true => f M | some false => g M | none => False) = optB b (fun b M => bifM b f g M) M := by
  cases b with
  | none => rfl
  | some b => cases b <;> rfl
theorem s_andV {ta tb} : dAndV ta tb env M Q E = ta env M (andvK tb env Q E) E := by
  unfold dAndV andvK
  congr 1
  funext d M1
  cases truth M1 d with
  | none => rfl
  | some b => cases b <;> rfl
theorem s_orV {ta tb} : dOrV ta tb env M Q E = ta env M (orvK tb env Q E) E := by
  unfold dOrV orvK
  congr 1
  funext d M1
  cases truth M1 d with
  | none => rfl
  | some b => cases b <;> rfl
theorem s_andvK {tb d} : andvK tb env Q E d M = optB (truth M d) (andvK2 d tb env Q E) M := id rfl
theorem s_orvK {tb d} : orvK tb env Q E d M = optB (truth M d) (orvK2 d tb env Q E) M := id rfl
theorem s_andvK2 {tb d b} : andvK2 d tb env Q E b M = bifM b (eK tb env Q E) (cK d Q) M := id rfl
theorem s_orvK2 {tb d b} : orvK2 d tb env Q E b M = bifM b (cK d Q) (eK tb env Q E) M := id rfl
theorem s_notV {ta} : dNotV ta env M Q E = ta env M (notvK Q) E := id rfl
theorem s_notvK {d} : notvK Q d M = optB (truth M d) (notK (blK Q)) M := id rfl
theorem s_blK {b} : blK Q b M = Q (.bl b) M := id rfl
theorem s_neg {ta} : dNeg ta env M Q E = ta env M (negK Q) E := id rfl
theorem s_negK {i} : negK Q (.int i) M = Q (.int (-i)) M := id rfl
theorem s_sl {ta tl th} : dSl ta tl th env M Q E = ta env M (slK1 tl th env Q E) E := id rfl
theorem s_sl1 {tl th x} : slK1 tl th env Q E x M = tl env M (slK2 x th env Q E) E := id rfl
theorem s_sl2 {th x l} : slK2 x th env Q E l M = th env M (slK3 x l Q) E := id rfl
theorem s_sl3 {x l u} : slK3 x l Q u M = (opSl x l u M).run M Q := id rfl
theorem s_noPart {R} : dNoPart env M R E = R none M := id rfl
theorem s_part {t R} : dPart t env M R E = t env M (partK R) E := id rfl
theorem s_partK {R i} : partK R (.int i) M = R (some i) M := id rfl
theorem s_rev {te} : dRev te env M Q E = te env M (revK Q) E := by
  unfold dRev
  congr 1
  funext d M1
  unfold revK revR
  cases d with
  | tup _ => rfl
  | v x => cases x with
    | ref a =>
      dsimp only
      cases M1 a with
      | none => rfl
      | some o => cases o <;> simp [Res.run]
    | _ => rfl
theorem s_revK {d} : revK Q d M = (revR d M).run M Q := id rfl
theorem s_for {ti p tb} : dFor ti p tb Z env M = ti env M (forK p tb Z env) (exK Z env) := id rfl
theorem s_forK {p tb its kp} : forK p tb Z env ⟨its, kp⟩ M = dLoop kp p tb Z its env M := id rfl
theorem s_lc {ti p tt te vs} : dLc ti p tt te vs env M Q E = ti env M (lcK p tt te vs env Q) E := id rfl
theorem s_lcK {p tt te vs its kp} : lcK p tt te vs env Q ⟨its, kp⟩ M = ∀ a, M a = none → dLcGo kp p tt te (wipeD env vs) a Q its [] (mupd M a (.lst [])) := id rfl
theorem s_yes {R} : dYes env M R E = R true M := id rfl
theorem s_walk {te R} : dWalk te env M R E = te env M (walkR R) E := id rfl
theorem s_walkT {R ds} : walkR R (.tup ds) M = R ⟨ds, fun _ => True⟩ M := id rfl
theorem s_walkS {R x} : walkR R (.str x) M = R ⟨signs x, fun _ => True⟩ M := id rfl
theorem s_walkA {R a} : walkR R (.ob a) M = walkO R a M (M a) := id rfl
theorem s_walkL {R a ds} : walkO R a M (some (.lst ds)) = R ⟨ds, fun M => M a = some (.lst ds) ∨ M a = some (.rol ds)⟩ M := id rfl
theorem s_walkR {R a ds} : walkO R a M (some (.rol ds)) = R ⟨ds, fun M => M a = some (.lst ds) ∨ M a = some (.rol ds)⟩ M := id rfl
theorem s_rng1 {ta R} : dRange1 ta env M R E = ta env M (rng1K R) E := id rfl
theorem s_rng2 {ta R} : dRange2 ta env M R E = ta env M (rng2K R) E := id rfl
theorem s_rng1K {R j} : rng1K R [.int j] M = ((-(2 ^ 62) ≤ j ∧ j < 2 ^ 62) ∧ R ⟨rg 0 j.toNat, fun _ => True⟩ M) := id rfl
theorem s_rng2K {R i j} : rng2K R [.int i, .int j] M = ((-(2 ^ 62) ≤ i ∧ i < 2 ^ 62 ∧ -(2 ^ 62) ≤ j ∧ j < 2 ^ 62) ∧ R ⟨rg i (j - i).toNat, fun _ => True⟩ M) := id rfl
theorem s_callL {i S t} : dCallL i S t env M Q E = callLK S t env M Q E env[i]? := id rfl
theorem s_callLK {S f t} : callLK S t env M Q E (some (some (.ob f))) = callLO t env M Q E (S f) := id rfl
theorem s_callLO {sp t} : callLO t env M Q E (some sp) = t env M (clK sp Q E) E := id rfl
theorem s_clK {sp ds} : clK sp Q E ds M = sp ds M Q E := id rfl
theorem s_raise {c fs} : dRaise c fs Z env M = Z.ex c fs env M := id rfl

/-! results -/
theorem r_val {c d} : (Res.val c d).run M Q = (c ∧ Q d M) := id rfl
theorem r_new {c o} : (Res.new c o).run M Q = (c ∧ ∀ p, M p = none → Q (.ob p) (mupd M p o)) := id rfl
theorem r_put {c a o d} : (Res.put c a o d).run M Q = (c ∧ Q d (mupd M a o)) := id rfl
end
/-- memory grows, but for what is told -/
def Keep (S : List Addr) (M M' : Mem) : Prop := ∀ b o, M b = some o → b ∉ S → M' b = some o
theorem Keep.refl {S M} : Keep S M M := fun _ _ h _ => h
theorem Keep.trans {S M M' M''} (h : Keep S M M') (g : Keep S M' M'') : Keep S M M'' := fun b o e n => g b o (h b o e n) n
theorem Keep.new {S M p o} (h : M p = none) : Keep S M (mupd M p o) := fun b o' e _ => by
  have : b ≠ p := fun z => by rw [z, h] at e; cases e
  show (if b = p then _ else _) = _
  rw [if_neg this]; exact e
theorem Keep.put {S M a o} (h : a ∈ S) : Keep S M (mupd M a o) := fun b o' e n => by
  have : b ≠ a := fun z => n (z ▸ h)
  show (if b = a then _ else _) = _
  rw [if_neg this]; exact e
theorem Keep.weaken {S T M M'} (h : Keep S M M') (s : ∀ a ∈ S, a ∈ T) : Keep T M M' := fun b o e n => h b o e fun z => n (s _ z)
/-- changes at new places are free -/
theorem Keep.drop {S M M' p} (h : Keep (p :: S) M M') (hp : M p = none) : Keep S M M' := fun b o e n => h b o e fun z => by
  rcases List.mem_cons.mp z with z | z
  · rw [z, hp] at e; cases e
  · exact n z
theorem Keep.fresh {M M' p} (h : Keep [] M M') (hp : M' p = none) : M p = none := by
  cases e : M p with
  | none => rfl
  | some o =>
    have := h p o e (by simp)
    rw [hp] at this
    cases this
theorem ne_new {M : Mem} {a p : Addr} {o} (ha : M a = some o) (hp : M p = none) : a ≠ p := fun e => by rw [e, hp] at ha; cases ha
theorem ne_new' {M : Mem} {a p : Addr} {o} (ha : M a = some o) (hp : M p = none) : p ≠ a := (ne_new ha hp).symm
theorem mupd_none {M : Mem} {p q : Addr} {o} : (mupd M p o q = none) = (q ≠ p ∧ M q = none) := by
  unfold mupd
  by_cases h : q = p <;> simp [h]
/-- a new list -/
theorem run_new {c : Prop} {o : Ob} {M : Mem} {Q : DK} (hc : c) (h : ∀ p M1, M p = none → M1 p = some o → Keep [] M M1 → Q (.ob p) M1) : (Res.new c o).run M Q :=
  ⟨hc, fun p hp => h p _ hp mupd_same (Keep.new hp)⟩
theorem bif_of {b : Bool} {f g : Mem → Prop} {M : Mem} (h1 : b = true → f M) (h0 : b = false → g M) : bifM b f g M := by
  cases b with
  | true => exact h1 rfl
  | false => exact h0 rfl
theorem bif_dec {p : Prop} [Decidable p] {f g : Mem → Prop} {M : Mem} (h1 : p → f M) (h0 : ¬ p → g M) : bifM (decide p) f g M := bif_of (fun h => h1 (of_decide_eq_true h)) fun h => h0 (of_decide_eq_false h)
theorem bif_pos {p : Prop} [Decidable p] {f g : Mem → Prop} {M : Mem} (h : p) (q : f M) : bifM (decide p) f g M := by rw [decide_eq_true h]; exact q
theorem bif_neg {p : Prop} [Decidable p] {f g : Mem → Prop} {M : Mem} (h : ¬ p) (q : g M) : bifM (decide p) f g M := by rw [decide_eq_false h]; exact q

/-- a test that gives b -/
theorem ifS_by {tc : DT} {t u : DS} {Z : DEnds} {env : DEnv} {M : Mem} (p : Prop) [Decidable p] (h : ∀ Q E, Q (decide p) M → tc env M Q E) (h1 : p → t Z env M) (h0 : ¬ p → u Z env M) : dIfS tc t u Z env M := by
  refine h _ _ ?_
  by_cases z : p
  · rw [decide_eq_true z]; exact h1 z
  · rw [decide_eq_false z]; exact h0 z
/-- two statements: what is true between them -/
theorem seq_mid {t u : DS} {Z : DEnds} {env : DEnv} {M : Mem} (R : DEnv → Mem → Prop) (h1 : ∀ N, (∀ e M', R e M' → N e M') → t (Z.to N) env M) (h2 : ∀ e M', R e M' → u Z e M') : dSeq t u Z env M := h1 (u Z) h2
/-- an if with statements behind it: what is true there -/
theorem bif_mid {b : Bool} {t u : DS} {Z : DEnds} {n : DEnv → Mem → Prop} {env : DEnv} {M : Mem} (R : DEnv → Mem → Prop) (h1 : b = true → ∀ N, (∀ e M', R e M' → N e M') → t (Z.to N) env M) (h0 : b = false → ∀ N, (∀ e M', R e M' → N e M') → u (Z.to N) env M) (h2 : ∀ e M', R e M' → n e M') :
    bifM b (t (Z.to n) env) (u (Z.to n) env) M := by
  cases b with
  | true => exact h1 rfl n h2
  | false => exact h0 rfl n h2
theorem bif_midD {p : Prop} [Decidable p] {t u : DS} {Z : DEnds} {n : DEnv → Mem → Prop} {env : DEnv} {M : Mem} (R : DEnv → Mem → Prop) (h1 : p → ∀ N, (∀ e M', R e M' → N e M') → t (Z.to N) env M) (h0 : ¬ p → ∀ N, (∀ e M', R e M' → N e M') → u (Z.to N) env M) (h2 : ∀ e M', R e M' → n e M') :
    bifM (decide p) (t (Z.to n) env) (u (Z.to n) env) M := bif_mid R (fun h => h1 (of_decide_eq_true h)) (fun h => h0 (of_decide_eq_false h)) h2
/-- for: what is true ahead of each turn; items are the pictures of xs -/
theorem loop_inv {α : Type} (f : α → D) {kp : Mem → Prop} {p : Pat} {tb : DS} {Z : DEnds} (I : List α → DEnv → Mem → Prop) (hk : ∀ r env M, I r env M → kp M)
    (step : ∀ x r env M N, I (x :: r) env M → (∀ e M', I r e M' → N e M') → optE (p.bind M (f x) env) (tb (Z.lp N)) M) (done : ∀ env M, I [] env M → Z.nx env M) :
    ∀ (xs : List α) (env : DEnv) (M : Mem), I xs env M → dLoop kp p tb Z (xs.map f) env M
  | [], env, M, h => ⟨hk _ _ _ h, done _ _ h⟩
  | x :: r, env, M, h => by
    refine ⟨hk _ _ _ h, ?_⟩
    have q := step x r env M (dLoop kp p tb Z (r.map f)) h (loop_inv f I hk step done r)
    unfold optE at q
    split at q
    · rename_i env1 hb
      first | exact q | (rw [hb]; exact q)
    · exact q.elim
def whK (tb : DS) (Z : DEnds) (N : DEnv → Mem → Prop) (env : DEnv) : Bool → Mem → Prop := fun b M => bifM b (tb (Z.lp N) env) (Z.nx env) M
theorem s_whK {tb : DS} {Z : DEnds} {N : DEnv → Mem → Prop} {env : DEnv} {b : Bool} {M : Mem} : whK tb Z N env b M = bifM b (tb (Z.lp N) env) (Z.nx env) M := id rfl
/-- while: what is true ahead of each turn, with a number that falls -/
theorem while_inv {tc : DT} {tb : DS} {Z : DEnds} (I : Nat → DEnv → Mem → Prop)
    (step : ∀ n env M N, I n env M → (∀ m e M', m < n → I m e M' → N e M') → tc env M (whK tb Z N env) (exK Z env)) {n : Nat} {env : DEnv} {M : Mem} (h : I n env M) : dWhile tc tb Z env M := by
  have go : ∀ k n env M, n < k → I n env M → dWhileN tc tb Z k env M := by
    intro k
    induction k with
    | zero => intro n env M h; omega
    | succ k ih => exact fun n env M hk h => step n env M (dWhileN tc tb Z k) h fun m e M' hm => ih m e M' (by omega)
  exact ⟨n + 1, go (n + 1) n env M (Nat.lt_succ_self n) h⟩
def lcY (a : Addr) (acc : List D) (N : List D → Mem → Prop) : DK := fun y M => M a = some (.lst acc) ∧ acc.length < sizeLine ∧ N (acc ++ [y]) (mupd M a (.lst (acc ++ [y])))
def lcT (te : DE) (a : Addr) (acc : List D) (N : List D → Mem → Prop) (env : DEnv) : Bool → Mem → Prop := fun b M => bifM b (eK te env (lcY a acc N) noX) (N acc) M
def lcE (tt : DT) (te : DE) (a : Addr) (acc : List D) (N : List D → Mem → Prop) (env : DEnv) (M : Mem) : Prop := tt env M (lcT te a acc N env) noX
section
variable {te : DE} {tt : DT} {a : Addr} {acc : List D} {N : List D → Mem → Prop} {env : DEnv} {M : Mem} {y : D} {b : Bool}
theorem s_lcY : lcY a acc N y M = (M a = some (.lst acc) ∧ acc.length < sizeLine ∧ N (acc ++ [y]) (mupd M a (.lst (acc ++ [y])))) := id rfl
theorem s_lcT : lcT te a acc N env b M = bifM b (eK te env (lcY a acc N) noX) (N acc) M := id rfl
theorem s_lcE : lcE tt te a acc N env M = tt env M (lcT te a acc N env) noX := id rfl
end
/-- a comprehension: what is true ahead of each turn; a: the new list -/
theorem lc_inv {α : Type} (f : α → D) {kp : Mem → Prop} {p : Pat} {tt : DT} {te : DE} {env : DEnv} {a : Addr} {Q : DK} (I : List α → List D → Mem → Prop) (hk : ∀ r acc M, I r acc M → kp M ∧ M a = some (.lst acc))
    (step : ∀ x r acc M (N : List D → Mem → Prop), I (x :: r) acc M → (∀ acc' M', I r acc' M' → N acc' M') → optE (p.bind M (f x) env) (lcE tt te a acc N) M)
    (done : ∀ acc M, I [] acc M → Q (.ob a) M) : ∀ (xs : List α) (acc : List D) (M : Mem), I xs acc M → dLcGo kp p tt te env a Q (xs.map f) acc M
  | [], acc, M, h => ⟨(hk _ _ _ h).1, (hk _ _ _ h).2, done _ _ h⟩
  | x :: r, acc, M, h => by
    refine ⟨(hk _ _ _ h).1, ?_⟩
    have q := step x r acc M (fun acc' M' => dLcGo kp p tt te env a Q (r.map f) acc' M') h (fun acc' M' => lc_inv f I hk step done r acc' M')
    unfold optE at q
    split at q
    · rename_i env1 hb
      first | exact q | (rw [hb]; exact q)
    · exact q.elim
theorem x_iaddN {X : Cx} : XOp X (inplaceOp .Add) opIadd := x_iadd
theorem ix_lit0 {n : Nat} (h : 0 < n) : ixN n 0 = some 0 := by unfold ixN; simp; omega
theorem ix_lit {n k : Nat} (h : k < n) : ixN n (k : Int) = some k := by unfold ixN; simp; omega
end PL

namespace PL
open PySem PySem.Spec PyProof.Rows L2

/-! built-ins that may answer in more than one way -/
abbrev DCallG := List D → Mem → DK → Prop
def MonoC (r : DCallG) : Prop := ∀ ds M (Q Q' : DK), (∀ d M, Q d M → Q' d M) → r ds M Q → r ds M Q'
def upCallG (K : PySem.W.Frag) (r : DCallG) : List V → Hp → VK → Prop := fun xs H Q => ∃ ds M, RepL K H ds xs ∧ Sim K H M ∧ r ds M (upK K H Q)
def cgK (r : DCallG) (Q : DK) : List D → Mem → Prop := fun ds M => r ds M Q
def dCG (r : DCallG) (t : DA) : DE := fun env M Q E => t env M (cgK r Q) E
theorem s_cg {r t env M Q E} : dCG r t env M Q E = t env M (cgK r Q) E := id rfl
theorem s_cgK {r Q ds M} : cgK r Q ds M = r ds M Q := id rfl
section
variable {X : Cx} {W : WX} {x : Str} {p pos : Pos} {e : Expr} {es : List Expr} {t : DA} {id T : String} {r : DCallG}
theorem cg_up (mr : MonoC r) (ha : XA X W es t) : ∀ σ H Q, liftE X.K W (dCG r t) σ H Q → tCB (upCallG X.K r) (liftA X.K W t) σ H Q := by
  rintro σ H Q ⟨env, M, re, s, h⟩
  refine stepA ha.mono re s h (fun ds M1 us H1 e1 s1 re1 r1 h1 => ?_) fun _ _ _ z => z
  exact ⟨ds, M1, r1, s1, mr _ _ _ _ (upK_mono e1) h1⟩
theorem xe_callG (mr : MonoC r) (hc : CallR X (.builtin id) (upCallG X.K r)) (hg : Gl X x) (hm : X.mg x = none) (hv : bootBuiltins x = some (.builtin id)) (ha : XA X W (e :: es) t) (hn : x ≠ "__name__" := by decide) (hdb : (x == ("__debug__" : Str)) = false := by decide)
    (he : starEach (e :: es) X.env = (false, eval e X.env) :: starEach es X.env := by rfl) (hpl : (backTo pos (starEach es X.env)).any (·.1) = false := by rfl) : XE X W (.Call (.Name x p) (e :: es) [] pos) (dCG r t) :=
  ⟨fun env M Q Q' E E' hQ hE => ha.mono _ _ _ _ _ _ (fun ds M1 => mr ds M1 _ _ hQ) hE, PEw (pe_callB hc hg hm hv ha.pa hn hdb he hpl) (cg_up mr ha)⟩
end

/-! sorted -/
def SortsTo (dd : Bool) (ss ys : List Str) : Prop := sortedS ys = true ∧ if dd = true then ys.Nodup ∧ ∀ x, x ∈ ys ↔ x ∈ ss else ys.Perm ss
def intsOf : List D → Option (List Int)
  | [] => some []
  | .v (.int b) :: r => (intsOf r).map (b :: ·)
  | _ :: _ => none
theorem intsOf_eq : ∀ {ds : List D} {bs : List Int}, intsOf ds = some bs → ds = bs.map D.int
  | [], bs, h => by simp [intsOf] at h; subst h; rfl
  | .v (.int b) :: r, bs, h => by
    simp only [intsOf, Option.map_eq_some_iff] at h
    obtain ⟨cs, h1, rfl⟩ := h
    rw [intsOf_eq h1]; rfl
  | .tup _ :: _, _, h => by simp [intsOf] at h
  | .v .non :: _, _, h => by simp [intsOf] at h
  | .v (.str _) :: _, _, h => by simp [intsOf] at h
  | .v (.bl _) :: _, _, h => by simp [intsOf] at h
  | .v (.byt _) :: _, _, h => by simp [intsOf] at h
  | .v (.flt _) :: _, _, h => by simp [intsOf] at h
  | .v (.ref _) :: _, _, h => by simp [intsOf] at h
  | .v (.ty _) :: _, _, h => by simp [intsOf] at h
theorem intsOf_map : ∀ bs : List Int, intsOf (bs.map D.int) = some bs
  | [] => rfl
  | b :: bs => by show (intsOf (bs.map D.int)).map _ = _; rw [intsOf_map bs]; rfl
def lstAt (M : Mem) (d : D) : Option (List D) := match d with
  | .v (.ref a) => match M a with
    | some (.lst ds) => some ds
    | some (.rol ds) => some ds
    | _ => none
  | _ => none
theorem lstAt_rep {K : PySem.W.Frag} {H : Hp} {M : Mem} {d : D} {u : V} {ds : List D} (s : Sim K H M) (r : RepD K H d u) (h : lstAt M d = some ds) : ∃ a us, u = .ref a ∧ SqL K H a us ∧ RepL K H ds us := by
  unfold lstAt at h
  split at h
  · have e := rep_v r
    subst e
    split at h
    · rename_i hm; cases h; obtain ⟨us, q, l⟩ := s.seq (.inl hm); exact ⟨_, us, rfl, q, l⟩
    · rename_i hm; cases h; obtain ⟨us, q, l⟩ := s.seq (.inr hm); exact ⟨_, us, rfl, q, l⟩
    · cases h
  · cases h
/-- sorted of a list of texts -/
def bSortS : DCallG := fun ds M Q => ∃ d es ss, ds = [d] ∧ lstAt M d = some es ∧ strsOf es = some ss ∧ ss.length < 64 ∧ ∀ ys p, SortsTo false ss ys → M p = none → Q (.ob p) (mupd M p (.lst (ys.map D.str)))
def bSortI : DCallG := fun ds M Q => ∃ d es ss, ds = [d] ∧ lstAt M d = some es ∧ intsOf es = some ss ∧ ∀ (ys : List Int) p, ys.Perm ss → ys.Pairwise (· ≤ ·) → M p = none → Q (.ob p) (mupd M p (.lst (ys.map D.int)))
def bSorted : DCallG := fun ds M Q => bSortS ds M Q ∨ bSortI ds M Q
theorem bSorted_mono : MonoC bSorted := by
  rintro ds M Q Q' hQ (⟨d, es, ss, h1, h2, h3, h4, h⟩ | ⟨d, es, ss, h1, h2, h3, h⟩)
  · exact .inl ⟨d, es, ss, h1, h2, h3, h4, fun ys p a b => hQ _ _ (h ys p a b)⟩
  · exact .inr ⟨d, es, ss, h1, h2, h3, fun ys p a b c => hQ _ _ (h ys p a b c)⟩
section
variable {X : Cx}
theorem c_sorted : CallR X (.builtin "sorted") (upCallG X.K bSorted) := by
  rintro pins s σ H xs us Q I r ⟨ds, M, rl, sm, (⟨d, es, ss, rfl, h2, h3, h4, h⟩ | ⟨d, es, ss, rfl, h2, h3, h⟩)⟩
  · obtain ⟨u, rfl, q⟩ := rl1 rl
    obtain ⟨a, ws, rfl, hs, l⟩ := lstAt_rep sm q h2
    rw [strsOf_eq h3] at l
    rw [l.strs] at hs
    exact cr_sortedS pins s σ H _ us Q I r ⟨a, ss, rfl, hs, h4, fun ys p z1 z2 hp => fin_lst (fun p hp => h ys p ⟨z2, z1⟩ hp) sm hp .of_strs⟩
  · obtain ⟨u, rfl, q⟩ := rl1 rl
    obtain ⟨a, ws, rfl, hs, l⟩ := lstAt_rep sm q h2
    rw [intsOf_eq h3] at l
    rw [l.ints] at hs
    exact cr_sortedI pins s σ H _ us Q I r ⟨a, ss, rfl, hs, fun ys p z1 z2 hp => fin_lst (fun p hp => h ys p z1 z2 hp) sm hp .of_ints⟩
end

/-! {} -/
def dDict0 : DE := fun _ M Q _ => (Res.new True (.dk [])).run M Q
theorem s_dict0 {env M Q E} : dDict0 env M Q E = (Res.new True (.dk [])).run M Q := id rfl
theorem xe_dict0 {X : Cx} {W : WX} {pos : Pos} : XE X W (.Dict [] [] pos) dDict0 := by
  refine ⟨fun env M Q Q' E E' hQ hE h => Res.mono hQ h, PEw pe_dnewK ?_⟩
  rintro σ H Q ⟨env, M, re, s, h⟩
  intro p hp
  exact fin_new (ob := .dk []) h.2 s hp ⟨[], upd_same, rfl⟩
/-! the script -/
def KL (K : PySem.W.Frag) (a : Addr) (xs : List V) : Prop := ∃ (o : Obj) (its : Array Value) (n : Nat), K.lookup a = some o ∧ o.cls = .type "list" ∧ o.dict = none ∧ o.data = .seq its n ∧ its.size ≤ sizeLine ∧ Vals xs its.toList
def Scr (K : PySem.W.Frag) (M : Mem) (a : Addr) (ns : List Int) : Prop := M a = some (.rol (ns.map D.int)) ∨ KL K a (ns.map V.int)
theorem Scr.seq {K : PySem.W.Frag} {H : Hp} {M : Mem} {a : Addr} {ns : List Int} (h : Scr K M a ns) (s : Sim K H M) : SqL K H a (ns.map V.int) := by
  rcases h with h | h
  · obtain ⟨us, q, l⟩ := s.seq (.inr h)
    rw [l.ints] at q
    exact q
  · exact .inr h
theorem script_rep {K : PySem.W.Frag} {sp : DSp} {H : Hp} {a : Addr} {ns : List Int} (ho : Only H) (hS : SqL K H a (ns.map V.int)) (h : ∀ M, Scr K M a ns → sp [.ob a] M (fun d _ => d = .bl true) fun _ _ _ => False) (hm : MonoSp sp) :
    liftSp K sp [.ref a] H (fun v _ => v = .bl true) fun _ _ _ => False := by
  have fin : ∀ M, Scr K M a ns → Sim K H M → liftSp K sp [.ref a] H (fun v _ => v = .bl true) fun _ _ _ => False := fun M q s => by
    refine ⟨[.ob a], M, .cons rep_of .nil, s, hm _ _ _ _ _ _ ?_ ?_ (h M q)⟩
    · rintro d M' rfl u H' _ _ r
      exact rep_v r
    · exact fun c f M' z => z.elim
  rcases hS with (hS | ⟨o, hS⟩) | hS
  · rcases ho a with z | ⟨o, xs, z⟩
    · rw [z] at hS; cases hS
    · rw [z] at hS; cases hS
  · refine fin (fun b => if b = a then some (.rol (ns.map D.int)) else none) (.inl (if_pos rfl)) fun b o' e => ?_
    dsimp only at e
    split at e
    · rename_i hb; cases e; subst hb; exact ⟨o, _, hS, .of_ints⟩
    · cases e
  · exact fin (fun _ => none) (.inr hS) fun b o' e => by cases e
def bListS (K : PySem.W.Frag) : DCallG := fun ds M Q => ∃ (a : Addr) (ns : List Int), ds = [.ob a] ∧ Scr K M a ns ∧ ∀ p, M p = none → Q (.ob p) (mupd M p (.lst (ns.map D.int)))
theorem bListS_mono {K : PySem.W.Frag} : MonoC (bListS K) := by
  rintro ds M Q Q' hQ ⟨a, ns, h1, h2, h⟩
  exact ⟨a, ns, h1, h2, fun p hp => hQ _ _ (h p hp)⟩
section
variable {X : Cx} {W : WX} {x : Str} {p pos : Pos} {e : Expr} {es : List Expr} {t : DA} {T : String} {r : DCallG}
theorem xe_callTyG (mr : MonoC r) (hc : CallR X (.type T) (upCallG X.K r)) (hg : Gl X x) (hm : X.mg x = none) (hv : bootBuiltins x = some (.type T)) (ha : XA X W (e :: es) t) (hn : x ≠ "__name__" := by decide) (hdb : (x == ("__debug__" : Str)) = false := by decide)
    (he : starEach (e :: es) X.env = (false, eval e X.env) :: starEach es X.env := by rfl) (hpl : (backTo pos (starEach es X.env)).any (·.1) = false := by rfl) : XE X W (.Call (.Name x p) (e :: es) [] pos) (dCG r t) :=
  ⟨fun env M Q Q' E E' hQ hE => ha.mono _ _ _ _ _ _ (fun ds M1 => mr ds M1 _ _ hQ) hE, PEw (pe_callTy hc hg hm hv ha.pa hn hdb he hpl) (cg_up mr ha)⟩
theorem c_listS : CallR X (.type "list") (upCallG X.K (bListS X.K)) := by
  rintro pins s σ H xs us Q I r ⟨ds, M, rl, sm, a, ns, rfl, hs, h⟩
  obtain ⟨u, rfl, q⟩ := rl1 rl
  rw [rep_v q] at r
  exact call_list_of pins s σ H _ us Q I r ⟨_, _, rfl, .inl (hs.seq sm), fun l hl => fin_lst h sm hl .of_ints⟩
end
theorem cx_none {P : Program} {w : World} {H : Hp} {s : Shared} {e : Value} {s' : Shared} (h : L2.CX P w [] H s (fun _ _ _ => False) e s') : False := by
  obtain ⟨_, _, _, _, _, _, _, _, _, _, _, _, z⟩ := h
  exact z
theorem rel_int {i : Int} {t : Tok} : RelV (.int i) (.int i t) := ⟨t, rfl⟩
theorem rel_str {x : Str} {t : Tok} : RelV (.str x) (.str x t) := ⟨t, rfl⟩
end PL

namespace PL
open PySem PySem.Spec PyProof.Rows L2

/-! comprehensions by what each item gives -/
inductive Outs {α : Type} (R : α → Option D → Prop) : List α → List D → Prop
  | nil : Outs R [] []
  | yes {x d xs ds} : R x (some d) → Outs R xs ds → Outs R (x :: xs) (d :: ds)
  | no {x xs ds} : R x none → Outs R xs ds → Outs R (x :: xs) ds
theorem Outs.len {α : Type} {R : α → Option D → Prop} {xs : List α} {ds : List D} (h : Outs R xs ds) : ds.length ≤ xs.length := by
  induction h with
  | nil => exact Nat.le_refl _
  | yes _ _ ih => simp only [List.length_cons]; omega
  | no _ _ ih => simp only [List.length_cons]; omega
theorem Outs.map {α : Type} {g : α → D} {R : α → Option D → Prop} (hR : ∀ x o, R x o → o = some (g x)) {xs : List α} {ds : List D} (h : Outs R xs ds) : ds = xs.map g := by
  induction h with
  | nil => rfl
  | yes h _ ih => cases hR _ _ h; rw [ih]; rfl
  | no h _ _ => cases hR _ _ h
theorem Outs.filter {α : Type} {g : α → D} {b : α → Bool} {R : α → Option D → Prop} (hR : ∀ x o, R x o → o = if b x = true then some (g x) else none) {xs : List α} {ds : List D} (h : Outs R xs ds) : ds = (xs.filter b).map g := by
  induction h with
  | nil => rfl
  | yes h _ ih =>
    have q := hR _ _ h
    rename_i x d xs ds _
    cases e : b x with
    | true => rw [e, if_pos rfl] at q; cases q; rw [ih, List.filter_cons_of_pos e]; rfl
    | false => rw [e, if_neg Bool.false_ne_true] at q; cases q
  | no h _ ih =>
    have q := hR _ _ h
    rename_i x xs ds _
    cases e : b x with
    | true => rw [e, if_pos rfl] at q; cases q
    | false => rw [ih, List.filter_cons_of_neg (by simp [e])]
theorem Outs.all {α : Type} {P : D → Prop} {R : α → Option D → Prop} (hR : ∀ x d, R x (some d) → P d) {xs : List α} {ds : List D} (h : Outs R xs ds) : ∀ d ∈ ds, P d := by
  induction h with
  | nil => intro d hd; cases hd
  | yes h _ ih =>
    intro d hd
    rcases List.mem_cons.mp hd with z | z
    · rw [z]; exact hR _ _ h
    · exact ih d z
  | no h _ ih => exact ih
theorem Outs.lenEq {α : Type} {R : α → Option D → Prop} (hR : ∀ x, ¬ R x none) {xs : List α} {ds : List D} (h : Outs R xs ds) : ds.length = xs.length := by
  induction h with
  | nil => rfl
  | yes _ _ ih => simp only [List.length_cons, ih]
  | no h _ _ => exact (hR _ h).elim
def lcB (te : DE) (env : DEnv) (N : DK) (sk : Mem → Prop) : Bool → Mem → Prop := fun b M => bifM b (eK te env N noX) sk M
def lcS (tt : DT) (te : DE) (N : DK) (sk : Mem → Prop) (env : DEnv) (M : Mem) : Prop := tt env M (lcB te env N sk) noX
theorem s_lcB {te env N sk b M} : lcB te env N sk b M = bifM b (eK te env N noX) sk M := id rfl
theorem s_lcS {tt te N sk env M} : lcS tt te N sk env M = tt env M (lcB te env N sk) noX := id rfl
theorem lc_rule {α : Type} (f : α → D) (R : α → Option D → Prop) (J : Mem → Prop) (S : List Addr) {M0 : Mem} {a : Addr} {kp : Mem → Prop} {p : Pat} {tt : DT} {te : DE} {env : DEnv} {Q : DK} (xs : List α) (ha : M0 a = none) (haS : a ∉ S) (hJ0 : J M0) (hJ : ∀ M' o, J M' → J (mupd M' a o))
    (hk : ∀ M', Keep S M0 M' → kp M') (hlen : xs.length ≤ sizeLine)
    (step : ∀ x ∈ xs, ∀ M' (N : DK) (sk : Mem → Prop), J M' → Keep S M0 M' → (∀ d M'', R x (some d) → J M'' → Keep S M' M'' → N d M'') → (∀ M'', R x none → J M'' → Keep S M' M'' → sk M'') → optE (p.bind M' (f x) env) (lcS tt te N sk) M')
    (done : ∀ M' ds, Outs R xs ds → J M' → Keep S M0 M' → M' a = some (.lst ds) → Q (.ob a) M') : dLcGo kp p tt te env a Q (xs.map f) [] (mupd M0 a (.lst [])) := by
  have go : ∀ (r : List α) (acc : List D) (M' : Mem), (∀ x ∈ r, x ∈ xs) → acc.length + r.length ≤ sizeLine → (∀ ds, Outs R r ds → Outs R xs (acc ++ ds)) → J M' → Keep S M0 M' → M' a = some (.lst acc) → dLcGo kp p tt te env a Q (r.map f) acc M' := by
    intro r
    induction r with
    | nil => exact fun acc M' _ _ h j k e => ⟨hk _ k, e, done _ _ (by simpa using h [] .nil) j k e⟩
    | cons x r ih =>
      intro acc M' hm hl h j k e
      refine ⟨hk _ k, ?_⟩
      simp only [List.length_cons] at hl
      have q := step x (hm x List.mem_cons_self) M' (fun y M3 => M3 a = some (.lst acc) ∧ acc.length < sizeLine ∧ dLcGo kp p tt te env a Q (r.map f) (acc ++ [y]) (mupd M3 a (.lst (acc ++ [y])))) (dLcGo kp p tt te env a Q (r.map f) acc) j k
        (fun d M'' hR j2 k2 => ⟨k2 _ _ e haS, by omega, ih _ _ (fun z hz => hm z (List.mem_cons_of_mem _ hz)) (by rw [List.length_append]; simp only [List.length_cons, List.length_nil]; omega)
          (fun ds hd => by rw [List.append_assoc]; exact h _ (.yes hR hd)) (hJ _ _ j2) (fun b o eb nb => by
            have : b ≠ a := fun z => by rw [z, ha] at eb; cases eb
            rw [mupd_ne this]
            exact k2 _ _ (k _ _ eb nb) nb) mupd_same⟩)
        (fun M'' hR j2 k2 => ih _ _ (fun z hz => hm z (List.mem_cons_of_mem _ hz)) (by omega) (fun ds hd => h _ (.no hR hd)) j2 (k.trans k2) (k2 _ _ e haS))
      unfold optE at q
      split at q
      · rename_i env1 hb
        first | exact q | (rw [hb]; exact q)
      · exact q.elim
  exact go xs [] _ (fun _ h => h) (by simpa using hlen) (fun ds h => h) (hJ _ _ hJ0) (Keep.new ha) mupd_same
/-- items that a pure reading gives -/
theorem lc_pure {α : Type} (f g : α → D) (b : α → Bool) {M0 : Mem} {a : Addr} {kp : Mem → Prop} {p : Pat} {tt : DT} {te : DE} {env : DEnv} {Q : DK} (xs : List α) (ha : M0 a = none) (hk : ∀ M', Keep [] M0 M' → kp M') (hlen : xs.length ≤ sizeLine)
    (step : ∀ x ∈ xs, ∀ M' (N : DK) (sk : Mem → Prop), Keep [] M0 M' → (b x = true → ∀ M'', Keep [] M' M'' → N (g x) M'') → (b x = false → ∀ M'', Keep [] M' M'' → sk M'') → optE (p.bind M' (f x) env) (lcS tt te N sk) M')
    (done : ∀ M', Keep [] M0 M' → M' a = some (.lst ((xs.filter b).map g)) → Q (.ob a) M') : dLcGo kp p tt te env a Q (xs.map f) [] (mupd M0 a (.lst [])) := by
  refine lc_rule f (fun x o => o = if b x = true then some (g x) else none) (fun _ => True) [] xs ha (by simp) trivial (fun _ _ _ => trivial) hk hlen (fun x hx M' N sk _ k hy hn => step x hx M' N sk k (fun e M'' k2 => hy _ M'' (by rw [e, if_pos rfl]) trivial k2) fun e M'' k2 => hn M'' (by rw [e, if_neg Bool.false_ne_true]) trivial k2) fun M' ds ho _ k e => ?_
  rw [ho.filter (fun _ _ h => h)] at e
  exact done M' k e
theorem lc_pureI (g : D → D) (b : D → Bool) {M0 : Mem} {a : Addr} {kp : Mem → Prop} {p : Pat} {tt : DT} {te : DE} {env : DEnv} {Q : DK} (xs : List D) (ha : M0 a = none) (hk : ∀ M', Keep [] M0 M' → kp M') (hlen : xs.length ≤ sizeLine)
    (step : ∀ x ∈ xs, ∀ M' (N : DK) (sk : Mem → Prop), Keep [] M0 M' → (b x = true → ∀ M'', Keep [] M' M'' → N (g x) M'') → (b x = false → ∀ M'', Keep [] M' M'' → sk M'') → optE (p.bind M' x env) (lcS tt te N sk) M')
    (done : ∀ M', Keep [] M0 M' → M' a = some (.lst ((xs.filter b).map g)) → Q (.ob a) M') : dLcGo kp p tt te env a Q xs [] (mupd M0 a (.lst [])) := by
  have q := lc_pure (fun d : D => d) g b xs ha hk hlen step done
  rw [List.map_id'] at q
  exact q
end PL

set_option maxHeartbeats 4000000
namespace PL
open PySem PySem.Spec PyProof.Rows L2

/-! sets of texts: the entries, their texts in the order in which they stand -/
def txt : Value → Str
  | .str x _ => x
  | _ => ⟨#[]⟩
abbrev Ent := Int × Value
def IsEnt (w : World) (e : Ent) : Prop := ∃ x tk, e.2 = Value.str x tk ∧ e.1 = hashStr w x
abbrev texts (es : Array Ent) : List Str := es.toList.map fun e => txt e.2
/-- an object that holds such a set -/
structure Held (w : World) (h : Heap) (a : Addr) (es : Array Ent) (t : SetTable) : Prop where
  obj : ∃ o ep, h.get? a = some o ∧ o.ExactSet ∧ o.data = .set es ep t
  ent : ∀ e ∈ es.toList, IsEnt w e
  nd : (texts es).Nodup
  few : es.size < scanBound
  fits : t.fits es.size = true
  ris : Ris t.place.toList
  led : w.params.followText "set-order" = true ∨ t.led = true
def SetOfTexts (w : World) (h : Heap) (a : Addr) (ks : List Str) : Prop := ∃ es t, Held w h a es t ∧ (texts es).Perm ks
theorem SetOfTexts.keep {w : World} {h h' : Heap} {a : Addr} {ks : List Str} (H : SetOfTexts w h a ks) (k : ∀ o, h.get? a = some o → h'.get? a = some o) : SetOfTexts w h' a ks := by
  obtain ⟨es, t, ⟨⟨o, ep, h1, h2⟩, r1, r2, r3, r4, r5, r6⟩, p⟩ := H
  exact ⟨es, t, ⟨⟨o, ep, k o h1, h2⟩, r1, r2, r3, r4, r5, r6⟩, p⟩
theorem ents_strKind {P : Program} {w : World} {l : List Ent} (g : ∀ e ∈ l, IsEnt w e) : ElemsOf (PySem.strKind P w) l := fun e he => by
  obtain ⟨x, tk, h1, h2⟩ := g e he
  rw [h1, h2]
  exact ⟨⟨x, by simp [PySem.strKind, Value.isStrOf], rfl⟩, rfl⟩
theorem is_txt {P : Program} {w : World} {e : Ent} (g : IsEnt w e) (x : Str) : (PySem.strKind P w).is x e.2 = true ↔ txt e.2 = x := by
  obtain ⟨y, tk, h1, _⟩ := g
  rw [h1]
  constructor
  · intro q
    obtain ⟨t, h⟩ := Value.isStrOf_shape (show Value.isStrOf x (.str y tk) = true from q)
    injection h with h
  · rintro rfl
    simp [PySem.strKind, Value.isStrOf, txt]
section
variable {P : Program} {w : World} {A : Around} {E : Value → Shared → Prop} {s : Shared} {a : Addr}
theorem rule_if {b : Bool} {Q : Unit → Shared → Prop} (q : Q () s) : wpAny (model P w) A (match b with | true => rule "set.scan.the-table-gave-way" | false => pure ()) Q E s := by
  cases b
  · exact wpAny_pure q
  · exact wpAny_rule q
/-- what is written behind a new entry -/
theorem put_entries {o : Obj} {es es1 : Array Ent} {ep : Nat} {t t1 : SetTable} {Q : Unit → Shared → Prop} (ho : s.heap.get? a = some o) (hx : o.ExactSet) (hd : o.data = .set es ep t) (fw : es1.size < scanBound)
    (h : ∀ h', Heap.SameBut a s.heap h' → (∃ o' ep', h'.get? a = some o' ∧ o'.ExactSet ∧ o'.data = .set es1 ep' t1) → Q () { s with heap := h' }) : wpAny (model P w) A (storeSet a es1 t1) Q E s := by
  refine wpAny_storeSet_of ho hd (h _ (Heap.SameBut.update s.heap a (Obj.putSet es1 t1)) ⟨{ o with data := .set es1 (ep + 1) t1 }, ep + 1, ?_, hx, rfl⟩) (fits_of_scanBound fw)
  rw [← putSet_of es1 t1 hd]
  exact Heap.get?_update_self (Obj.putSet es1 t1) ho (by rw [putSet_of es1 t1 hd]; rfl)
theorem same_trans {h h' h'' : Heap} (p : Heap.SameBut a h h') (q : Heap.SameBut a h' h'') : Heap.SameBut a h h'' := p.trans q
/-- entries that are ready to be written -/
structure Ready (w : World) (es : Array Ent) (t : SetTable) (ks : List Str) : Prop where
  ent : ∀ e ∈ es.toList, IsEnt w e
  nd : (texts es).Nodup
  few : es.size < scanBound
  fits : t.fits es.size = true
  ris : Ris t.place.toList
  led : w.params.followText "set-order" = true ∨ t.led = true
  pm : (texts es).Perm ks
theorem Ready.held {es : Array Ent} {t : SetTable} {ks : List Str} {h : Heap} (R : Ready w es t ks) (ho : ∃ o ep, h.get? a = some o ∧ o.ExactSet ∧ o.data = .set es ep t) : SetOfTexts w h a ks :=
  ⟨es, t, ⟨ho, R.ent, R.nd, R.few, R.fits, R.ris, R.led⟩, R.pm⟩
theorem Ready.relaid {es : Array Ent} {t : SetTable} {ks : List Str} (R : Ready w es t ks) (n : Nat) : Ready w (relayAll t es n).1 (relayAll t es n).2.1 ks := by
  have p := relayAll_perm t es n
  have l := relayAll_led t es n
  refine ⟨fun e he => R.ent e (p.mem_iff.mp he), (p.map _).nodup_iff.mpr R.nd, ?_, relayAll_fits t es n, relayAll_ris t es n, R.led.imp id fun z => by rw [l]; exact z, (p.map _).trans R.pm⟩
  have := p.length_eq
  rw [Array.length_toList, Array.length_toList] at this
  have := R.few
  omega
theorem write_ready {g : Bool → Sem Unit} (hg : ∀ (b : Bool) (s : Shared) (Q : Unit → Shared → Prop), Q () s → wpAny (model P w) A (g b) Q E s) {o : Obj} {es es1 : Array Ent} {ep : Nat} {t t1 : SetTable} {ks : List Str} {wd : Bool} {Q : Option Bool → Shared → Prop}
    (ho : s.heap.get? a = some o) (hx : o.ExactSet) (hd : o.data = .set es ep t) (R : Ready w es1 t1 ks) (h : ∀ h', Heap.SameBut a s.heap h' → SetOfTexts w h' a ks → Q (some true) { s with heap := h' }) :
    wpAny (model P w) A (do
      storeSet a es1 t1
      if (!wd && t1.tooFull) = true then do
          g (relayAll t1 es1 (SetTable.grown es1.size)).2.2
          storeSet a (relayAll t1 es1 (SetTable.grown es1.size)).1 (relayAll t1 es1 (SetTable.grown es1.size)).2.1
          pure (some true)
        else pure (some true)) Q E s := by
  refine wpAny_bind (put_entries ho hx hd R.few fun h1 sb1 at1 => ?_)
  split
  · have R2 := R.relaid (SetTable.grown es1.size)
    obtain ⟨o1, ep1, g1, x1, d1⟩ := at1
    refine wpAny_bind (hg _ _ _ (wpAny_bind (put_entries g1 x1 d1 R2.few fun h2 sb2 at2 => wpAny_pure ?_)))
    exact h _ (sb1.trans sb2) (R2.held at2)
  · exact wpAny_pure (h _ sb1 (R.held at1))
/-- the set takes one text more -/
theorem takes_text {ks : List Str} {x : Str} {tk : Tok} {Q : Bool → Shared → Prop} (H : SetOfTexts w s.heap a ks) (room : ks.length + 1 < scanBound)
    (hQ : ∀ b h', Heap.SameBut a s.heap h' → SetOfTexts w h' a (if x ∈ ks then ks else x :: ks) → Q b { s with heap := h' }) : wpAny (model P w) A (setAddHashed a (.str x tk) (hashStr w x)) Q E s := by
  obtain ⟨es, t, ⟨⟨o, ep, ho, hx, hd⟩, ge, nd, fw, hf, hr, hl⟩, pm⟩ := H
  have sz : es.size = ks.length := by rw [← pm.length_eq, List.length_map, Array.length_toList]
  have is : (PySem.strKind P w).is x (.str x tk) = true := by simp [PySem.strKind, Value.isStrOf]
  have el := ents_strKind (P := P) ge
  unfold setAddHashed setAddHashedIn
  refine wpAny_holding (wpAny_bind (wpAny_setState_of ho hd hf ?_))
  dsimp only
  rw [if_pos (byScan_of (show (Value.str x tk).scannable = true from rfl) fw el)]
  unfold setAddByScan
  refine wpAny_bind (wpAny_bind (wpAny_rule (wpAny_bind ?_)))
  refine wpAny_setScan_of (knd := PySem.strKind P w) (k := x) is ho hd hf el ?_
  cases fi : List.findIdx? (fun e => (PySem.strKind P w).is x e.2) es.toList with
  | some j =>
    obtain ⟨hj, q, _⟩ := List.findIdx?_eq_some_iff_getElem.mp fi
    have hm : x ∈ ks := pm.mem_iff.mp (List.mem_map.mpr ⟨_, List.getElem_mem hj, (is_txt (ge _ (List.getElem_mem hj)) x).mp q⟩)
    dsimp only
    refine wpAny_pure (wpAny_pure (hQ _ s.heap (Heap.SameBut.refl a s.heap) ?_))
    rw [if_pos hm]
    exact ⟨es, t, ⟨⟨o, ep, ho, hx, hd⟩, ge, nd, fw, hf, hr, hl⟩, pm⟩
  | none =>
    have hm : x ∉ ks := fun z => by
      obtain ⟨e, he, q⟩ := List.mem_map.mp (pm.mem_iff.mpr z)
      have := List.findIdx?_eq_none_iff.mp fi e he
      rw [(is_txt (ge e he) x).mpr q] at this
      cases this
    rw [if_neg hm] at hQ
    dsimp only
    have p1 := layNew_perm t es (hashStr w x) (.str x tk)
    have f1 := layNew_fits t es (hashStr w x) (.str x tk)
    have r1 := layNew_ris t es (hashStr w x) (.str x tk) hr
    have l1 := layNew_led t es (hashStr w x) (.str x tk)
    have R : Ready w (layNew t es (hashStr w x) (.str x tk)).1 { (layNew t es (hashStr w x) (.str x tk)).2.1 with plain := false } (x :: ks) ∧ Ready w (layNew t es (hashStr w x) (.str x tk)).1 (layNew t es (hashStr w x) (.str x tk)).2.1 (x :: ks) := by
      generalize layNew t es (hashStr w x) (.str x tk) = L at p1 f1 r1 l1 ⊢
      rw [Array.toList_push] at p1
      have p2 := p1.trans (List.perm_append_singleton _ _)
      have p3 : (texts L.1).Perm (x :: texts es) := p2.map fun e => txt e.2
      have len := p2.length_eq
      rw [List.length_cons, Array.length_toList, Array.length_toList] at len
      have ge1 : ∀ e ∈ L.1.toList, IsEnt w e := fun e he => by
        rcases List.mem_cons.mp (p2.mem_iff.mp he) with z | z
        · rw [z]; exact ⟨x, tk, rfl, rfl⟩
        · exact ge e z
      have nd1 : (texts L.1).Nodup := p3.nodup_iff.mpr (List.nodup_cons.mpr ⟨fun z => hm (pm.mem_iff.mp z), nd⟩)
      have pk : (texts L.1).Perm (x :: ks) := p3.trans (pm.cons x)
      have led1 : w.params.followText "set-order" = true ∨ L.2.1.led = true := hl.imp id fun z => by rw [l1]; exact z
      exact ⟨⟨ge1, nd1, by omega, SetTable.fits_plain_off f1, r1, led1, pk⟩, ⟨ge1, nd1, by omega, f1, r1, led1, pk⟩⟩
    generalize layNew t es (hashStr w x) (.str x tk) = L at R ⊢
    obtain ⟨es1, t1, wd, gv⟩ := L
    dsimp only at R ⊢
    have gw : ∀ (b : Bool) (s : Shared) (Q : Unit → Shared → Prop), Q () s → wpAny (model P w) A (match b with | true => rule "set.scan.the-table-gave-way" | false => pure ()) Q E s := fun b s Q q => rule_if q
    refine wpAny_bind (gw _ _ _ ?_)
    split
    · refine wpAny_bind ?_
      rw [hashByValue_scannable 8 (show (Value.str x tk).scannable = true from rfl)]
      refine wpAny_pure (write_ready (t1 := { t1 with plain := false }) gw ho hx hd R.1 fun h' sb q => ?_)
      exact wpAny_pure (hQ _ h' sb q)
    · refine wpAny_bind (wpAny_pure ?_)
      refine write_ready (t1 := t1) gw ho hx hd R.2 fun h' sb q => ?_
      exact wpAny_pure (hQ _ h' sb q)
/-- the texts of a walk, each once; in the order in which they come in -/
def firsts : List Str → List Str → List Str
  | ks, [] => ks
  | ks, x :: r => firsts (if x ∈ ks then ks else x :: ks) r
theorem firsts_mem : ∀ (xs ks : List Str) (y : Str), y ∈ firsts ks xs ↔ y ∈ ks ∨ y ∈ xs
  | [], ks, y => by simp [firsts]
  | x :: r, ks, y => by
    rw [firsts, firsts_mem r]
    split
    · rename_i h
      constructor
      · rintro (z | z)
        · exact .inl z
        · exact .inr (List.mem_cons_of_mem _ z)
      · rintro (z | z)
        · exact .inl z
        · rcases List.mem_cons.mp z with e | z
          · exact .inl (e ▸ h)
          · exact .inr z
    · simp only [List.mem_cons]
      constructor
      · rintro ((z | z) | z)
        · exact .inr (.inl z)
        · exact .inl z
        · exact .inr (.inr z)
      · rintro (z | z | z)
        · exact .inl (.inr z)
        · exact .inl (.inl z)
        · exact .inr z
theorem one_len (x : Str) (ks : List Str) : (if x ∈ ks then ks else x :: ks).length ≤ ks.length + 1 := by
  split
  · omega
  · simp
theorem firsts_len : ∀ (xs ks : List Str), (firsts ks xs).length ≤ ks.length + xs.length
  | [], ks => by simp [firsts]
  | x :: r, ks => by
    rw [firsts]
    have := firsts_len r (if x ∈ ks then ks else x :: ks)
    have := one_len x ks
    simp only [List.length_cons]
    omega
/-- all items of a walk are put in -/
theorem takes_walk {I S : Addr} {fp wr : List Addr} {G : Array GenState → Array GenState → Prop} {n : Nat} {Pv : Nat → Value → Prop} {St : Nat → Shared → Prop} {R : Result → Shared → Prop} (W : WalksS P w A.in1 I fp wr G n Pv St) (hS : S ∉ fp) :
    ∀ (xs ks : List Str) (i : Nat) (s : Shared), i + xs.length = n → ks.length + xs.length + 1 < scanBound → (∀ j v, Pv (i + j) v → j < xs.length → ∃ t, v = .str (xs.getD j ⟨#[]⟩) t) → St i s → SetOfTexts w s.heap S ks →
      (∀ s', Moved (S :: wr) G s s' → SetOfTexts w s'.heap S (firsts ks xs) → R (.ok (.ret .none)) s') → codeAny (model P w) A (.builtin "set.update.loop" ⟨[.ref S, .ref I], []⟩) R s := by
  have nw : S ∉ wr := fun z => hS (W.sub _ z)
  have up : ∀ b ∈ wr, b ∈ S :: wr := fun _ z => List.mem_cons_of_mem _ z
  intro xs
  induction xs with
  | nil =>
    intro ks i s hi _ _ st hs fin
    have e : i = n := hi
    refine codeAny_builtin F.entry_set_update_loop ?_
    rw [Around.under_plainId F.plain_set_update_loop _]
    subst e
    refine wpAny_bind (m := pyNext (.ref I)) (W.done s _ _ st fun s1 mv => ?_)
    exact wpAny_pure (fin s1 (mv.mono up) (hs.keep fun o z => mv.heap S o nw z))
  | cons x r ih =>
    intro ks i s hi room hv st hs fin
    simp only [List.length_cons] at hi room hv
    refine codeAny_builtin F.entry_set_update_loop ?_
    rw [Around.under_plainId F.plain_set_update_loop _]
    refine wpAny_bind (m := pyNext (.ref I)) (W.item i s _ _ (by omega) st fun v s1 pv st1 mv => ?_)
    obtain ⟨tk, rfl⟩ := hv 0 v pv (by omega)
    simp only [List.getD_cons_zero]
    refine wpAny_bind (m := holding [Value.str x tk] (setAdd S (.str x tk))) (wpAny_holding ?_)
    unfold setAdd
    refine wpAny_holding (wpAny_bind ((PySem.strKind P w).pyHash (k := x) (by simp [PySem.strKind, Value.isStrOf]) ?_))
    refine takes_text (s := { s1 with toks := s1.toks + 1 }) (hs.keep fun o z => mv.heap S o nw z) (by omega) fun b h' sb q => ?_
    have stay : ∀ c o, c ≠ S → s1.heap.get? c = some o → h'.get? c = some o := fun c o hc e => by rw [sb.2 c hc]; exact e
    refine wpAny_pure ⟨plainId_quiet F.plain_set_update_loop _, ih _ (i + 1) _ (by omega) (by have := one_len x ks; omega) (fun j v pj hj => ?_) (W.frame _ s1 _ _ st1 (Nat.le_succ _) fun c hc o e => stay c o (fun z => hS (z ▸ hc)) e) q fun s2 mv2 q2 => ?_⟩
    · have := hv (j + 1) v (by rw [show i + (j + 1) = i + 1 + j by omega]; exact pj) (by omega)
      simpa using this
    · refine fin s2 (Moved.trans W.gtrans ((mv.mono up).then_heap (Nat.le_succ _) fun c o hc e => stay c o (fun z => hc (by rw [z]; exact List.mem_cons_self)) e) mv2) q2
abbrev newSetO (w : World) : Obj := { cls := .type "set", dict := none, data := .set #[] 0 (.fresh 0 0 (!w.params.followText "set-order")) }
theorem empty_held {h : Heap} (e : h.get? a = some (newSetO w)) : SetOfTexts w h a [] := by
  refine ⟨#[], _, ⟨⟨_, 0, e, ⟨rfl, rfl, rfl⟩, rfl⟩, ?_, ?_, by decide, rfl, List.Pairwise.nil, ?_⟩, .refl _⟩
  · intro e he; cases he
  · exact List.Pairwise.nil
  · show _ ∨ (!w.params.followText "set-order") = true
    cases w.params.followText "set-order"
    · exact .inr rfl
    · exact .inl rfl
/-- what the filling of a new set does: __init__ with a list of texts -/
theorem init_texts {S l : Addr} {items : Array Value} {xs : List Str} {Q : Value → Shared → Prop} (hh : A.handled = none) (hS : s.heap.get? S = some (newSetO w)) (hl : s.heap.IsList l items) (hne : l ≠ S) (hsz : items.size = xs.length) (hv : ∀ (j : Nat) (v : Value), items[j]? = some v → ∃ t, v = Value.str (xs.getD j ⟨#[]⟩) t)
    (hb : xs.length + 1 < scanBound) (h : ∀ h' tk, SetOfTexts w h' S (firsts [] xs) → (∀ b o, b ≠ S → s.heap.get? b = some o → h'.get? b = some o) → Q .none { s with heap := h', toks := tk }) :
    wpAny (model P w) A (Builtin.«set.__init__» ⟨[.ref S, .ref l], []⟩) (fun f s' => ∃ r, f = .done (.ret r) ∧ Q r s') E s := by
  have hT : s.TypeIs (.ref S) "set" := ⟨_, hS, rfl⟩
  obtain ⟨ol, hol, hcl, nl, hdl⟩ := hl
  obtain ⟨ocls, odict, odata, oslots⟩ := ol
  simp only at hcl hdl
  subst hcl
  subst hdl
  have hl2 : s.heap.IsList l items := ⟨_, hol, rfl, nl, rfl⟩
  have a1 := F.sub_list_set
  have a2 := F.sub_list_frozenset
  have a3 : (Value.type "list" == Value.type "dict") = false := by decide
  unfold Builtin.«set.__init__» noKeywords Builtin.Frozenset.updateFrom
  generalize hp : pyIter = go
  wp_walk
  subst hp
  refine wpAny_pyIter_list hl2 (wpAny_bind (wpAny_runValue ?_))
  have lS : S < s.heap.objs.size := Heap.lt_size hS
  have ll : l < s.heap.objs.size := Heap.lt_size hol
  have hI : l ≠ s.heap.objs.size := Nat.ne_of_lt ll
  have hSI : S ∉ [s.heap.objs.size, l] := by
    simp only [List.mem_cons, List.not_mem_nil, or_false, not_or]
    exact ⟨Nat.ne_of_lt lS, hne.symm⟩
  have e0 : (s.heap.push { cls := .type "list_iterator", data := .fields #[.ref l, .int 0 0] }).get? S = some (newSetO w) := Heap.get?_push_of_some _ hS
  refine takes_walk (A := A) (P := P) (w := w) ((Walks.list (by simp [hh]) _ l hI items).toS) hSI xs [] 0 _ (by omega) (by simpa using hb) (fun j v pv hj => hv j v (by simpa using pv)) ⟨⟨_, Heap.get?_push_size _ rfl, rfl, rfl⟩, hl2.push _⟩ (empty_held e0) ?_
  intro s1 mv q
  obtain ⟨h', g', d', tk', o'⟩ := s1
  obtain rfl : g' = s.gens := mv.gens
  obtain rfl : d' = s.drawn := mv.drawn
  obtain rfl : o' = s.os := mv.os
  refine wpAny_pure (wpAny_pure ⟨_, rfl, h h' tk' q fun b o hb e => ?_⟩)
  refine mv.heap b o ?_ (Heap.get?_push_of_some _ e)
  simp only [List.mem_cons, List.not_mem_nil, or_false, not_or]
  exact ⟨hb, Nat.ne_of_lt (Heap.lt_size e)⟩
/-- set(xs) of a list of texts -/
theorem call_set_texts {l : Addr} {items : Array Value} {xs : List Str} {Q : Value → Shared → Prop} (hh : A.handled = none) (hl : s.heap.IsList l items) (hsz : items.size = xs.length) (hv : ∀ (j : Nat) (v : Value), items[j]? = some v → ∃ t, v = Value.str (xs.getD j ⟨#[]⟩) t)
    (hb : xs.length + 1 < scanBound) (h : ∀ h' tk, SetOfTexts w h' s.heap.objs.size (firsts [] xs) → (∀ b o, s.heap.get? b = some o → h'.get? b = some o) → Q (.ref s.heap.objs.size) { s with heap := h', toks := tk }) : wpAny (model P w) A (call (.type "set") [.ref l]) Q E s := by
  have c1 := F.called_set.notType
  have c2 := F.called_set.canCreate
  have c3 := F.called_set.made
  have c4 := F.called_set.sub
  have c5 := F.typeCall_set_1 (.ref l)
  obtain ⟨_, _, c6⟩ := F.called_set.mro
  refine wpAny_call (codeAny_of_tree ?_)
  show wpAny (model P w) _ (callAny (.type "set") ⟨[.ref l], []⟩) _ _ s
  refine wpAny_pure ⟨Code.quiet_builtin _ (by decide +kernel), codeAny_builtin F.entry_type_call ?_⟩
  rw [Around.under_plain (weight_type_call_type "set" [.ref l] []) rfl]
  repeat (any_goals (first | assumption | wp_step))
  refine codeAny_mono (code_set_led1 (.ref l) (E := E) (Q₁ := fun v s1 => v = .ref s.heap.objs.size ∧ s1 = { s with heap := s.heap.push (newSetO w) }) ⟨rfl, rfl⟩) fun r s1 hr => ?_
  obtain e | fl := r
  · exact hr
  cases fl <;> first | exact hr.elim | skip
  obtain ⟨rfl, rfl⟩ := hr
  have new : (s.heap.push (newSetO w)).get? s.heap.objs.size = some (newSetO w) := Heap.get?_push_size _ rfl
  have ty : Shared.TypeIs { s with heap := s.heap.push (newSetO w) } (.ref s.heap.objs.size) "set" := ⟨_, new, rfl⟩
  have c7 := F.called_set.init.lookup
  have c8 := F.called_set.init.bind (.ref s.heap.objs.size)
  have hlt : l ≠ s.heap.objs.size := by
    obtain ⟨o, ho, _⟩ := hl
    exact Nat.ne_of_lt (Heap.lt_size ho)
  repeat (any_goals (first | assumption | wp_step))
  refine codeAny_mono (codeAny_call_builtin (R := wants (fun r s2 => r = .none ∧ ∃ h' tk, s2 = { s with heap := h', toks := tk } ∧ SetOfTexts w h' s.heap.objs.size (firsts [] xs) ∧ ∀ b o, s.heap.get? b = some o → h'.get? b = some o) E) F.called_set.init.plain F.entry_set_init (check_set_init_1 ty ?_)) fun r2 s2 hr2 => ?_
  · refine wpAny_mono (init_texts (E := E) (Q := fun r s2 => r = .none ∧ ∃ h' tk, s2 = { s with heap := h', toks := tk } ∧ SetOfTexts w h' s.heap.objs.size (firsts [] xs) ∧ ∀ b o, s.heap.get? b = some o → h'.get? b = some o) (by simp [hh]) new (hl.push _) hlt hsz hv hb fun h' tk q k => ⟨rfl, h', tk, rfl, q, fun b o e => k b o (Nat.ne_of_lt (Heap.lt_size e)) (Heap.get?_push_of_some _ e)⟩) ?_ fun e s2 q => q
    rintro f s2 ⟨r, rfl, q⟩
    exact q
  · obtain e | fl := r2
    · exact hr2
    cases fl <;> first | exact hr2.elim | skip
    obtain ⟨rfl, h', tk, rfl, q, k⟩ := hr2
    repeat (any_goals (first | assumption | wp_step))
    exact h _ _ q k
end
end PL

set_option maxHeartbeats 4000000
namespace PL
open PySem PySem.Spec PyProof.Rows L2
theorem strs_of_ents {w : World} : ∀ {l : List Ent}, (∀ e ∈ l, IsEnt w e) → StrsAre (l.map fun e => e.2) (l.map fun e => txt e.2)
  | [], _ => .nil
  | e :: r, g => by
    obtain ⟨x, tk, h, _⟩ := g e List.mem_cons_self
    simp only [List.map_cons, h]
    exact .cons x tk (strs_of_ents fun e he => g e (List.mem_cons_of_mem _ he))
theorem strs_txt {vs : List Value} {ss : List Str} (h : StrsAre vs ss) : ss = vs.map txt := by
  induction h with
  | nil => rfl
  | cons x t _ ih => rw [ih]; rfl
theorem strs_mem {vs : List Value} (h : ∀ v ∈ vs, ∃ x t, v = Value.str x t) : StrsAre vs (vs.map txt) := by
  induction vs with
  | nil => exact .nil
  | cons v r ih =>
    obtain ⟨x, t, rfl⟩ := h v List.mem_cons_self
    exact .cons x t (ih fun v hv => h v (List.mem_cons_of_mem _ hv))
section
variable {P : Program} {w : World} {A : Around} {E : Value → Shared → Prop} {s : Shared} {a : Addr}
/-- sorted(a), a: a set of texts -/
theorem call_sorted_texts {ks : List Str} {Q : Value → Shared → Prop} (hh : A.handled = none) (H : SetOfTexts w s.heap a ks) (few : ks.length < 64)
    (hQ : ∀ s' p (out : Array Value) (c : Nat) (ys : List Str), (∀ b o, s.heap.get? b = some o → s'.heap.get? b = some o) → s'.gens = s.gens → s'.os = s.os → s.heap.objs.size ≤ p → s'.heap.get? p = some (seqObj "list" out c) → StrsAre out.toList ys → sortedS ys = true → ys.Nodup → ys.Perm ks → Q (.ref p) s') :
    wpAny (model P w) A (call (.builtin "sorted") [.ref a]) Q E s := by
  obtain ⟨es, t, ⟨⟨o, ep, ho, hx, hd⟩, ge, nd, fw, hf, hr, hl⟩, pm⟩ := H
  have sz : es.size = ks.length := by rw [← pm.length_eq, List.length_map, Array.length_toList]
  refine Calls.call_function_entry kind_sorted plain_sorted entry_sorted (args_sorted1 _) ?_
  unfold Builtin.«sorted»
  refine wpAny_bind (m := checkCount "sorted" 1 1 _) (wpAny_pure (wpAny_bind ?_))
  refine collect_set (by simp [hh]) ⟨o, ho, hx.1, hd⟩ hf fw hr hl fun s1 vs k1 z1 g1 o1 pv => ?_
  have len : vs.length = ks.length := by rw [pv.length_eq, List.length_map, Array.length_toList, sz]
  have hv : ∀ v ∈ vs, ∃ x tk, v = Value.str x tk := fun v hv => by
    obtain ⟨e, he, q⟩ := List.mem_map.mp (pv.mem_iff.mp hv)
    obtain ⟨x, tk, h, _⟩ := ge e he
    exact ⟨x, tk, q ▸ h⟩
  have hS := strs_mem hv
  have pt : (vs.map txt).Perm (texts es) := by
    have := pv.map txt
    rwa [List.map_map] at this
  refine wpAny_bind (wpAny_newList ?_ (by rw [len, sizeLine_eq]; omega))
  have hL : (s1.heap.push (seqObj "list" vs.toArray 0)).get? s1.heap.objs.size = some (seqObj "list" vs.toArray 0) := Heap.get?_push_size _ rfl
  refine wpAny_bind (wpAny_holding (wpAny_call_entry slot_list_sort ⟨_, hL, rfl⟩ entry_list_sort (list_sort_treeK strKind_oneLt hL hS.keysOf (fun v1 v2 rest e => keyKind_strs (ss := vs.map txt) (by rw [← e]; exact hS)) (by omega) fun st p1 p2 => ⟨_, rfl, ?_⟩) (args_list_sort _)))
  obtain ⟨ys, y1, y2, y3⟩ := sorted_out_str hS p1 p2
  obtain ⟨c, hc⟩ := sortedHeap_at (vs := vs) (out := (arrOf st).map (·.2)) hL
  have py := y2.trans pt
  refine wpAny_pure ⟨_, rfl, hQ _ s1.heap.objs.size _ c ys (fun b u e => ?_) g1 o1 z1 hc y1 y3 (py.nodup_iff.mpr nd) (py.trans pm)⟩
  have lt := Heap.lt_size (k1 b u e)
  show (sortedHeap (s1.heap.push (seqObj "list" vs.toArray 0)) s1.heap.objs.size vs ((arrOf st).map (·.2))).get? b = some u
  rw [sortedHeap_old (Nat.ne_of_lt lt) (by rw [size_push']; exact Nat.lt_succ_of_lt lt)]
  exact Heap.get?_push_of_some _ (k1 b u e)
end
/-- sorted(set(xs)) of a list of texts -/
def sortSetR (d : D) (M : Mem) (Q : DK) : Prop := ∃ es ss, lstAt M d = some es ∧ strsOf es = some ss ∧ ss.length < 63 ∧ ∀ ys p, SortsTo true ss ys → M p = none → Q (.ob p) (mupd M p (.lst (ys.map D.str)))
def sortSetK (Q : DK) : DK := fun d M => sortSetR d M Q
def dSortSet (te : DE) : DE := fun env M Q E => te env M (sortSetK Q) E
theorem s_sortSet {te env M Q E} : dSortSet te env M Q E = te env M (sortSetK Q) E := id rfl
theorem s_sortSetK {d M Q} : sortSetK Q d M = sortSetR d M Q := id rfl
theorem xe_sortedSet {X : Cx} {W : WX} {a : Expr} {ta : DE} {p p2 q pos : Pos} (hc : X.calm = true) (hg : Gl X "sorted") (hm : X.mg "sorted" = none) (hg2 : Gl X "set") (hm2 : X.mg "set" = none) (ha : XE X W a ta) (na : starEach [a] X.env = (false, eval a X.env) :: starEach [] X.env := by rfl) :
    XE X W (.Call (.Name "sorted" p) [.Call (.Name "set" p2) [a] [] q] [] pos) (dSortSet ta) := by
  refine ⟨fun env M Q Q' E E' hQ hE => ha.mono _ _ _ _ _ _ (fun d M1 ⟨es, ss, h1, h2, h3, h⟩ => ⟨es, ss, h1, h2, h3, fun ys p z1 z2 => hQ _ _ (h ys p z1 z2)⟩) hE, ⟨fun pins s σ H Q I h => ?_⟩⟩
  obtain ⟨env, M, re, sm, h⟩ := h
  have h1 : liftE X.K W ta σ H fun u H1 => ∃ (l : Addr) (ss : List Str), u = .ref l ∧ SqL X.K H1 l (ss.map V.str) ∧ ss.length < 63 ∧ ∀ ys p, SortsTo true ss ys → H1 p = none → Q (.ref p) (upd H1 p (.lst (ys.map V.str))) := by
    refine stepE ha.mono re sm h (fun d M1 u H1 e1 s1 re1 r1 q => ?_) fun _ _ _ z => z
    obtain ⟨es, ss, q1, q2, q3, q4⟩ := q
    obtain ⟨l, us, rfl, hs, lr⟩ := lstAt_rep s1 r1 q1
    rw [strsOf_eq q2] at lr
    rw [lr.strs] at hs
    exact ⟨l, ss, rfl, hs, q3, fun ys p z1 z2 => fin_lst (fun p hp => upK_mono e1 _ _ (q4 ys p z1 hp)) s1 z2 .of_strs⟩
  refine Call_ (ld_blt I hg hm (by rfl) ?_)
  refine PyProof.Rows.callWith_builtin1 (PyProof.Rows.args_cons ?_ rfl) rfl rfl
  refine Call_ (ld_blt I hg2 hm2 (by rfl) ?_)
  refine PyProof.Rows.callWith_type1 (PyProof.Rows.args_cons (thn (ha.pe.run pins s σ H _ I h1) fun v s1 ⟨x, H1, I1, r1, q1⟩ => PyProof.Rows.args_nil ?_) na) na rfl
  obtain ⟨l, ss, rfl, hs, few, q⟩ := q1
  cases r1
  obtain ⟨its, rv, pl, hz⟩ := I1.list hs
  have sa : StrsAre its ss := strsAre_of rv
  have isz : its.toArray.size = ss.length := by rw [List.size_toArray, ← rv.length, List.length_map]
  refine call_set_texts (I1.ok.hd hc) pl.isList isz (fun j v e => ?_) (by have : scanBound = 4096 := rfl; omega) fun h' tk S k => PyProof.Rows.args_nil ?_
  · obtain ⟨t, z⟩ := SS.strs_at sa j v (by simpa using e)
    exact ⟨t, z⟩
  have I2 : Inv X pins σ H1 { s1 with heap := h', toks := tk } := I1.kept k
  have fl := firsts_len ss []
  refine call_sorted_texts (s := { s1 with heap := h', toks := tk }) (I2.ok.hd hc) S (by simp only [List.length_nil] at fl; omega) fun s' p out c ys k2 g o hp e1 e2 e3 e4 e5 => ?_
  have hn : H1 p = none := I2.hok.fresh hp
  have ylen : (ys.map V.str).length ≤ sizeLine := by
    rw [List.length_map, e5.length_eq, sizeLine_eq]
    simp only [List.length_nil] at fl
    omega
  have J : Inv X pins σ (upd H1 p (.lst (ys.map V.str))) s' :=
    I2.call' (ch := []) o (Un.laid k2 hp hn) (I2.hok.laid k2 hp ⟨ylen, out.toList, c, vals_of_strs e2, e1⟩) (by rw [g]; exact I2.bare) fun _ z => nomatch z
  refine ⟨.ref p, _, J, rfl, q ys p ⟨e3, ?_⟩ hn⟩
  rw [if_pos rfl]
  refine ⟨e4, fun x => ?_⟩
  rw [e5.mem_iff, firsts_mem]
  simp
end PL

namespace PL
open PySem PySem.Spec PyProof.Rows L2

/-! what all laws have: the drawn numbers -/
def StAt (M : Mem) (a b : Addr) : Prop := ∃ p q c ns, M a = some (.lst [.ob b, .int p, .int q, .int c]) ∧ M b = some (.lst (List.map D.int ns)) ∧ 0 ≤ p ∧ 0 ≤ q ∧ b ≠ a
theorem StAt.keep {M M' : Mem} {a b : Addr} {S : List Addr} (h : StAt M a b) (k : Keep S M M') (ha : a ∉ S := by simp) (hb : b ∉ S := by simp) : StAt M' a b := by
  obtain ⟨p, q, c, ns, h1, h2, h3⟩ := h
  exact ⟨p, q, c, ns, k _ _ h1 ha, k _ _ h2 hb, h3⟩
theorem StAt.put {M : Mem} {a b l : Addr} {o : Ob} (h : StAt M a b) (ha : l ≠ a) (hb : l ≠ b) : StAt (mupd M l o) a b := h.keep (S := [l]) (Keep.put (by simp)) (by simpa using ha.symm) (by simpa using hb.symm)
theorem StAt.new {M : Mem} {a b l : Addr} {o : Ob} (h : StAt M a b) (hl : M l = none) : StAt (mupd M l o) a b := h.keep (S := []) (Keep.new hl)
theorem StAt.some {M : Mem} {a b : Addr} (h : StAt M a b) : (∃ o, M a = some o) ∧ ∃ o, M b = some o := by
  obtain ⟨p, q, c, ns, h1, h2, _⟩ := h
  exact ⟨⟨_, h1⟩, ⟨_, h2⟩⟩
theorem StAt.ne {M : Mem} {a b l : Addr} (h : StAt M a b) (hl : M l = none) : l ≠ a ∧ l ≠ b := by
  obtain ⟨⟨o, h1⟩, ⟨o2, h2⟩⟩ := h.some
  exact ⟨ne_new' h1 hl, ne_new' h2 hl⟩
theorem StAt.fresh {M M' : Mem} {a b l : Addr} (h : StAt M' a b) (k : Keep [a] M M') (hl : M' l = none) : M l = none := by
  cases e : M l with
  | none => rfl
  | some o =>
    have := k l o e (by simpa using (h.ne hl).1)
    rw [hl] at this
    cases this
def sp_start (K : PySem.W.Frag) : DSp := fun ds M Q E => ∃ a ns, ds = [.ob a] ∧ Scr K M a ns ∧ ∀ r b M', M r = none → M b = none → StAt M' r b → Keep [] M M' → Q (.ob r) M'
def sp_draw : DSp := fun ds M Q E => ∃ a b m, ds = [.ob a, .int m] ∧ StAt M a b ∧ 0 < m ∧ m < 1073741824 ∧ ∀ r M', 0 ≤ r → r < m → StAt M' a b → Keep [a] M M' → Q (.int r) M'
def seqI (M : Mem) : D → Option (List D)
  | .tup ds => some ds
  | .v (.str x) => some (signs x)
  | .v (.ref l) => match M l with
    | some (.lst ds) => some ds
    | _ => none
  | _ => none
def ofA (a : Addr) : D → Bool
  | .v (.ref l) => decide (l = a)
  | _ => false
theorem seqI_keep {M M' : Mem} {a : Addr} {d : D} {ds : List D} (h : seqI M d = some ds) (k : Keep [a] M M') (n : ofA a d = false) : seqI M' d = some ds := by
  unfold seqI at h ⊢
  split at h
  · exact h
  · exact h
  · rename_i l
    split at h
    · rename_i hm
      have hl : l ≠ a := by simpa [ofA] using n
      rw [k _ _ hm (by simpa using hl)]
      exact h
    · cases h
  · cases h
theorem signs_len (x : Str) : (signs x).length = x.length := by simp [signs, Str.length]
theorem len_seqI {M : Mem} {d : D} {ds : List D} {Q : DK} (h : seqI M d = some ds) (hl : ds.length ≤ sizeLine) (q : Q (.int ds.length) M) : (bLen [d] M).run M Q := by
  unfold seqI at h
  split at h
  · cases h; exact ⟨trivial, q⟩
  · cases h; rw [signs_len] at hl q; exact ⟨hl, q⟩
  · split at h
    · rename_i hm; cases h; simp only [bLen, hm]; exact ⟨trivial, q⟩
    · cases h
  · cases h
theorem atI_map' {α β : Type} (f : α → β) (xs : List α) (i : Int) : atI (xs.map f) i = (atI xs i).map f := by
  unfold atI
  rw [List.length_map]
  cases ixN xs.length i with
  | none => rfl
  | some j => simp
theorem ix_seqI {M : Mem} {d x : D} {ds : List D} {i : Int} {Q : DK} (h : seqI M d = some ds) (hl : ds.length ≤ sizeLine) (hx : atI ds i = some x) (q : Q x M) : (opIx d (.int i) M).run M Q := by
  unfold seqI at h
  split at h
  · cases h; simp only [opIx, hx]; exact ⟨trivial, q⟩
  · cases h
    rename_i z
    rw [signs_len] at hl
    unfold signs at hx
    rw [atI_map'] at hx
    cases e : atI z.cps.toList i with
    | none => rw [e] at hx; cases hx
    | some c =>
      rw [e] at hx
      cases hx
      simp only [opIx, e]
      exact ⟨hl, q⟩
  · split at h
    · rename_i hm; cases h; simp only [opIx, hm, hx]; exact ⟨trivial, q⟩
    · cases h
  · cases h
theorem atI_some {α : Type} {xs : List α} {i : Int} (h0 : 0 ≤ i) (h1 : i < xs.length) : ∃ x, atI xs i = some x ∧ x ∈ xs := by
  have h2 : i.toNat < xs.length := by omega
  refine ⟨xs[i.toNat], ?_, List.getElem_mem h2⟩
  unfold atI ixN
  rw [if_pos h0, if_pos h1]
  simp [h2]
theorem filter_tt {α : Type} (xs : List α) : xs.filter (fun _ => true) = xs := List.filter_eq_self.mpr fun _ _ => rfl
theorem atI_cons {α : Type} {x : α} {r : List α} {i : Int} : atI (x :: r) i = (ixN (r.length + 1) i).bind fun j => (x :: r)[j]? := rfl
theorem atI_zero {α : Type} {x : α} {r : List α} : atI (x :: r) 0 = some x := by
  unfold atI ixN
  simp
theorem atI_get {α : Type} {xs : List α} {i : Int} (h0 : 0 ≤ i) (h1 : i < xs.length) : atI xs i = some (xs[i.toNat]'(by omega)) := by
  unfold atI ixN
  rw [if_pos h0, if_pos h1]
  exact List.getElem?_eq_getElem _
theorem atI_natI {α : Type} {xs : List α} {i : Nat} (h1 : i < xs.length) : atI xs (i : Int) = some xs[i] := by
  rw [atI_get (by omega) (by omega)]
  simp
theorem atI_nat' {α : Type} {xs : List α} {i : Nat} (h1 : i < xs.length) : atI xs (0 + (i : Int)) = some xs[i] := by
  rw [Int.zero_add, atI_get (by omega) (by omega)]
  simp
def sp_one_of : DSp := fun ds M Q E => ∃ a b d es, ds = [.ob a, d] ∧ StAt M a b ∧ seqI M d = some es ∧ ofA a d = false ∧ es ≠ [] ∧ es.length < 16777216 ∧ ∀ x M', x ∈ es → StAt M' a b → Keep [a] M M' → Q x M'
/-! data of a law: ints, texts, tuples of such -/
mutual
def D.dat : D → Bool
  | .v (.int _) | .v (.str _) => true
  | .v _ => false
  | .tup ds => decide (ds.length < 1000000) && datL ds
def datL : List D → Bool
  | [] => true
  | d :: ds => d.dat && datL ds
end
theorem datL_mem : ∀ {ds : List D}, datL ds = true → ∀ d ∈ ds, d.dat = true
  | d :: ds, h, e, he => by
    simp only [datL, Bool.and_eq_true] at h
    rcases List.mem_cons.mp he with z | z
    · rw [z]; exact h.1
    · exact datL_mem h.2 e z
theorem dpL_mem : ∀ {ds : List D} {n : Nat}, dpL ds ≤ n → ∀ d ∈ ds, d.dp ≤ n
  | d :: ds, n, h, e, he => by
    simp only [dpL] at h
    rcases List.mem_cons.mp he with z | z
    · rw [z]; omega
    · exact dpL_mem (by omega) e z
def sp_is_int : DSp := fun ds M Q E => ∃ i, ds = [.int i] ∧ Q (.bl true) M
def sp_same (n : Nat) : DSp := fun ds M Q E => ∃ d, ds = [d, d] ∧ d.dat = true ∧ d.dp < n ∧ ∀ M', Keep [] M M' → Q (.bl true) M'
/-! isinstance of plain data -/
def isR (a : Option String) (n : String) : Res := match a with
  | some a => .val True (.bl (isi a n))
  | none => .bad
theorem q_is_tuple {d : D} {M : Mem} {Q : DK} : (bIsi [d, .v (.ty "tuple")] M).run M Q = (isR (tyN M d) "tuple").run M Q := by
  simp only [bIsi, isR]
  cases tyN M d with
  | none => rfl
  | some a => simp [Res.run]
theorem q_is_str {d : D} {M : Mem} {Q : DK} : (bIsi [d, .v (.ty "str")] M).run M Q = (isR (tyN M d) "str").run M Q := by
  simp only [bIsi, isR]
  cases tyN M d with
  | none => rfl
  | some a => simp [Res.run]
theorem q_is_int {d : D} {M : Mem} {Q : DK} : (bIsi [d, .v (.ty "int")] M).run M Q = (isR (tyN M d) "int").run M Q := by
  simp only [bIsi, isR]
  cases tyN M d with
  | none => rfl
  | some a => simp [Res.run]
theorem q_is_bool {d : D} {M : Mem} {Q : DK} : (bIsi [d, .v (.ty "bool")] M).run M Q = (isR (tyN M d) "bool").run M Q := by
  simp only [bIsi, isR]
  cases tyN M d with
  | none => rfl
  | some a => simp [Res.run]
theorem q_is_list {d : D} {M : Mem} {Q : DK} : (bIsi [d, .v (.ty "list")] M).run M Q = (isR (tyN M d) "list").run M Q := by
  simp only [bIsi, isR]
  cases tyN M d with
  | none => rfl
  | some a => simp [Res.run]
theorem q_isR {a n : String} {M : Mem} {Q : DK} : (isR (some a) n).run M Q = Q (.bl (isi a n)) M := by simp [isR, Res.run]
theorem i_NoneType_tuple : isi "NoneType" "tuple" = false := by decide
theorem i_NoneType_str : isi "NoneType" "str" = false := by decide
theorem i_NoneType_int : isi "NoneType" "int" = false := by decide
theorem i_NoneType_bool : isi "NoneType" "bool" = false := by decide
theorem i_NoneType_list : isi "NoneType" "list" = false := by decide
theorem i_bool_tuple : isi "bool" "tuple" = false := by decide
theorem i_bool_str : isi "bool" "str" = false := by decide
theorem i_bool_int : isi "bool" "int" = true := by decide
theorem i_bool_bool : isi "bool" "bool" = true := by decide
theorem i_bool_list : isi "bool" "list" = false := by decide
theorem i_int_tuple : isi "int" "tuple" = false := by decide
theorem i_int_str : isi "int" "str" = false := by decide
theorem i_int_int : isi "int" "int" = true := by decide
theorem i_int_bool : isi "int" "bool" = false := by decide
theorem i_int_list : isi "int" "list" = false := by decide
theorem i_str_tuple : isi "str" "tuple" = false := by decide
theorem i_str_str : isi "str" "str" = true := by decide
theorem i_str_int : isi "str" "int" = false := by decide
theorem i_str_bool : isi "str" "bool" = false := by decide
theorem i_str_list : isi "str" "list" = false := by decide
theorem i_tuple_tuple : isi "tuple" "tuple" = true := by decide
theorem i_tuple_str : isi "tuple" "str" = false := by decide
theorem i_tuple_int : isi "tuple" "int" = false := by decide
theorem i_tuple_bool : isi "tuple" "bool" = false := by decide
theorem i_tuple_list : isi "tuple" "list" = false := by decide
theorem i_list_tuple : isi "list" "tuple" = false := by decide
theorem i_list_str : isi "list" "str" = false := by decide
theorem i_list_int : isi "list" "int" = false := by decide
theorem i_list_bool : isi "list" "bool" = false := by decide
theorem i_list_list : isi "list" "list" = true := by decide
theorem i_dict_tuple : isi "dict" "tuple" = false := by decide
theorem i_dict_str : isi "dict" "str" = false := by decide
theorem i_dict_int : isi "dict" "int" = false := by decide
theorem i_dict_bool : isi "dict" "bool" = false := by decide
theorem i_dict_list : isi "dict" "list" = false := by decide
/-! == of plain data -/
theorem q_eqI {i j : Int} {M : Mem} {Q : DK} : (opEq (.int i) (.int j) M).run M Q = Q (.bl (decide (i = j))) M := by
  simp [opEq, pyM, D.pure, D.py, Res.run, PyData.depth, PyData.eqv, mostDeep, Bool.beq_eq_decide_eq]
theorem q_neI {i j : Int} {M : Mem} {Q : DK} : (opNe (.int i) (.int j) M).run M Q = Q (.bl (!decide (i = j))) M := by
  simp [opNe, pyM, D.pure, D.py, Res.run, PyData.depth, PyData.eqv, mostDeep, Bool.beq_eq_decide_eq]
theorem q_eqS {x y : Str} {M : Mem} {Q : DK} : (opEq (.str x) (.str y) M).run M Q = Q (.bl (decide (x = y))) M := by
  simp [opEq, pyM, D.pure, D.py, Res.run, PyData.depth, PyData.eqv, mostDeep, Bool.beq_eq_decide_eq]
theorem q_neS {x y : Str} {M : Mem} {Q : DK} : (opNe (.str x) (.str y) M).run M Q = Q (.bl (!decide (x = y))) M := by
  simp [opNe, pyM, D.pure, D.py, Res.run, PyData.depth, PyData.eqv, mostDeep, Bool.beq_eq_decide_eq]
mutual
theorem dat_pure : ∀ {d : D}, d.dat = true → d.pure = true
  | .v x, h => by cases x <;> first | rfl | (simp [D.dat] at h)
  | .tup ds, h => by
    simp only [D.dat, Bool.and_eq_true] at h
    simp only [D.pure]
    exact datL_pure h.2
theorem datL_pure : ∀ {ds : List D}, datL ds = true → pureL ds = true
  | [], _ => rfl
  | d :: ds, h => by
    simp only [datL, Bool.and_eq_true] at h
    simp only [pureL, Bool.and_eq_true]
    exact ⟨dat_pure h.1, datL_pure h.2⟩
end
mutual
theorem eqv_dat : ∀ {d e : D}, d.dat = true → e.dat = true → (D.eqv d e = true ↔ d = e)
  | .v x, .v y, h, g => by
    cases x <;> first | (simp [D.dat] at h; done) | skip
    all_goals cases y <;> first | (simp [D.dat] at g; done) | simp [D.eqv, D.py, PyData.eqv]
  | .v x, .tup es, h, g => by
    cases x <;> first | (simp [D.dat] at h; done) | simp [D.eqv, D.py, PyData.eqv]
  | .tup es, .v x, h, g => by
    cases x <;> first | (simp [D.dat] at g; done) | simp [D.eqv, D.py, PyData.eqv]
  | .tup ds, .tup es, h, g => by
    simp only [D.dat, Bool.and_eq_true] at h g
    have := eqvL_dat h.2 g.2
    simp only [D.eqv, D.py, PyData.eqv, D.tup.injEq]
    exact this
theorem eqvL_dat : ∀ {ds es : List D}, datL ds = true → datL es = true → (PyData.eqvAll (pyL ds) (pyL es) = true ↔ ds = es)
  | [], [], _, _ => by simp [pyL, PyData.eqvAll]
  | [], e :: es, _, _ => by simp [pyL, PyData.eqvAll]
  | d :: ds, [], _, _ => by simp [pyL, PyData.eqvAll]
  | d :: ds, e :: es, h, g => by
    simp only [datL, Bool.and_eq_true] at h g
    have h1 := eqv_dat h.1 g.1
    have h2 := eqvL_dat h.2 g.2
    simp only [pyL, PyData.eqvAll, Bool.and_eq_true, List.cons.injEq]
    unfold D.eqv at h1
    rw [h1, h2]
end
theorem ofS_inj {a b : String} : (Str.ofString a = Str.ofString b) = (a = b) := by
  apply propext
  constructor
  · intro h
    have h2 := congrArg TL.tl h
    rw [TL.tl_ofString, TL.tl_ofString] at h2
    have inj : ∀ xs ys : List Char, xs.map Char.toNat = ys.map Char.toNat → xs = ys := by
      intro xs
      induction xs with
      | nil => intro ys h; cases ys with
        | nil => rfl
        | cons y r => simp at h
      | cons x r ih => intro ys h; cases ys with
        | nil => simp at h
        | cons y t =>
          simp only [List.map_cons, List.cons.injEq] at h
          rw [Char.toNat_inj.mp h.1, ih t h.2]
    have h3 : a.toList = b.toList := inj _ _ h2
    exact String.toList_inj.mp h3
  · rintro rfl; rfl
/-! in of plain data -/
theorem any_str {x : Str} {fs : List Str} : ((fs.map D.str).any fun d => D.eqv d (.str x)) = decide (x ∈ fs) := by
  rw [List.any_map]
  induction fs with
  | nil => simp
  | cons y r ih =>
    rw [List.any_cons, ih]
    simp only [Function.comp, D.eqv, D.py, PyData.eqv, List.mem_cons, Bool.decide_or, Bool.beq_eq_decide_eq]
    congr 1
    exact decide_eq_decide.mpr eq_comm
theorem pureL_strs : ∀ {fs : List Str}, pureL (fs.map D.str) = true
  | [] => rfl
  | x :: r => by simp only [List.map_cons, pureL, D.pure, Bool.true_and]; exact pureL_strs
theorem dpL_strs : ∀ {fs : List Str}, dpL (fs.map D.str) = 0
  | [] => rfl
  | x :: r => by simp only [List.map_cons, dpL, D.dp, Nat.zero_max]; exact dpL_strs
theorem isIn_strs {x : Str} {fs : List Str} {a : Addr} {M : Mem} (h : M a = some (.lst (fs.map D.str)) ∨ M a = some (.rol (fs.map D.str))) : isIn (.str x) (.ob a) M = some (0, decide (x ∈ fs)) := by
  rcases h with h | h <;> simp [isIn, h, pureL_strs, dpL_strs, D.pure, D.dp] <;> (have := any_str (x := x) (fs := fs); simp only [List.any_map, Function.comp] at this; exact this)
theorem in_strs {x : Str} {fs : List Str} {a : Addr} {M : Mem} {Q : DK} (h : M a = some (.lst (fs.map D.str))) : (opIn (.str x) (.ob a) M).run M Q = Q (.bl (decide (x ∈ fs))) M := by
  simp [opIn, isIn_strs (.inl h), Res.run, mostDeep]
theorem notIn_strs {x : Str} {fs : List Str} {a : Addr} {M : Mem} {Q : DK} (h : M a = some (.lst (fs.map D.str))) : (opNotIn (.str x) (.ob a) M).run M Q = Q (.bl (!decide (x ∈ fs))) M := by
  simp [opNotIn, isIn_strs (.inl h), Res.run, mostDeep]
theorem in_tup {d : D} {ds : List D} {M : Mem} {Q : DK} (h1 : datL ds = true) (h2 : d.dat = true) (hm : d ∈ ds) (hd : dpL ds ≤ 150) (q : Q (.bl true) M) : (opIn d (.tup ds) M).run M Q := by
  have e : (ds.any fun e => D.eqv e d) = true := List.any_eq_true.mpr ⟨d, hm, (eqv_dat h2 h2).mpr rfl⟩
  simp only [opIn, isIn, datL_pure h1, dat_pure h2, Bool.and_self, if_true, e]
  exact ⟨Nat.le_trans (Nat.min_le_left _ _) hd, q⟩
/-! all, any of made bools -/
theorem run_all {α : Type} {xs : List α} {g : α → Bool} {a : Addr} {M : Mem} {Q : DK} (h : M a = some (.lst (xs.map fun x => D.bl (g x)))) (q : Q (.bl (xs.all g)) M) : (bAll [.ob a] M).run M Q := by
  simp only [bAll, h]
  rw [show (xs.map fun x => D.bl (g x)) = (xs.map g).map D.bl by rw [List.map_map]; rfl, bools_map]
  refine ⟨trivial, ?_⟩
  have e : (xs.map g).all id = xs.all g := by rw [List.all_map]; rfl
  rw [e]
  exact q
theorem run_any {α : Type} {xs : List α} {g : α → Bool} {a : Addr} {M : Mem} {Q : DK} (h : M a = some (.lst (xs.map fun x => D.bl (g x)))) (q : Q (.bl (xs.any g)) M) : (bAny [.ob a] M).run M Q := by
  simp only [bAny, h]
  rw [show (xs.map fun x => D.bl (g x)) = (xs.map g).map D.bl by rw [List.map_map]; rfl, bools_map]
  refine ⟨trivial, ?_⟩
  have e : (xs.map g).any id = xs.any g := by rw [List.any_map]; rfl
  rw [e]
  exact q
/-- a def of the module -/
structure Src (K : PySem.W.Frag) (mg : Str → Option Value) (x : Str) (st : Stmt) (ps : List Str) : Prop where
  ex : ∃ f fd, Fun K x x st f fd ∧ mg x = some (.ref f) ∧ PySem.W.keepIn K (.ref f) = true ∧ Binds K fd ps []
theorem Src.fn {P : Program} {w : World} {K : PySem.W.Frag} {mg : Str → Option Value} {base : Heap} {x : Str} {st : Stmt} {ps : List Str} {k : Nat} {sp : DSp} (S : Src K mg x st ps) (m : MonoSp sp)
    (h : ∀ f fd, Fun K x x st f fd → FnOk P w K mg base (L2.CX P w) k f fd ps (liftSp K sp)) : Fn P w K mg base k x sp [] := by
  obtain ⟨f, fd, F, h1, h2, h3⟩ := S.ex
  exact mkFn m (h f fd F) h1 h2 h3
theorem fn_none {P : Program} {w : World} {K : PySem.W.Frag} {mg : Str → Option Value} {base : Heap} {f : Addr} {fd : FuncData} {ps : List Str} {k : Nat} {sp : DSp} (h : ∀ ds M Q E, ¬ sp ds M Q E) : FnOk P w K mg base (L2.CX P w) k f fd ps (liftSp K sp) :=
  ⟨fun vs H Q E ⟨ds, M, _, _, z⟩ => (h _ _ _ _ z).elim, fun A outer s H args us vs Q E _ _ _ _ ⟨ds, M, _, _, z⟩ => (h _ _ _ _ z).elim⟩
theorem mono_start {K : PySem.W.Frag} : MonoSp (sp_start K) := by
  rintro ds M Q Q' E E' hQ hE ⟨a, ns, h1, h2, h⟩
  exact ⟨a, ns, h1, h2, fun r b M' z1 z2 z3 z4 => hQ _ _ (h r b M' z1 z2 z3 z4)⟩
theorem mono_draw : MonoSp sp_draw := by
  rintro ds M Q Q' E E' hQ hE ⟨a, b, m, h1, h2, h3, h4, h⟩
  exact ⟨a, b, m, h1, h2, h3, h4, fun r M' z1 z2 z3 z4 => hQ _ _ (h r M' z1 z2 z3 z4)⟩
theorem mono_one_of : MonoSp sp_one_of := by
  rintro ds M Q Q' E E' hQ hE ⟨a, b, d, es, h1, h2, h3, h4, h5, h6, h⟩
  exact ⟨a, b, d, es, h1, h2, h3, h4, h5, h6, fun x M' z1 z2 z3 => hQ _ _ (h x M' z1 z2 z3)⟩
theorem mono_is_int : MonoSp sp_is_int := by
  rintro ds M Q Q' E E' hQ hE ⟨i, h1, h⟩
  exact ⟨i, h1, hQ _ _ h⟩
theorem mono_same {n : Nat} : MonoSp (sp_same n) := by
  rintro ds M Q Q' E E' hQ hE ⟨d, h1, h2, h3, h⟩
  exact ⟨d, h1, h2, h3, fun M' z => hQ _ _ (h M' z)⟩
end PL

namespace PL
open PySem PySem.Spec PyProof.Rows L2

/-! own errors without fields -/
structure ECls (K : PySem.W.Frag) (mg : Str → Option Value) (x : Str) (C : Addr) : Prop where
  g : mg x = some (.ref C)
  n : PySem.W.excIn K C [.type "ValueError", .type "Exception", .type "BaseException", .type "object"] "ValueError.__new__" = true
  k : PySem.W.keepIn K (.ref C) = true
  b : PySem.W.subIn K (.ref C) (.type "BaseException") = some true
  t : PySem.W.typeIn K (.ref C) = some (.type "type")
  e : PySem.W.exmOne K (.ref C) (.ref C) = some true
  c : ExcC K C
theorem xs_raiseC {X : Cx} {W : WX} {pos p p2 pos2 : Pos} {x m : Str} {j : Nat} {C : Addr} (E : ECls X.K X.mg x C) (hc : X.calm = true) (tk : Takes X W) (hg : Gl X x) (hdb : (x == ("__debug__" : Str)) = false := by decide) :
    XS X W (.Raise (some (.Call (.Name x p) [.Constant (.str m) j p2] [] pos2)) none pos) (dRaise (.ref C) []) :=
  xs_raise0 hc tk (pmk_own PySem.F.excBase_ValueError E.n E.g E.k (raises_own E.b E.t) hg hdb)
/-- a suite that only errors of the class C reach -/
theorem suite_by {X : Cx} {C : Value} {st : List Stmt} {ts : Addr → DS} (h : ∀ (a : Addr) (oe : Obj) (pn : List (Addr × Obj)), Zc C none oe → (∃ vs, oe.data = .fields vs) → XSs (X.suite a ((a, oe) :: pn)) W0 st (ts a)) :
    ∀ (a : Addr) (oe : Obj) (cls : Value) (pn : List (Addr × Obj)), Zc cls none oe → (∃ vs, oe.data = .fields vs) → XSs (X.suite a ((a, oe) :: pn)) W0 st (fun D env M => cls = C ∧ ts a D env M) := by
  intro a oe cls pn hz hf
  by_cases e : cls = C
  · subst e
    have q := h a oe pn hz hf
    refine ⟨fun D D' env M l z => ⟨z.1, q.mono _ _ _ _ l z.2⟩, ⟨fun pins s σ H D I z => ?_⟩⟩
    obtain ⟨env, M, re, sm, _, z⟩ := z
    exact q.ps.run pins s σ H D I ⟨env, M, re, sm, z⟩
  · refine ⟨fun D D' env M l z => (e z.1).elim, ⟨fun pins s σ H D I z => ?_⟩⟩
    obtain ⟨env, M, re, sm, z, _⟩ := z
    exact (e z).elim
theorem suite_mono {C : Value} {ts : Addr → DS} (h : ∀ a, MonoS (ts a)) : ∀ (a : Addr) (cls : Value), MonoS (fun D env M => cls = C ∧ ts a D env M) := fun a cls D D' env M l z => ⟨z.1, h a _ _ _ _ l z.2⟩
theorem xs_tryC {X : Cx} {K : PySem.W.Frag} {mg : Str → Option Value} {W : WX} {x n : Str} {C : Addr} (i : Nat) {body suite : List Stmt} {b₀ : Stmt} {np pos' pos : Pos} {tb : DS} {ts : Addr → DS} (E : ECls K mg x C) (hK : X.K = K) (hmg : X.mg = mg) (hg : Gl X x) (hs : X.stack = X.env :: X.outer) (hf : X.env.frame = some X.env.locals) (hN : X.N.Nodup) (hln : X.env.kindOf n = some .local) (tk : Takes X W)
    (hb : ∀ (W : WX) (pn : List (Addr × Obj)) (xe : Value → Shared → Prop), Takes (X.tr pn xe) W → PassesOwn (model X.prog X.w) X.A X.env xe → XSs (X.tr pn xe) W body tb)
    (h : ∀ (a : Addr) (oe : Obj) (pn : List (Addr × Obj)), Zc (.ref C) none oe → (∃ vs, oe.data = .fields vs) → XSs (X.suite a ((a, oe) :: pn)) W0 (b₀ :: suite) (ts a)) (hdb : (x == ("__debug__" : Str)) = false := by decide) (hi : X.N[i]? = some n := by rfl) :
    XS X W (.Try body [.ExceptHandler (some (.Name x np)) (some n) (b₀ :: suite) pos'] [] [] pos) (dTryAs (fun z => PySem.W.exmOne K z (.ref C)) i tb (fun a cls D env M => cls = .ref C ∧ ts a D env M)) := by
  subst hK hmg
  have mb : MonoS tb := (hb W0 [] (fun _ _ => False) takes0 PassesOwn.never).mono
  have mt : ∀ a, MonoS (ts a) := fun a => (h a { cls := .ref C, dict := none, data := .fields #[] } [] ⟨rfl, rfl⟩ ⟨_, rfl⟩).mono
  exact xs_tryAs i hs hf hN hln ⟨hg, hdb, .inl E.g⟩ tk (suite_mono mt) hb (suite_by h) mb hi
/-- isinstance of the error that the suite holds -/
def bIsE (K : PySem.W.Frag) (D a : Addr) : DCallG := fun ds M Q => ∃ (c : V) (cv : Value) (b : Bool), ds = [.ob a, .v c] ∧ (∀ u, RelV c u → u = cv) ∧ PySem.W.kitOne K (.ref D) cv = some b ∧ Q (.bl b) M
theorem bIsE_mono {K : PySem.W.Frag} {D a : Addr} : MonoC (bIsE K D a) := by
  rintro ds M Q Q' hQ ⟨c, cv, b, h1, h2, h3, h⟩
  exact ⟨c, cv, b, h1, h2, h3, hQ _ _ h⟩
theorem c_isE {X : Cx} {K : PySem.W.Frag} {a D : Addr} {oe : Obj} {pn : List (Addr × Obj)} (C : ExcC K D) (hK : X.K = K) (hz : Zc (.ref D) none oe) (hf : ∃ vs, oe.data = .fields vs) : CallR (X.suite a ((a, oe) :: pn)) (.builtin "isinstance") (upCallG X.K (bIsE K D a)) := by
  subst hK
  rintro pins s σ H xs us Q I r ⟨ds, M, rl, sm, c, cv, b, rfl, h1, h2, h⟩
  obtain ⟨u, v, rfl, q1, q2⟩ := rl2 rl
  rw [rep_v q1, rep_v q2] at r
  exact call_isE C hz hf pins s σ H _ us Q I r ⟨c, cv, b, rfl, h1, h2, fin_val h sm⟩

/-! more of texts -/
def seqS (M : Mem) (d : D) : Option (List Str) := match d with
  | .tup ds => strsOf ds
  | d => (lstAt M d).bind strsOf
def mJoin : DMeth
  | .v (.str a), [d], M => match seqS M d with
    | some ys => .val ((ys.map (·.length)).sum + ys.length * a.length ≤ 16777216) (.str (Txt.join a ys))
    | none => .bad
  | _, _, _ => .bad
def mZfill : DMeth
  | .v (.str a), [.v (.int i)], _ => .val (PadOk i = true) (.str (Txt.zfill a i))
  | _, _, _ => .bad
def mFind3 : DMeth
  | .v (.str a), [.v (.str b), .v (.int i)], _ => .val True (.int (Txt.find3 a b i))
  | _, _, _ => .bad
section
variable {X : Cx}
theorem m_join : MtR X "str.join" (upMeth X.K mJoin) := by
  rintro pins s σ H x xs v us Q I rx rxs ⟨d, ds, M, r1, rl, sm, h⟩
  unfold mJoin at h
  split at h <;> first | exact h.elim | skip
  rename_i a d'
  split at h <;> first | exact h.elim | skip
  rename_i ys hy
  obtain ⟨u, rfl, q⟩ := rl1 rl
  rw [rep_v r1] at rx
  cases d' with
  | tup es =>
    obtain ⟨p, ws, rfl, q1, l1⟩ := rep_tup q
    rw [strsOf_eq (show strsOf es = some ys from hy)] at l1
    rw [l1.strs] at q1
    exact mt_join pins s σ H _ _ v us Q I rx rxs ⟨_, p, ys, rfl, rfl, .inr q1, h.1, fin_val h.2 sm⟩
  | v x =>
    obtain ⟨es, h1, h2⟩ := Option.bind_eq_some_iff.mp (show (lstAt M (.v x)).bind strsOf = some ys from hy)
    obtain ⟨p, ws, rfl, q1, l1⟩ := lstAt_rep sm q h1
    rw [strsOf_eq h2] at l1
    rw [l1.strs] at q1
    exact mt_join pins s σ H _ _ v us Q I rx rxs ⟨_, p, ys, rfl, rfl, .inl q1, h.1, fin_val h.2 sm⟩
theorem m_zfill : MtR X "str.zfill" (upMeth X.K mZfill) := by
  rintro pins s σ H x xs v us Q I rx rxs ⟨d, ds, M, r1, rl, sm, h⟩
  unfold mZfill at h
  split at h <;> first | exact h.elim | skip
  obtain ⟨u, rfl, q⟩ := rl1 rl
  rw [rep_v r1] at rx
  rw [rep_v q] at rxs
  exact mt_zfill pins s σ H _ _ v us Q I rx rxs ⟨_, _, rfl, rfl, h.1, fin_val h.2 sm⟩
theorem m_find3 : MtR X "str.find" (upMeth X.K mFind3) := by
  rintro pins s σ H x xs v us Q I rx rxs ⟨d, ds, M, r1, rl, sm, h⟩
  unfold mFind3 at h
  split at h <;> first | exact h.elim | skip
  obtain ⟨u, w, rfl, q, q2⟩ := rl2 rl
  rw [rep_v r1] at rx
  rw [rep_v q, rep_v q2] at rxs
  exact mt_find3 pins s σ H _ _ v us Q I rx rxs ⟨_, _, _, rfl, rfl, fin_val h.2 sm⟩
end
/-! range(i, j, c) -/
def rgc (lo c : Int) (n : Nat) : List D := (List.range n).map fun i => D.int (lo + (i : Nat) * c)
theorem rep_rangeC {K : PySem.W.Frag} {H0 : Hp} {lo c : Int} {n : Nat} : ItRep K H0 (Itc lo c n) ⟨rgc lo c n, fun _ => True⟩ where
  go := fun i H M e s k hi => by
    have hi : i < n := by simpa [rgc] using hi
    exact hi
  yld := fun i H M x H' e s k hi y => by
    obtain ⟨rfl, rfl⟩ := y
    have hi : i < n := by simpa [rgc] using hi
    exact ⟨.int (lo + (i : Nat) * c), by simp [rgc, hi], rep_of, Ext.refl, s⟩
  stop := fun H M e s k => by simp [rgc, Itc]
def rng3K (R : DIt → Mem → Prop) : List D → Mem → Prop := fun ds M => ∃ i j c n, ds = [.int i, .int j, .int c] ∧ RgC i j c n ∧ R ⟨rgc i c n, fun _ => True⟩ M
def dRange3 (ta : DA) : DI := fun env M R E => ta env M (rng3K R) E
theorem s_rng3 {ta : DA} {env M R E} : dRange3 ta env M R E = ta env M (rng3K R) E := id rfl
theorem s_rng3K {R ds M} : rng3K R ds M = ∃ i j c n, ds = [.int i, .int j, .int c] ∧ RgC i j c n ∧ R ⟨rgc i c n, fun _ => True⟩ M := id rfl
section
variable {X : Cx} {W : WX} {tg a b c : Expr} {ta : DA} {pos p : Pos}
theorem xi_range3 (hg : Gl X "range") (hm : X.mg "range" = none) (ha : XA X W [a, b, c] ta) (hs : starEach [a, b, c] X.env = (false, eval a X.env) :: starEach [b, c] X.env := by rfl) (hs2 : (backTo pos (starEach [b, c] X.env)).any (·.1) = false := by rfl) :
    XI X W tg (.Call (.Name "range" p) [a, b, c] [] pos) (dRange3 ta) := by
  refine ⟨fun env M Q Q' E E' hQ hE h => ?_, PIw (pi_range3 hg hm ha.pa hs hs2) ?_⟩
  · refine ha.mono env M _ _ _ _ (fun ds M1 q => ?_) hE h
    obtain ⟨i, j, c, n, h1, h2, h3⟩ := q
    exact ⟨i, j, c, n, h1, h2, hQ _ _ h3⟩
  rintro σ H R ⟨env, M, re, s, h⟩
  refine stepA ha.mono re s h (fun ds M1 us H1 e1 s1 re1 r1 q => ?_) fun _ _ _ z => z
  obtain ⟨i, j, c, n, rfl, h2, h3⟩ := q
  obtain ⟨u, r, rfl, q1, r1⟩ := r1
  obtain ⟨v, w, rfl, q2, q3⟩ := rl2 r1
  rw [rep_v q1, rep_v q2, rep_v q3]
  exact ⟨i, j, c, n, rfl, h2, h3 _ H1 e1 s1 rep_rangeC⟩
end
end PL

namespace PL
open PySem PySem.Spec PyProof.Rows L2 SX
/-! texts as lists of signs -/
theorem cps_S (l : List Nat) : (S l).cps.toList = l := rfl
theorem len_S (l : List Nat) : (S l).length = l.length := SX.S_len l
theorem cut_to {l : List Nat} {k : Nat} : cutS (S l) none (some (k : Int)) = S (l.take k) := by
  unfold cutS
  rw [HT.sIx_none, HT.sIx_nat, len_S, cps_S]
  apply congrArg S
  rw [List.drop_zero, Nat.sub_zero, List.take_eq_take_iff]
  omega
theorem cut_from {l : List Nat} {k : Nat} : cutS (S l) (some (k : Int)) none = S (l.drop k) := by
  unfold cutS
  rw [HT.sIx_none, HT.sIx_nat, len_S, cps_S]
  apply congrArg S
  by_cases h : k ≤ l.length
  · rw [Nat.min_eq_left h, List.take_of_length_le (by rw [List.length_drop]; omega)]
  · rw [Nat.min_eq_right (by omega), List.drop_eq_nil_of_le (Nat.le_refl _), List.drop_eq_nil_of_le (by omega), List.take_nil]
theorem cut_mid {l : List Nat} {i j : Nat} : cutS (S l) (some (i : Int)) (some (j : Int)) = S ((l.drop i).take (j - i)) := by
  unfold cutS
  rw [HT.sIx_nat, HT.sIx_nat, len_S, cps_S]
  apply congrArg S
  by_cases h : i ≤ l.length
  · rw [Nat.min_eq_left h, List.take_eq_take_iff, List.length_drop]
    omega
  · rw [Nat.min_eq_right (show l.length ≤ i by omega), List.drop_eq_nil_of_le (Nat.le_refl _), List.drop_eq_nil_of_le (show l.length ≤ i by omega), List.take_nil, List.take_nil]
theorem in_sign {c : Nat} {z : Str} {M : Mem} {Q : DK} : (opIn (.str (S [c])) (.str z) M).run M Q = Q (.bl (decide (c ∈ z.cps.toList))) M := by
  show ((match (if (1 : Nat) = 1 then some (0, decide (c ∈ z.cps.toList)) else none : Option (Nat × Bool)) with | some (n, b) => Res.val (n ≤ mostDeep) (D.bl b) | none => Res.bad).run M Q) = _
  rw [if_pos rfl]
  simp [Res.run]
theorem notIn_sign {c : Nat} {z : Str} {M : Mem} {Q : DK} : (opNotIn (.str (S [c])) (.str z) M).run M Q = Q (.bl (!decide (c ∈ z.cps.toList))) M := by
  show ((match (if (1 : Nat) = 1 then some (0, decide (c ∈ z.cps.toList)) else none : Option (Nat × Bool)) with | some (n, b) => Res.val (n ≤ mostDeep) (D.bl !b) | none => Res.bad).run M Q) = _
  rw [if_pos rfl]
  simp [Res.run]
theorem zfill_S {l : List Nat} {n : Nat} (h1 : l.length ≤ n) (h2 : ∀ c ∈ l.head?, c ≠ 43 ∧ c ≠ 45) : Txt.zfill (S l) (n : Int) = S (List.replicate (n - l.length) 48 ++ l) := by
  unfold Txt.zfill
  rw [len_S]
  by_cases h : (n : Int) ≤ l.length
  · rw [if_pos h, show n - l.length = 0 by omega]
    rfl
  · rw [if_neg h]
    have e : zfilled (S l) ((n : Int).toNat - l.length) = Builtin.Str.padded (S l) ((n : Int).toNat - l.length) 0 48 := by
      unfold zfilled
      have : (S l).cps[0]? = l.head? := by cases l <;> rfl
      rw [this]
      split
      · rename_i z; exact absurd rfl (h2 43 (by rw [z]; rfl)).1
      · rename_i z; exact absurd rfl (h2 45 (by rw [z]; rfl)).2
      · rfl
    rw [e]
    apply TL.ext_tl
    simp [Builtin.Str.padded, TL.tl]
theorem at_one {l : List Nat} {c i : Nat} : StrLaws.At (S l) (S [c]) (S l).length i ↔ l[i]? = some c := StrLaws.subAt_one (S l) c i
/-- find of one sign -/
theorem find_one {l : List Nat} {c k : Nat} (hk : k ≤ l.length) : Txt.find3 (S l) (S [c]) (k : Int) = if c ∈ l.drop k then ((k + ((l.drop k).takeWhile fun x => decide (x ≠ c)).length : Nat) : Int) else -1 := by
  have ek : fromIndex (S l).length (k : Int) = k := by
    unfold fromIndex
    rw [if_neg (by omega)]
    omega
  unfold Txt.find3
  rw [ek]
  rcases StrLaws.occ_head_from (S l) (S [c]) k 1 (Nat.le_refl 1) with ⟨e, h⟩ | ⟨i, r, e, h1, h2, h3⟩
  · rw [e, if_neg]
    intro hm
    obtain ⟨j, hj, q⟩ := List.getElem_of_mem hm
    refine h (k + j) (by omega) (at_one.mpr ?_)
    rw [← q, List.getElem_drop]
    exact List.getElem?_eq_getElem _
  · rw [e]
    have q := at_one.mp h2
    obtain ⟨hi, q⟩ := List.getElem?_eq_some_iff.mp q
    have hd : (l.drop k)[i - k]? = some c := by
      rw [List.getElem?_drop, show k + (i - k) = i by omega, List.getElem?_eq_getElem hi, q]
    have hm : c ∈ l.drop k := List.mem_of_getElem? hd
    rw [if_pos hm]
    have el : ((l.drop k).takeWhile fun x => decide (x ≠ c)).length = i - k := by
      have h4 : ∀ j, j < i - k → (l.drop k)[j]? ≠ some c := fun j hj z => h3 (k + j) (by omega) (by omega) (at_one.mpr (by rw [List.getElem?_drop] at z; exact z))
      generalize l.drop k = m at hd h4
      generalize i - k = n at hd h4
      clear e h1 h2 h3 q hi hm hk ek r
      induction n generalizing m with
      | zero =>
        cases m with
        | nil => rfl
        | cons a r =>
          have : a = c := by simpa using hd
          simp [List.takeWhile, this]
      | succ n ih =>
        cases m with
        | nil => cases hd
        | cons a r =>
          have ha : a ≠ c := fun z => h4 0 (by omega) (by rw [z]; rfl)
          have := ih r (by simpa using hd) (fun j hj => by have := h4 (j + 1) (by omega); simpa using this)
          simp only [List.takeWhile, decide_eq_true ha, List.length_cons, this]
    rw [el]
    show (i : Int) = _
    omega
end PL

set_option maxHeartbeats 4000000
namespace K33
open PySem PySem.Spec PyProof.Rows L2 PL
def topS (i : Nat) : Stmt := PySem.Challenge.pw_cellchains_k33_integers_and_data.main.body.getD i (.Pass ⟨0, 0, 0, 0⟩)
abbrev s_write_integer : Stmt := topS 6
theorem sc_write_integer : FnScope ["n", "chunks", "low"] ["n"] (defScope s_write_integer) := ⟨rfl, rfl, rfl, by decide +kernel, rfl, by decide +kernel, by decide +kernel⟩
abbrev s_read_integer : Stmt := topS 7
theorem sc_read_integer : FnScope ["text", "digits", "char", "head", "n", "start"] ["text"] (defScope s_read_integer) := ⟨rfl, rfl, rfl, by decide +kernel, rfl, by decide +kernel, by decide +kernel⟩
abbrev s_write_data : Stmt := topS 11
theorem sc_write_data : FnScope ["datum", "item"] ["datum"] (defScope s_write_data) := ⟨rfl, rfl, rfl, by decide +kernel, rfl, by decide +kernel, by decide +kernel⟩
abbrev s_plain_text : Stmt := topS 12
theorem sc_plain_text : FnScope ["text", "char"] ["text"] (defScope s_plain_text) := ⟨rfl, rfl, rfl, by decide +kernel, rfl, by decide +kernel, by decide +kernel⟩
abbrev s_read_plain : Stmt := topS 13
theorem sc_read_plain : FnScope ["text", "start", "end"] ["text", "start"] (defScope s_read_plain) := ⟨rfl, rfl, rfl, by decide +kernel, rfl, by decide +kernel, by decide +kernel⟩
abbrev s_read_data : Stmt := topS 14
theorem sc_read_data : FnScope ["text", "stack", "index", "fresh", "done", "item"] ["text"] (defScope s_read_data) := ⟨rfl, rfl, rfl, by decide +kernel, rfl, by decide +kernel, by decide +kernel⟩
abbrev s__law_start : Stmt := topS 16
theorem sc__law_start : FnScope ["script"] ["script"] (defScope s__law_start) := ⟨rfl, rfl, rfl, by decide +kernel, rfl, by decide +kernel, by decide +kernel⟩
abbrev s__law_draw : Stmt := topS 17
theorem sc__law_draw : FnScope ["state", "most", "found", "cell", "mixed"] ["state", "most"] (defScope s__law_draw) := ⟨rfl, rfl, rfl, by decide +kernel, rfl, by decide +kernel, by decide +kernel⟩
abbrev s__law_one_of : Stmt := topS 18
theorem sc__law_one_of : FnScope ["state", "items"] ["state", "items"] (defScope s__law_one_of) := ⟨rfl, rfl, rfl, by decide +kernel, rfl, by decide +kernel, by decide +kernel⟩
abbrev s__law_is_int : Stmt := topS 19
theorem sc__law_is_int : FnScope ["x"] ["x"] (defScope s__law_is_int) := ⟨rfl, rfl, rfl, by decide +kernel, rfl, by decide +kernel, by decide +kernel⟩
abbrev s__law_same : Stmt := topS 20
theorem sc__law_same : FnScope ["x", "y", "k"] ["x", "y"] (defScope s__law_same) := ⟨rfl, rfl, rfl, by decide +kernel, rfl, by decide +kernel, by decide +kernel⟩
abbrev s__law_integer_drawn : Stmt := topS 21
theorem sc__law_integer_drawn : FnScope ["state", "many", "pick", "text", "number", "k", "digit"] ["state"] (defScope s__law_integer_drawn) := ⟨rfl, rfl, rfl, by decide +kernel, rfl, by decide +kernel, by decide +kernel⟩
abbrev s__law_text_drawn : Stmt := topS 22
theorem sc__law_text_drawn : FnScope ["state", "signs", "text", "k"] ["state"] (defScope s__law_text_drawn) := ⟨rfl, rfl, rfl, by decide +kernel, rfl, by decide +kernel, by decide +kernel⟩
abbrev s__law_datum_drawn : Stmt := topS 23
theorem sc__law_datum_drawn : FnScope ["state", "depth", "pick", "rows", "k", "datum", "text"] ["state", "depth"] (defScope s__law_datum_drawn) := ⟨rfl, rfl, rfl, by decide +kernel, rfl, by decide +kernel, by decide +kernel⟩
abbrev s__law_is_refused : Stmt := topS 24
theorem sc__law_is_refused : FnScope ["how", "text", "e"] ["how", "text"] (defScope s__law_is_refused) := ⟨rfl, rfl, rfl, by decide +kernel, rfl, by decide +kernel, by decide +kernel⟩
abbrev s__law_bad_integers : Stmt := topS 25
theorem sc__law_bad_integers : FnScope ["text", "found"] ["text"] (defScope s__law_bad_integers) := ⟨rfl, rfl, rfl, by decide +kernel, rfl, by decide +kernel, by decide +kernel⟩
abbrev s__law_bad_data : Stmt := topS 26
theorem sc__law_bad_data : FnScope ["state", "text", "at", "found"] ["state", "text"] (defScope s__law_bad_data) := ⟨rfl, rfl, rfl, by decide +kernel, rfl, by decide +kernel, by decide +kernel⟩
abbrev s_law : Stmt := topS 27
theorem sc_law : FnScope ["script", "state", "turn", "number", "text", "datum", "written", "deep", "nest", "k"] ["script"] (defScope s_law) := ⟨rfl, rfl, rfl, by decide +kernel, rfl, by decide +kernel, by decide +kernel⟩
structure GF (K : PySem.W.Frag) (mg : Str → Option Value) (C_CellchainsError C_BadText v_read_integer v_read_data : Addr) : Prop where
  range : mg "range" = none
  isinstance : mg "isinstance" = none
  tuple : mg "tuple" = none
  str : mg "str" = none
  divmod : mg "divmod" = none
  len : mg "len" = none
  int : mg "int" = none
  list : mg "list" = none
  abs : mg "abs" = none
  all : mg "all" = none
  bool : mg "bool" = none
  ord : mg "ord" = none
  BASE : ∃ u, mg "BASE" = some u ∧ RelV (.int 10000000000000000000000000000000000000000000000000000000000000000) u
  DIGITS : ∃ u, mg "DIGITS" = some u ∧ RelV (.str "0123456789") u
  DEPTH : ∃ u, mg "DEPTH" = some u ∧ RelV (.int 100) u
  SIGNS : ∃ u, mg "SIGNS" = some u ∧ RelV (.str "-0123456789") u
  E_CellchainsError : ECls K mg "CellchainsError" C_CellchainsError
  E_BadText : ECls K mg "BadText" C_BadText
  S_CellchainsError_ValueError : PySem.W.kitOne K (.ref C_CellchainsError) (.type "ValueError") = some true
  S_BadText_CellchainsError : PySem.W.kitOne K (.ref C_BadText) (.ref C_CellchainsError) = some true
  S_BadText_ValueError : PySem.W.kitOne K (.ref C_BadText) (.type "ValueError") = some true
  V_read_integer : mg "read_integer" = some (.ref v_read_integer)
  V_read_data : mg "read_data" = some (.ref v_read_data)
end K33

set_option maxHeartbeats 4000000
namespace K33
open PySem PySem.Spec PyProof.Rows L2 PL
variable {P : Program} {w : World} {K : PySem.W.Frag} {mg : Str → Option Value} {base : Heap} {C_CellchainsError C_BadText v_read_integer v_read_data : Addr}
local macro_rules | `(tactic| simp! [$ls,*]) => `(tactic| simp only [to_nx, to_rt, to_bk, to_ct, to_ex, lp_nx, lp_rt, lp_bk, lp_ct, lp_ex, ret_nx, ret_rt, ret_ex, s_exK, s_bif1, s_bif0, s_optB, s_optE, s_nxD, s_ifK, s_asgN, s_asgT, s_asgL, b_nil, b_nm, b_tp, s_next, s_seq, s_drop, s_ret, s_retN, s_ifS, s_asg, s_brk, s_cont, s_put, s_put1, s_put2, s_put3, s_aug, s_augV, s_augK, s_augK2, s_bin, s_bin1, s_bin2, s_var, s_varK, s_C, s_cb, s_cbK, s_call, s_callK, s_m, s_m1, s_m2, s_nil, s_cons, s_cons1, s_cons2, s_tup, s_tupK, s_lst, s_lstK, s_truth, s_trK, s_tK, s_eK, s_cK, s_and, s_andK, s_or, s_orK, s_not, s_notK, s_ife, s_ifeK, s_andV, s_orV, s_andvK, s_orvK, s_andvK2, s_orvK2, s_notV, s_notvK, s_blK, s_neg, s_negK, s_sl, s_sl1, s_sl2, s_sl3, s_noPart, s_part, s_partK, s_rev, s_revK, s_for, s_forK, s_lc, s_lcK, s_yes, s_walk, s_walkT, s_walkS, s_walkA, s_walkL, s_walkR, s_rng1, s_rng2, s_rng1K, s_rng2K, s_callL, s_callLK, s_callLO, s_clK, s_raise, r_val, r_new, r_put, s_whK, s_lcY, s_lcT, s_lcE, s_cg, s_cgK, s_rng3, s_rng3K, s_lcB, s_lcS, wipeD, Pat.bind, seqOf, rg, s_dict0, s_sortSet, s_sortSetK, q_is_tuple, q_is_str, q_is_int, q_is_bool, q_is_list, q_isR, ofS_inj, String.reduceEq, q_eqI, q_neI, q_eqS, q_neS, decide_true, decide_false, Int.reduceEq, reduceCtorEq, i_NoneType_tuple, i_NoneType_str, i_NoneType_int, i_NoneType_bool, i_NoneType_list, i_bool_tuple, i_bool_str, i_bool_int, i_bool_bool, i_bool_list, i_int_tuple, i_int_str, i_int_int, i_int_bool, i_int_list, i_str_tuple, i_str_str, i_str_int, i_str_bool, i_str_list, i_tuple_tuple, i_tuple_str, i_tuple_int, i_tuple_bool, i_tuple_list, i_list_tuple, i_list_str, i_list_int, i_list_bool, i_list_list, i_dict_tuple, i_dict_str, i_dict_int, i_dict_bool, i_dict_list, tyN, startD, mupd_same, mupd_ne, ne_eq, not_false_eq_true, List.map_cons, List.map_nil, List.length_cons, List.length_nil, List.replicate_succ, List.replicate_zero, Nat.zero_add, Nat.reduceAdd, Nat.reduceSub, Int.cast_ofNat_Int, List.cons_append, List.nil_append, List.getElem?_cons_zero, List.getElem?_cons_succ, List.set_cons_zero, List.set_cons_succ, opIx, atI_cons, ixN, opPut, opAdd, opSub, opMul, opFdiv, opMod, opPow, opLt, opLe, opGt, opGe, opIs, opIsNot, D.isNon, truth, bLen, bAbs, bInt, bTuple, bList, isTy, mAppend, mExtend, mPop, Int.reduceLE, Int.reduceLT, Int.reduceToNat, Int.reduceNeg, Int.reduceNe, Option.bind_some, if_true, if_false, ite_true, ite_false, true_and, and_true, Bool.not_true, Bool.not_false, opIadd, Nat.reduceLT, Nat.reduceLeDiff, Int.ofNat_lt, $ls,*])
theorem fn_start (S : Src K mg "_law_start" s__law_start ["script"]) (G : GF K mg C_CellchainsError C_BadText v_read_integer v_read_data) : Fn P w K mg base 1 "_law_start" (sp_start K) [] := by
  refine S.fn mono_start fun f fd F => fn_ok F sc__law_start (fun ds M Q E h => by obtain ⟨a, m, rfl, _⟩ := h; rfl) ⟨_, fun cdv A outer s H E hr => have hu := hr.u200
    (xss_one (xs_ret (xe_lst (n := 4) (xa_cons (xe_callTyG bListS_mono c_listS (by rfl) G.list (by decide +kernel) (xa_cons (xe_var 0) xa_nil)) (xa_cons xe_int (xa_cons xe_int (xa_cons xe_int xa_nil))))))), fun ds M Q E h => ?_⟩
  obtain ⟨a, ns, rfl, hs, h⟩ := h
  simp! []
  refine ⟨a, ns, rfl, hs, fun p hp => ?_⟩
  simp! []
  intro q hq
  have hqp : q ≠ p := (mupd_none ▸ hq : _ ∧ _).1
  have hq' : M q = none := (mupd_none ▸ hq : _ ∧ _).2
  exact h _ _ _ hq' hp ⟨0, 0, 0, ns, by simp only [mupd_same], by rw [mupd_ne (Ne.symm hqp), mupd_same], by decide, by decide, Ne.symm hqp⟩ ((Keep.new hp).trans (Keep.new hq))
theorem fn_draw (S : Src K mg "_law_draw" s__law_draw ["state", "most"]) (G : GF K mg C_CellchainsError C_BadText v_read_integer v_read_data) : Fn P w K mg base 1 "_law_draw" sp_draw [] := by
  refine S.fn mono_draw fun f fd F => fn_ok F sc__law_draw (fun ds M Q E h => by obtain ⟨a, b, m, rfl, _⟩ := h; rfl) ⟨_, fun cdv A outer s H E hr => have hu := hr.u200
    (xss_cons (xs_put hu (xe_bin x_add (xe_ix hu (xe_var 0) xe_int) xe_int) (xe_var 0) xe_int)
 (xss_cons (xs_if (xt_cmp x_gt (xe_ix hu (xe_var 0) xe_int) xe_int (nomark _) bl_gt)
 (xss_cons (xs_set 2 sc__law_draw.nd (xe_bin x_mod (xe_callTy c_int (by rfl) G.int (by decide +kernel) (xa_cons (xe_ix hu (xe_var 0) xe_int) xa_nil)) (xe_var 1)))
 (xss_cons (xs_put hu (xe_bin x_fdiv (xe_ix hu (xe_var 0) xe_int) (xe_var 1)) (xe_var 0) xe_int)
 (xss_one (xs_ret (xe_var 2)))))
 xss_nil)
 (xss_cons (xs_set 3 sc__law_draw.nd xe_int)
 (xss_cons (xs_if (xt_cmp x_gt (xe_callB c_len (by rfl) G.len (by decide +kernel) (xa_cons (xe_ix hu (xe_var 0) xe_int) xa_nil)) xe_int (nomark _) bl_gt)
 (xss_one (xs_set 3 sc__law_draw.nd (xe_callB c_abs (by rfl) G.abs (by decide +kernel) (xa_cons (xe_ix hu (xe_ix hu (xe_var 0) xe_int) (xe_bin x_mod (xe_callTy c_int (by rfl) G.int (by decide +kernel) (xa_cons (xe_ix hu (xe_var 0) xe_int) xa_nil)) (xe_callB c_len (by rfl) G.len (by decide +kernel) (xa_cons (xe_ix hu (xe_var 0) xe_int) xa_nil)))) xa_nil))))
 xss_nil)
 (xss_cons (xs_put hu (xe_bin x_add (xe_ix hu (xe_var 0) xe_int) xe_int) (xe_var 0) xe_int)
 (xss_cons (xs_if (xt_cmp x_ge (xe_var 3) (xe_bin x_pow xe_int xe_int) (nomark _) bl_ge)
 (xss_cons (xs_put hu (xe_bin x_fdiv (xe_var 3) (xe_var 1)) (xe_var 0) xe_int)
 (xss_one (xs_ret (xe_bin x_mod (xe_callTy c_int (by rfl) G.int (by decide +kernel) (xa_cons (xe_var 3) xa_nil)) (xe_var 1)))))
 xss_nil)
 (xss_cons (xs_set 4 sc__law_draw.nd (xe_bin x_mod (xe_callTy c_int (by rfl) G.int (by decide +kernel) (xa_cons (xe_bin x_add (xe_bin x_mul (xe_bin x_add (xe_var 3) xe_int) xe_int) (xe_bin x_mul (xe_ix hu (xe_var 0) xe_int) xe_int)) xa_nil)) xe_int))
 (xss_cons (xs_set 4 sc__law_draw.nd (xe_bin x_mod (xe_callTy c_int (by rfl) G.int (by decide +kernel) (xa_cons (xe_bin x_add (xe_bin x_add (xe_bin x_mul (xe_var 4) xe_int) (xe_bin x_fdiv (xe_var 3) xe_int)) (xe_ix hu (xe_var 0) xe_int)) xa_nil)) xe_int))
 (xss_one (xs_ret (xe_bin x_mod (xe_bin x_fdiv (xe_var 4) xe_int) (xe_var 1)))))))))))), fun ds M Q E h => ?_⟩
  obtain ⟨a, b, m, rfl, ⟨p, q, c, ns, ha, hb, hp, hq, hne⟩, h0, h1, h⟩ := h
  have fin : ∀ (r : Int) (M' : Mem) (p q : Int), 0 ≤ r → r < m → 0 ≤ p → 0 ≤ q → M' a = some (.lst [.ob b, .int p, .int q, .int (c + 1)]) → (∀ b, b ≠ a → M' b = M b) → Q (.int r) M' := fun r M' p q r0 r1 p0 q0 e k =>
    h r M' r0 r1 ⟨p, q, c + 1, ns, e, by rw [k b hne]; exact hb, p0, q0, hne⟩ fun b' o e' n => by rw [k b' (by simpa using n)]; exact e'
  simp! [ha]
  refine bif_dec (fun hq0 => ?_) fun hq0 => ?_
  · simp! [ha, h0, h1]
    exact fin _ _ p (q / m) (Int.emod_nonneg _ (by omega)) (Int.emod_lt_of_pos _ h0) hp (Int.ediv_nonneg hq (by omega)) (by simp only [mupd_same]) fun b' hb' => by simp only [mupd_ne hb']
  · simp! [ha, hb, mupd_ne hne]
    refine bif_midD (fun e M' => ∃ cell : Int, e = [some (D.ob a), some (D.int m), none, some (D.int cell), none] ∧ M' = mupd M a (.lst [.ob b, .int p, .int q, .int (c + 1)]) ∧ 0 ≤ cell) (fun hl N hN => ?_) (fun hl N hN => ?_) ?_
    · rw [List.length_map] at hl
      simp! [ha, hb, mupd_ne hne, List.length_map]
      refine ⟨hl, ?_⟩
      have h2 := Int.emod_nonneg p (b := (ns.length : Int)) (by omega)
      have h3 := Int.emod_lt_of_pos p (b := (ns.length : Int)) hl
      have hx : atI (ns.map D.int) (p % (ns.length : Int)) = some (D.int (ns[(p % (ns.length : Int)).toNat]'(by omega))) := by rw [atI_map', atI_get h2 h3]; rfl
      simp! [hx]
      exact hN _ _ ⟨_, rfl, rfl, by split <;> omega⟩
    · simp! []
      exact hN _ _ ⟨_, rfl, rfl, by omega⟩
    · rintro e M' ⟨cell, rfl, rfl, hc⟩
      simp! [ha, hb, mupd_ne hne]
      refine ⟨by decide, bif_dec (fun hl => ?_) fun hl => ?_⟩
      · simp! [ha, h0, h1]
        exact fin _ _ (p + 1) (cell / m) (Int.emod_nonneg _ (by omega)) (Int.emod_lt_of_pos _ h0) (by omega) (Int.ediv_nonneg hc (by omega)) (by simp only [mupd_same]) fun b' hb' => by simp only [mupd_ne hb']
      · simp! [ha, h0]
        exact ⟨IntMulOk.of_right (intBits_le_64 (by decide) (by decide)), IntMulOk.of_right (intBits_le_64 (by decide) (by decide)), IntMulOk.of_right (intBits_le_64 (by decide) (by decide)),
          fin _ _ (p + 1) q (Int.emod_nonneg _ (by omega)) (Int.emod_lt_of_pos _ h0) (by omega) hq (by simp only [mupd_same]) fun b' hb' => by simp only [mupd_ne hb']⟩
theorem fn_one_of (S : Src K mg "_law_one_of" s__law_one_of ["state", "items"]) (G : GF K mg C_CellchainsError C_BadText v_read_integer v_read_data) (F__law_draw : Fn P w K mg base 1 "_law_draw" sp_draw []) : Fn P w K mg base 2 "_law_one_of" sp_one_of [] := by
  refine S.fn mono_one_of fun f fd F => fn_ok F sc__law_one_of (fun ds M Q E h => by obtain ⟨a, b, m, es, rfl, _⟩ := h; rfl) ⟨_, fun cdv A outer s H E hr => have hu := hr.u200
    (xss_one (xs_ret (xe_ix hu (xe_var 1) (xe_call F__law_draw (hr.mono (by first | decide | omega)) bx_takes (by rfl) (xa_cons (xe_var 0) (xa_cons (xe_callB c_len (by rfl) G.len (by decide +kernel) (xa_cons (xe_var 1) xa_nil)) xa_nil)))))), fun ds M Q E h => ?_⟩
  obtain ⟨a, b, d, es, rfl, hs, hd, hn, h0, h1, h⟩ := h
  have hz : es.length ≤ sizeLine := by rw [sizeLine_eq]; omega
  have hp := List.length_pos_iff.mpr h0
  simp! []
  refine len_seqI hd hz ?_
  simp! []
  refine ⟨a, b, _, rfl, hs, by omega, by omega, fun r M' r0 r1 hs' k => ?_⟩
  simp! []
  obtain ⟨x, hx, hm⟩ := atI_some (xs := es) r0 r1
  exact ix_seqI (seqI_keep hd k hn) hz hx (h x M' hm hs' k)
theorem fn_is_int (S : Src K mg "_law_is_int" s__law_is_int ["x"]) (G : GF K mg C_CellchainsError C_BadText v_read_integer v_read_data) : Fn P w K mg base 1 "_law_is_int" sp_is_int [] := by
  refine S.fn mono_is_int fun f fd F => fn_ok F sc__law_is_int (fun ds M Q E h => by obtain ⟨a, rfl, _⟩ := h; rfl) ⟨_, fun cdv A outer s H E hr => have hu := hr.u200
    (xss_one (xs_ret (xe_and (xe_callB c_isi (by rfl) G.isinstance (by decide +kernel) (xa_cons (xe_var 0) (xa_cons (xe_bltn (v := .ty "int") (by rfl) G.int (by decide +kernel) rfl) xa_nil))) (xe_one (xe_not (xe_callB c_isi (by rfl) G.isinstance (by decide +kernel) (xa_cons (xe_var 0) (xa_cons (xe_bltn (v := .ty "bool") (by rfl) G.bool (by decide +kernel) rfl) xa_nil)))))))), fun ds M Q E h => ?_⟩
  obtain ⟨i, rfl, h⟩ := h
  simp! []
  exact h
end K33

namespace K33
open PySem PySem.Spec PyProof.Rows L2 PL SX
open TL (numL tl)
/-! ### numbers as texts -/
abbrev dval (l : List Nat) : Nat := NumText.digitsVal l
theorem dval_app (a b : List Nat) : dval (a ++ b) = dval a * 10 ^ b.length + dval b := by
  have go : ∀ (b : List Nat) (n : Nat), b.foldl (fun acc c => acc * 10 + (c - 48)) n = n * 10 ^ b.length + b.foldl (fun acc c => acc * 10 + (c - 48)) 0 := by
    intro b
    induction b with
    | nil => intro n; simp
    | cons c r ih =>
      intro n
      simp only [List.foldl_cons, List.length_cons]
      rw [ih, ih (0 * 10 + (c - 48))]
      rw [Nat.pow_succ, Nat.add_mul, Nat.zero_mul, Nat.zero_add, Nat.mul_assoc, Nat.mul_comm 10, Nat.add_assoc]
  show (a ++ b).foldl _ 0 = _
  rw [List.foldl_append, go b]
  rfl
theorem dval_one (c : Nat) : dval [c] = c - 48 := by simp [dval, NumText.digitsVal]
abbrev isD (c : Nat) : Bool := decide (48 ≤ c) && decide (c ≤ 57)
/-- canonical digits -/
structure Can (l : List Nat) : Prop where
  dig : l.all isD = true
  ne : l ≠ []
  hd : l.head? = some 48 → l = [48]
theorem dval_pos : ∀ {l : List Nat}, l.all isD = true → l ≠ [] → l.head? ≠ some 48 → 0 < dval l := by
  intro l h ne hd
  cases l with
  | nil => exact absurd rfl ne
  | cons c r =>
    have e := dval_app [c] r
    rw [List.singleton_append, dval_one] at e
    simp only [List.all_cons, Bool.and_eq_true, decide_eq_true_eq] at h
    have : c ≠ 48 := fun z => hd (by rw [z]; rfl)
    have : 0 < 10 ^ r.length := Nat.pow_pos (by decide)
    have h2 : 1 * 10 ^ r.length ≤ (c - 48) * 10 ^ r.length := Nat.mul_le_mul_right _ (by omega)
    omega
theorem can_num (l : List Nat) (h : Can l) : numL (dval l) = l := by
  obtain ⟨dig, ne, hd⟩ := h
  have go : ∀ (k : Nat) (l : List Nat), l.length = k → l.all isD = true → l ≠ [] → (l.head? = some 48 → l = [48]) → numL (dval l) = l := by
    intro k
    induction k with
    | zero => intro l hl _ ne; exact absurd (List.eq_nil_of_length_eq_zero hl) ne
    | succ k ih =>
      intro l hl dig ne hd
      obtain ⟨p, c, rfl⟩ : ∃ p c, l = p ++ [c] := ⟨l.dropLast, l.getLast ne, (List.dropLast_concat_getLast ne).symm⟩
      simp only [List.all_append, List.all_cons, List.all_nil, Bool.and_true, Bool.and_eq_true, decide_eq_true_eq] at dig
      rw [dval_app, dval_one, List.length_singleton, Nat.pow_one]
      cases p with
      | nil =>
        have : dval [] = 0 := rfl
        rw [this, Nat.zero_mul, Nat.zero_add, TL.numL_lt (by omega)]
        simp
        omega
      | cons a p =>
        have hd2 : (a :: p).head? ≠ some 48 := fun z => by
          have := hd (by rw [List.head?_append]; rw [z]; rfl)
          simp at this
        have pos := dval_pos (l := a :: p) (by simpa using dig.1) (by simp) hd2
        have ih2 := ih (a :: p) (by simp at hl ⊢; omega) (by simpa using dig.1) (by simp) (fun z => absurd z hd2)
        rw [TL.numL_step (by omega)]
        rw [show (dval (a :: p) * 10 + (c - 48)) / 10 = dval (a :: p) by omega, show (dval (a :: p) * 10 + (c - 48)) % 10 = c - 48 by omega, ih2]
        congr 2
        omega
  exact go _ l rfl dig ne hd
theorem num_can (n : Nat) : Can (numL n) := by
  refine ⟨?_, TL.numL_ne n, ?_⟩
  · rw [List.all_eq_true]
    intro c hc
    have := TL.numL_digits n c hc
    simp; omega
  · induction n using Nat.strongRecOn with
    | ind n ih =>
      by_cases h : n < 10
      · rw [TL.numL_lt h]
        intro z
        simp at z
        simp; omega
      · intro z
        rw [TL.numL_step (by omega), List.head?_append] at z
        have ne := TL.numL_ne (n / 10)
        cases e : numL (n / 10) with
        | nil => exact absurd e ne
        | cons a r =>
          rw [e] at z
          have z : a = 48 := by simpa using z
          have := ih (n / 10) (by omega) (by rw [e, z]; rfl)
          have v := TL.numL_val (n / 10)
          rw [this] at v
          have : dval [48] = 0 := by rw [dval_one]
          have : n / 10 = 0 := by rw [← v]; exact this
          omega
/-- k digits -/
def padL : Nat → Nat → List Nat
  | 0, _ => []
  | k + 1, r => padL k (r / 10) ++ [48 + r % 10]
theorem padL_len : ∀ k r, (padL k r).length = k
  | 0, _ => rfl
  | k + 1, r => by simp [padL, padL_len k]
theorem num_split : ∀ (k q r : Nat), 0 < q → r < 10 ^ k → numL (q * 10 ^ k + r) = numL q ++ padL k r
  | 0, q, r, _, hr => by
    have : r = 0 := by simpa using hr
    subst this
    simp [padL]
  | k + 1, q, r, hq, hr => by
    rw [Nat.pow_succ] at hr ⊢
    have h1 : 0 < q * 10 ^ k := Nat.mul_pos hq (Nat.pow_pos (by decide))
    have e : q * (10 ^ k * 10) = (q * 10 ^ k) * 10 := by rw [Nat.mul_assoc]
    rw [e]
    rw [TL.numL_step (by omega), show ((q * 10 ^ k) * 10 + r) / 10 = q * 10 ^ k + r / 10 by omega, show ((q * 10 ^ k) * 10 + r) % 10 = r % 10 by omega, num_split k q (r / 10) hq (by omega), padL, List.append_assoc]
theorem pad_num : ∀ (k r : Nat), r < 10 ^ k → 0 < k → padL k r = List.replicate (k - (numL r).length) 48 ++ numL r
  | 0, _, _, h => absurd h (Nat.lt_irrefl 0)
  | k + 1, r, hr, _ => by
    by_cases h : r < 10
    · rw [padL, TL.numL_lt h]
      have z : ∀ k, padL k 0 = List.replicate k 48 := by
        intro k
        induction k with
        | zero => rfl
        | succ k ih => rw [padL, show 0 / 10 = 0 from rfl, ih, List.replicate_succ']
      rw [show r / 10 = 0 by omega, z, show r % 10 = r by omega]
      simp
    · have k0 : 0 < k := by
        cases k with
        | zero => simp at hr; omega
        | succ k => omega
      rw [padL, TL.numL_step (by omega), pad_num k (r / 10) (by rw [Nat.pow_succ] at hr; omega) k0, List.append_assoc, List.length_append, List.length_singleton]
      congr 2
      omega
/-! ### whole numbers -/
def W (n : Int) : List Nat := if n < 0 then 45 :: numL (-n).toNat else numL n.toNat
def readI (l : List Nat) : Option Int :=
  let ds := if l.take 1 = [45] then l.drop 1 else l
  if ds = [] ∨ (ds.head? = some 48 ∧ l ≠ [48]) ∨ ds.all isD = false then none
  else some (if l.take 1 = [45] then -(dval ds : Int) else dval ds)
theorem readI_W (n : Int) : readI (W n) = some n := by
  unfold W
  split
  · rename_i h
    have c := num_can (-n).toNat
    unfold readI
    simp only [List.take_succ_cons, List.take_zero, if_true, List.drop_succ_cons, List.drop_zero]
    rw [if_neg]
    · have : dval (numL (-n).toNat) = (-n).toNat := TL.numL_val _
      rw [this]
      congr 1
      omega
    · rintro (z | ⟨z, _⟩ | z)
      · exact c.ne z
      · have v := TL.numL_val (-n).toNat
        rw [c.hd z] at v
        have : dval [48] = 0 := dval_one 48
        have : (-n).toNat = 0 := by rw [← v]; exact this
        omega
      · rw [c.dig] at z; cases z
  · rename_i h
    have c := num_can n.toNat
    have nm : (numL n.toNat).take 1 ≠ [45] := fun z => by
      cases e : numL n.toNat with
      | nil => exact c.ne e
      | cons a r =>
        rw [e] at z
        have z : a = 45 := by simpa using z
        have d := c.dig
        rw [e, z] at d
        simp at d
    unfold readI
    simp only [nm, if_false]
    rw [if_neg]
    · have : dval (numL n.toNat) = n.toNat := TL.numL_val _
      rw [this]
      congr 1
      omega
    · rintro (z | ⟨z, y⟩ | z)
      · exact c.ne z
      · exact y (c.hd z)
      · rw [c.dig] at z; cases z
end K33

namespace K33
open PySem PySem.Spec PyProof.Rows L2 PL SX
open TL (numL tl joinL)
/-! ### data as texts -/
mutual
def wr : D → List Nat
  | .v (.int n) => W n
  | .v (.str x) => 39 :: (tl x ++ [39])
  | .v _ => []
  | .tup ds => 40 :: (joinL [44, 32] (wrL ds) ++ [41])
def wrL : List D → List (List Nat)
  | [] => []
  | d :: r => wr d :: wrL r
end
abbrev plainc (c : Nat) : Bool := decide (32 ≤ c) && decide (c ≤ 126) && decide (c ≠ 39) && decide (c ≠ 37)
mutual
def good : D → Bool
  | .v (.int _) => true
  | .v (.str x) => (tl x).all plainc
  | .v _ => false
  | .tup ds => goodL ds
def goodL : List D → Bool
  | [] => true
  | d :: r => good d && goodL r
end
abbrev sg (c : Nat) : Bool := decide (c = 45) || isD c
def plain : List Nat → Option (D × List Nat)
  | [] => none
  | c :: r => if c = 39 then
      (if 39 ∈ r ∧ (r.takeWhile fun x => decide (x ≠ 39)).all plainc = true then some (.str (S (r.takeWhile fun x => decide (x ≠ 39))), (r.dropWhile fun x => decide (x ≠ 39)).drop 1) else none)
    else match readI ((c :: r).takeWhile sg) with
      | some v => some (.int v, (c :: r).dropWhile sg)
      | none => none
def popS : List (List D) → Option (List (List D))
  | a :: b :: t => some ((b ++ [.tup a]) :: t)
  | _ => none
def pushS (d : D) : List (List D) → Option (List (List D))
  | a :: t => some ((a ++ [d]) :: t)
  | [] => none
def oneS : List (List D) → Option D
  | [[d]] => some d
  | _ => none
def rd : Nat → List (List D) → Bool → Bool → List Nat → Option D
  | 0, _, _, _, _ => none
  | n + 1, stk, fresh, po, [] => oneS stk
  | n + 1, stk, fresh, po, c :: r =>
    if fresh = true ∧ c = 40 ∧ stk.length ≤ 100 then rd n ([] :: stk) fresh true r
    else if c = 41 ∧ 1 < stk.length ∧ (fresh = false ∨ po = true) then (popS stk).bind fun s => rd n s false false r
    else if fresh = false ∧ 1 < stk.length ∧ (c :: r).take 2 = [44, 32] then rd n stk true false (r.drop 1)
    else if fresh = true ∧ c ≠ 40 then (plain (c :: r)).bind fun x => (pushS x.1 stk).bind fun s => rd n s false false x.2
    else none
theorem takeWhile_app {p : Nat → Bool} : ∀ (a b : List Nat), a.all p = true → (∀ c r, b = c :: r → p c = false) → (a ++ b).takeWhile p = a ∧ (a ++ b).dropWhile p = b
  | [], b, _, h => by
    cases b with
    | nil => exact ⟨rfl, rfl⟩
    | cons c r => have := h c r rfl; simp [List.takeWhile, List.dropWhile, this]
  | x :: a, b, ha, h => by
    simp only [List.all_cons, Bool.and_eq_true] at ha
    obtain ⟨h1, h2⟩ := takeWhile_app a b ha.2 h
    simp only [List.cons_append, List.takeWhile, List.dropWhile, ha.1, h1, h2, and_self]
theorem W_sg (n : Int) : (W n).all sg = true := by
  unfold W
  have go : ∀ m, (numL m).all sg = true := fun m => by
    have c := (num_can m).dig
    rw [List.all_eq_true] at c ⊢
    intro x hx
    simp only [sg, c x hx, Bool.or_true]
  split
  · simp only [List.all_cons, go, Bool.and_true]; rfl
  · exact go _
theorem W_ne (n : Int) : W n ≠ [] := by
  unfold W
  split
  · simp
  · exact TL.numL_ne _
theorem plain_W {n : Int} {rest : List Nat} (h : ∀ c r, rest = c :: r → sg c = false) : plain (W n ++ rest) = some (.int n, rest) := by
  have h1 := takeWhile_app (W n) rest (W_sg n) h
  cases e : W n with
  | nil => exact absurd e (W_ne n)
  | cons c r =>
    have hc := W_sg n
    rw [e] at hc h1
    simp only [List.all_cons, Bool.and_eq_true] at hc
    have c39 : c ≠ 39 := fun z => by rw [z] at hc; exact absurd hc.1 (by decide)
    show plain (c :: (r ++ rest)) = _
    rw [plain, if_neg c39]
    rw [show (c :: (r ++ rest)) = (c :: r) ++ rest from rfl, h1.1, h1.2, ← e, readI_W]
theorem plain_str {x : Str} {rest : List Nat} (h : (tl x).all plainc = true) : plain (39 :: (tl x ++ [39]) ++ rest) = some (.str x, rest) := by
  have hx : (tl x).all (fun c => decide (c ≠ 39)) = true := by
    rw [List.all_eq_true] at h ⊢
    intro c hc
    have := h c hc
    simp only [plainc, Bool.and_eq_true] at this
    exact this.1.2
  have h1 := takeWhile_app (p := fun c => decide (c ≠ 39)) (tl x) (39 :: rest) hx (fun c r e => by cases e; rfl)
  show plain (39 :: (tl x ++ [39] ++ rest)) = _
  rw [plain, if_pos rfl, List.append_assoc, List.singleton_append, h1.1, h1.2, if_pos ⟨by simp, h⟩]
  rw [SX.S_tl]
  rfl
theorem W_head {n : Int} : ∃ c r, W n = c :: r ∧ c ≠ 40 ∧ c ≠ 41 := by
  cases e : W n with
  | nil => exact absurd e (W_ne n)
  | cons c r =>
    have hc := W_sg n
    rw [e] at hc
    simp only [List.all_cons, Bool.and_eq_true] at hc
    exact ⟨c, r, rfl, fun z => by rw [z] at hc; exact absurd hc.1 (by decide), fun z => by rw [z] at hc; exact absurd hc.1 (by decide)⟩
/-- a leaf -/
theorem rd_leaf {n : Nat} {a : List D} {t : List (List D)} {po : Bool} {c : Nat} {r rest : List Nat} {d : D} (h : plain (c :: r) = some (d, rest)) (h1 : c ≠ 40) (h2 : c ≠ 41) : rd (n + 1) (a :: t) true po (c :: r) = rd n ((a ++ [d]) :: t) false false rest := by
  conv => lhs; rw [rd]
  rw [if_neg (fun z => h1 z.2.1), if_neg (fun z => h2 z.1), if_neg (fun z => by cases z.1), if_pos ⟨rfl, h1⟩, h]
  rfl
mutual
theorem rd_wr : ∀ (d : D) (a : List D) (t : List (List D)) (po : Bool) (rest : List Nat) (n : Nat), good d = true → d.dp + t.length ≤ 100 → (∀ c r, rest = c :: r → sg c = false) → (wr d).length + rest.length + 1 ≤ n →
    ∃ m, rest.length + 1 ≤ m ∧ rd n (a :: t) true po (wr d ++ rest) = rd m ((a ++ [d]) :: t) false false rest
  | .v (.int i), a, t, po, rest, n, _, _, hs, hn => by
    obtain ⟨c, r, e, h1, h2⟩ := W_head (n := i)
    have hp := plain_W (n := i) hs
    simp only [wr] at hn ⊢
    rw [e] at hp hn ⊢
    simp only [List.length_cons] at hn
    obtain ⟨n, rfl⟩ : ∃ m, n = m + 1 := ⟨n - 1, by omega⟩
    exact ⟨n, by omega, rd_leaf hp h1 h2⟩
  | .v (.str x), a, t, po, rest, n, hg, _, hs, hn => by
    have hp := plain_str (x := x) (rest := rest) (by simpa [good] using hg)
    simp only [wr, List.length_cons, List.length_append, List.length_nil] at hn ⊢
    obtain ⟨n, rfl⟩ : ∃ m, n = m + 1 := ⟨n - 1, by omega⟩
    exact ⟨n, by omega, rd_leaf (c := 39) (r := tl x ++ [39] ++ rest) (show plain (39 :: (tl x ++ [39] ++ rest)) = _ from hp) (by decide) (by decide)⟩
  | .v .non, a, t, po, rest, n, hg, _, hs, hn => by simp [good] at hg
  | .v (.bl _), a, t, po, rest, n, hg, _, hs, hn => by simp [good] at hg
  | .v (.byt _), a, t, po, rest, n, hg, _, hs, hn => by simp [good] at hg
  | .v (.flt _), a, t, po, rest, n, hg, _, hs, hn => by simp [good] at hg
  | .v (.ref _), a, t, po, rest, n, hg, _, hs, hn => by simp [good] at hg
  | .v (.ty _), a, t, po, rest, n, hg, _, hs, hn => by simp [good] at hg
  | .tup ds, a, t, po, rest, n, hg, hd, hs, hn => by
    simp only [good] at hg
    simp only [D.dp] at hd
    simp only [wr, List.length_cons, List.length_append, List.length_nil] at hn ⊢
    obtain ⟨n, rfl⟩ : ∃ m, n = m + 1 := ⟨n - 1, by omega⟩
    have e1 : rd (n + 1) (a :: t) true po (40 :: (joinL [44, 32] (wrL ds) ++ [41]) ++ rest) = rd n ([] :: a :: t) true true (joinL [44, 32] (wrL ds) ++ 41 :: rest) := by
      show rd (n + 1) (a :: t) true po (40 :: (joinL [44, 32] (wrL ds) ++ [41] ++ rest)) = _
      conv => lhs; rw [rd]
      rw [if_pos ⟨rfl, rfl, by simp only [List.length_cons]; omega⟩, List.append_assoc]
      rfl
    rw [e1]
    have pop : ∀ (m : Nat) (fr : Bool) (po2 : Bool), (fr = false ∨ po2 = true) → rd (m + 1) (ds :: a :: t) fr po2 (41 :: rest) = rd m ((a ++ [.tup ds]) :: t) false false rest := fun m fr po2 hf => by
      conv => lhs; rw [rd]
      rw [if_neg (fun z => by cases z.2.1), if_pos ⟨rfl, by simp, hf⟩]
      rfl
    cases ds with
    | nil =>
      simp only [wrL, joinL, List.nil_append] at hn ⊢
      simp only [List.length_nil] at hn
      obtain ⟨n, rfl⟩ : ∃ m, n = m + 1 := ⟨n - 1, by omega⟩
      exact ⟨n, by omega, pop n true true (.inr rfl)⟩
    | cons d r =>
      obtain ⟨m, hm, e2⟩ := rd_wrL (d :: r) (by simp) [] (a :: t) true rest n hg (by simp only [List.length_cons]; omega) (by simp) (by omega)
      rw [e2]
      obtain ⟨m, rfl⟩ : ∃ k, m = k + 1 := ⟨m - 1, by omega⟩
      exact ⟨m, by omega, by rw [List.nil_append]; exact pop m false false (.inl rfl)⟩
theorem rd_wrL : ∀ (ds : List D), ds ≠ [] → ∀ (a : List D) (t : List (List D)) (po : Bool) (rest : List Nat) (n : Nat), goodL ds = true → dpL ds + t.length ≤ 100 → t ≠ [] → (joinL [44, 32] (wrL ds)).length + rest.length + 2 ≤ n →
    ∃ m, rest.length + 2 ≤ m ∧ rd n (a :: t) true po (joinL [44, 32] (wrL ds) ++ 41 :: rest) = rd m ((a ++ ds) :: t) false false (41 :: rest)
  | [], ne, _, _, _, _, _, _, _, _, _ => absurd rfl ne
  | [d], _, a, t, po, rest, n, hg, hd, ht, hn => by
    simp only [goodL, Bool.and_true] at hg
    simp only [dpL] at hd
    simp only [wrL, joinL] at hn ⊢
    obtain ⟨m, hm, e⟩ := rd_wr d a t po (41 :: rest) n hg (by omega) (fun c r e => by cases e; decide) (by simp only [List.length_cons]; omega)
    simp only [List.length_cons] at hm
    exact ⟨m, by omega, e⟩
  | d :: e :: r, _, a, t, po, rest, n, hg, hd, ht, hn => by
    have hg2 : good d = true ∧ goodL (e :: r) = true := by simpa only [goodL, Bool.and_eq_true] using hg
    have hd2 : d.dp + t.length ≤ 100 ∧ dpL (e :: r) + t.length ≤ 100 := by
      have : dpL (d :: e :: r) = max d.dp (dpL (e :: r)) := rfl
      omega
    have ej : joinL [44, 32] (wrL (d :: e :: r)) = wr d ++ ([44, 32] ++ joinL [44, 32] (wrL (e :: r))) := rfl
    rw [ej] at hn ⊢
    simp only [List.length_append, List.length_cons, List.length_nil] at hn
    obtain ⟨m, hm, e1⟩ := rd_wr d a t po (44 :: 32 :: (joinL [44, 32] (wrL (e :: r)) ++ 41 :: rest)) n hg2.1 hd2.1 (fun c r e => by cases e; decide) (by simp only [List.length_cons, List.length_append]; omega)
    simp only [List.length_cons, List.length_append] at hm
    have e0 : wr d ++ ([44, 32] ++ joinL [44, 32] (wrL (e :: r))) ++ 41 :: rest = wr d ++ 44 :: 32 :: (joinL [44, 32] (wrL (e :: r)) ++ 41 :: rest) := by simp
    rw [e0, e1]
    obtain ⟨m, rfl⟩ : ∃ k, m = k + 1 := ⟨m - 1, by omega⟩
    have tl : 0 < t.length := List.length_pos_iff.mpr ht
    have e2 : rd (m + 1) ((a ++ [d]) :: t) false false (44 :: 32 :: (joinL [44, 32] (wrL (e :: r)) ++ 41 :: rest)) = rd m ((a ++ [d]) :: t) true false (joinL [44, 32] (wrL (e :: r)) ++ 41 :: rest) := by
      conv => lhs; rw [rd]
      rw [if_neg (fun z => by cases z.1), if_neg (fun z => by cases z.1), if_pos ⟨rfl, by simp only [List.length_cons]; omega, rfl⟩]
      rfl
    rw [e2]
    obtain ⟨m2, hm2, e3⟩ := rd_wrL (e :: r) (by simp) (a ++ [d]) t false rest m hg2.2 hd2.2 ht (by omega)
    exact ⟨m2, hm2, by rw [e3]; simp⟩
end
/-! ### what is refused -/
theorem plain_eats {c : Nat} {r r' : List Nat} {d : D} (h : plain (c :: r) = some (d, r')) : 10 ∉ r' → 10 ∉ c :: r := by
  rw [plain] at h
  split at h
  · rename_i hc
    split at h
    · rename_i h2
      cases h
      intro hr hm
      rcases List.mem_cons.mp hm with z | z
      · rw [hc] at z; cases z
      · rw [← List.takeWhile_append_dropWhile (p := fun x => decide (x ≠ 39)) (l := r)] at z
        rcases List.mem_append.mp z with z | z
        · have := List.all_eq_true.mp h2.2 10 z
          exact absurd this (by decide)
        · cases e : r.dropWhile fun x => decide (x ≠ 39) with
          | nil => rw [e] at z; cases z
          | cons a b =>
            have ha : a = 39 := by
              have := List.head?_dropWhile_not (fun x => decide (x ≠ 39)) r
              rw [e] at this
              simpa using this
            rw [e] at z hr
            rcases List.mem_cons.mp z with z | z
            · rw [ha] at z; cases z
            · exact hr z
    · cases h
  · split at h
    · rename_i v hv
      cases h
      intro hr hm
      rw [← List.takeWhile_append_dropWhile (p := sg) (l := c :: r)] at hm
      rcases List.mem_append.mp hm with z | z
      · have := List.all_takeWhile (p := sg) (l := c :: r)
        rw [List.all_eq_true] at this
        exact absurd (this 10 z) (by decide)
      · exact hr z
    · cases h
theorem rd_clean : ∀ (n : Nat) (stk : List (List D)) (fresh po : Bool) (l : List Nat) (d : D), rd n stk fresh po l = some d → 10 ∉ l
  | 0, _, _, _, _, _, h => by simp [rd] at h
  | n + 1, stk, fresh, po, [], d, _ => by simp
  | n + 1, stk, fresh, po, c :: r, d, h => by
    unfold rd at h
    split at h
    · rename_i z
      intro hm
      rcases List.mem_cons.mp hm with e | e
      · rw [z.2.1] at e; cases e
      · exact rd_clean n _ _ _ _ _ h e
    · split at h
      · rename_i z
        obtain ⟨s, _, h⟩ := Option.bind_eq_some_iff.mp h
        intro hm
        rcases List.mem_cons.mp hm with e | e
        · rw [z.1] at e; cases e
        · exact rd_clean n _ _ _ _ _ h e
      · split at h
        · rename_i z
          intro hm
          cases r with
          | nil => simp at z
          | cons b r =>
            have z3 := z.2.2
            simp only [List.take_succ_cons, List.take_zero, List.cons.injEq, and_true] at z3
            rcases List.mem_cons.mp hm with e | e
            · rw [z3.1] at e; cases e
            · rcases List.mem_cons.mp e with e | e
              · rw [z3.2] at e; cases e
              · exact rd_clean n _ _ _ _ _ h e
        · split at h
          · obtain ⟨x, hx, h⟩ := Option.bind_eq_some_iff.mp h
            obtain ⟨s, _, h⟩ := Option.bind_eq_some_iff.mp h
            exact plain_eats (r' := x.2) (d := x.1) hx (rd_clean n _ _ _ _ _ h)
          · cases h
/-- read_data -/
def readD (l : List Nat) : Option D := rd (l.length + 1) [[]] true false l
theorem readD_wr {d : D} (hg : good d = true) (hd : d.dp ≤ 100) : readD (wr d) = some d := by
  obtain ⟨m, hm, e⟩ := rd_wr d [] [] false [] ((wr d).length + 1) hg (by simpa using hd) (fun c r e => by cases e) (by simp)
  rw [List.append_nil] at e
  unfold readD
  rw [e]
  obtain ⟨m, rfl⟩ : ∃ k, m = k + 1 := ⟨m - 1, by omega⟩
  rfl
theorem readD_behind {d : D} (hg : good d = true) (hd : d.dp ≤ 100) {c : Nat} {r : List Nat} (hs : sg c = false) : readD (wr d ++ c :: r) = none := by
  obtain ⟨m, hm, e⟩ := rd_wr d [] [] false (c :: r) ((wr d ++ c :: r).length + 1) hg (by simpa using hd) (fun c' r' e => by cases e; exact hs) (by simp)
  unfold readD
  rw [e]
  obtain ⟨m, rfl⟩ : ∃ k, m = k + 1 := ⟨m - 1, by omega⟩
  conv => lhs; unfold rd
  rw [if_neg (fun z => by cases z.1), if_neg (fun z => by simp at z), if_neg (fun z => by simp at z), if_neg (fun z => by cases z.1)]
theorem readD_open {d : D} (hg : good d = true) (hd : d.dp ≤ 99) : readD (40 :: wr d) = none := by
  unfold readD
  have e0 : rd ((40 :: wr d).length + 1) [[]] true false (40 :: wr d) = rd (40 :: wr d).length [[], []] true true (wr d) := by
    conv => lhs; unfold rd
    rw [if_pos ⟨rfl, rfl, by decide⟩]
  rw [e0]
  obtain ⟨m, hm, e⟩ := rd_wr d [] [[]] true [] (40 :: wr d).length hg (by simp; omega) (fun c r e => by cases e) (by simp)
  rw [List.append_nil] at e
  rw [e]
  obtain ⟨m, rfl⟩ : ∃ k, m = k + 1 := ⟨m - 1, by omega⟩
  rfl
theorem readD_nl {l : List Nat} (h : 10 ∈ l) : readD l = none := by
  cases e : readD l with
  | none => rfl
  | some d => exact absurd h (rd_clean _ _ _ _ _ _ e)
theorem rd_deep : ∀ (k : Nat) (n : Nat) (stk : List (List D)) (po : Bool) (r : List Nat), 101 ≤ stk.length + k → stk.length ≤ 101 → rd n stk true po (List.replicate (k + 1) 40 ++ r) = none
  | _, 0, _, _, _, _, _ => rfl
  | 0, n + 1, stk, po, r, h, h2 => by
    show rd (n + 1) stk true po (40 :: ([] ++ r)) = none
    conv => lhs; unfold rd
    rw [if_neg (fun z => by have := z.2.2; omega), if_neg (fun z => by cases z.1), if_neg (fun z => by cases z.1), if_neg (fun z => z.2 rfl)]
  | k + 1, n + 1, stk, po, r, h, h2 => by
    show rd (n + 1) stk true po (40 :: (List.replicate (k + 1) 40 ++ r)) = none
    conv => lhs; unfold rd
    split
    · rename_i z
      exact rd_deep k n _ _ _ (by simp only [List.length_cons]; omega) (by simp only [List.length_cons]; have := z.2.2; omega)
    · rw [if_neg (fun z => by cases z.1), if_neg (fun z => by cases z.1), if_neg (fun z => z.2 rfl)]
theorem readD_deep {k : Nat} {r : List Nat} (h : 101 ≤ k) : readD (List.replicate k 40 ++ r) = none := by
  obtain ⟨k, rfl⟩ : ∃ j, k = j + 1 := ⟨k - 1, by omega⟩
  exact rd_deep k _ [[]] false r (by simp; omega) (by simp)
theorem readI_dig {l : List Nat} {v : Int} (h : readI l = some v) : (l.drop 1).all isD = true := by
  unfold readI at h
  dsimp only at h
  by_cases t : l.take 1 = [45]
  · rw [if_pos t] at h
    cases e : (l.drop 1).all isD with
    | true => rfl
    | false => rw [if_pos (.inr (.inr e))] at h; cases h
  · rw [if_neg t] at h
    cases e : l.all isD with
    | true =>
      rw [List.all_eq_true] at e ⊢
      exact fun c hc => e c (List.mem_of_mem_drop hc)
    | false => rw [if_pos (.inr (.inr e))] at h; cases h
theorem readI_bad {l : List Nat} {c : Nat} (h : c ∈ l.drop 1) (hc : isD c = false) : readI l = none := by
  cases e : readI l with
  | none => rfl
  | some v =>
    have := List.all_eq_true.mp (readI_dig e) c h
    rw [hc] at this
    cases this
theorem readI_head {c : Nat} {r : List Nat} (h1 : c ≠ 45) (h2 : isD c = false) : readI (c :: r) = none := by
  unfold readI
  simp only [List.take_succ_cons, List.take_zero, List.cons.injEq, h1, false_and, if_false]
  rw [if_pos]
  exact .inr (.inr (by simp only [List.all_cons, h2, Bool.false_and]))
theorem readI_zero {r : List Nat} (h : r ≠ []) : readI (48 :: r) = none := by
  unfold readI
  simp only [List.take_succ_cons, List.take_zero, List.cons.injEq, show (48 : Nat) ≠ 45 by decide, false_and, if_false]
  rw [if_pos]
  exact .inr (.inl ⟨rfl, fun z => h (by injection z)⟩)
end K33

set_option maxHeartbeats 4000000
namespace K33
open PySem PySem.Spec PyProof.Rows L2 PL SX
open TL (numL tl joinL)
variable {P : Program} {w : World} {K : PySem.W.Frag} {mg : Str → Option Value} {base : Heap} {C_CellchainsError C_BadText v_read_integer v_read_data : Addr}
local macro_rules | `(tactic| simp! [$ls,*]) => `(tactic| simp only [to_nx, to_rt, to_bk, to_ct, to_ex, lp_nx, lp_rt, lp_bk, lp_ct, lp_ex, ret_nx, ret_rt, ret_ex, s_exK, s_bif1, s_bif0, s_optB, s_optE, s_nxD, s_ifK, s_asgN, s_asgT, s_asgL, b_nil, b_nm, b_tp, s_next, s_seq, s_drop, s_ret, s_retN, s_ifS, s_asg, s_brk, s_cont, s_put, s_put1, s_put2, s_put3, s_aug, s_augV, s_augK, s_augK2, s_bin, s_bin1, s_bin2, s_var, s_varK, s_C, s_cb, s_cbK, s_call, s_callK, s_m, s_m1, s_m2, s_nil, s_cons, s_cons1, s_cons2, s_tup, s_tupK, s_lst, s_lstK, s_truth, s_trK, s_tK, s_eK, s_cK, s_and, s_andK, s_or, s_orK, s_not, s_notK, s_ife, s_ifeK, s_andV, s_orV, s_andvK, s_orvK, s_andvK2, s_orvK2, s_notV, s_notvK, s_blK, s_neg, s_negK, s_sl, s_sl1, s_sl2, s_sl3, s_noPart, s_part, s_partK, s_rev, s_revK, s_for, s_forK, s_lc, s_lcK, s_yes, s_walk, s_walkT, s_walkS, s_walkA, s_walkL, s_walkR, s_rng1, s_rng2, s_rng1K, s_rng2K, s_callL, s_callLK, s_callLO, s_clK, s_raise, r_val, r_new, r_put, s_whK, s_lcY, s_lcT, s_lcE, s_cg, s_cgK, s_rng3, s_rng3K, s_lcB, s_lcS, wipeD, Pat.bind, seqOf, rg, s_dict0, s_sortSet, s_sortSetK, q_is_tuple, q_is_str, q_is_int, q_is_bool, q_is_list, q_isR, ofS_inj, String.reduceEq, q_eqI, q_neI, q_eqS, q_neS, decide_true, decide_false, Int.reduceEq, reduceCtorEq, i_NoneType_tuple, i_NoneType_str, i_NoneType_int, i_NoneType_bool, i_NoneType_list, i_bool_tuple, i_bool_str, i_bool_int, i_bool_bool, i_bool_list, i_int_tuple, i_int_str, i_int_int, i_int_bool, i_int_list, i_str_tuple, i_str_str, i_str_int, i_str_bool, i_str_list, i_tuple_tuple, i_tuple_str, i_tuple_int, i_tuple_bool, i_tuple_list, i_list_tuple, i_list_str, i_list_int, i_list_bool, i_list_list, i_dict_tuple, i_dict_str, i_dict_int, i_dict_bool, i_dict_list, tyN, startD, mupd_same, mupd_ne, ne_eq, not_false_eq_true, List.map_cons, List.map_nil, List.length_cons, List.length_nil, List.replicate_succ, List.replicate_zero, Nat.zero_add, Nat.reduceAdd, Nat.reduceSub, Int.cast_ofNat_Int, List.cons_append, List.nil_append, List.getElem?_cons_zero, List.getElem?_cons_succ, List.set_cons_zero, List.set_cons_succ, opIx, atI_cons, ixN, opPut, opAdd, opSub, opMul, opFdiv, opMod, opPow, opLt, opLe, opGt, opGe, opIs, opIsNot, D.isNon, truth, bLen, bAbs, bInt, bTuple, bList, isTy, mAppend, mExtend, mPop, Int.reduceLE, Int.reduceLT, Int.reduceToNat, Int.reduceNeg, Int.reduceNe, Option.bind_some, if_true, if_false, ite_true, ite_false, true_and, and_true, Bool.not_true, Bool.not_false, opIadd, Nat.reduceLT, Nat.reduceLeDiff, Int.ofNat_lt, $ls,*])
theorem S_eq {a b : List Nat} : (S a = S b) = (a = b) := propext ⟨S_inj, fun h => by rw [h]⟩
theorem base_eq : (10000000000000000000000000000000000000000000000000000000000000000 : Int) = 10 ^ 64 := by decide
theorem flat_len : ∀ {cs : List (List Nat)}, (∀ c ∈ cs, c.length = 64) → cs.reverse.flatten.length = 64 * cs.length
  | [], _ => rfl
  | c :: cs, h => by
    rw [List.reverse_cons, List.flatten_append, List.length_append, flat_len fun d hd => h d (List.mem_cons_of_mem _ hd)]
    have := h c List.mem_cons_self
    simp [this]
    omega
theorem W_len {n : Int} (h : n.natAbs < 10 ^ 500) : (W n).length ≤ 501 := by
  unfold W
  split
  · have := TL.numL_len (n := (-n).toNat) (k := 500) (by decide) (by rw [show (-n).toNat = n.natAbs by omega]; exact h)
    simp only [List.length_cons]
    omega
  · have := TL.numL_len (n := n.toNat) (k := 500) (by decide) (by rw [show n.toNat = n.natAbs by omega]; exact h)
    omega
theorem big500 : (10 : Nat) ^ 500 < 2 ^ 1700 := by decide +kernel
theorem log_ok {n : Int} (h : n.natAbs < 10 ^ 500) : n.natAbs.log2 < 1920 := by
  by_cases z : n.natAbs = 0
  · rw [z]; decide
  · exact (Nat.log2_lt z).mpr (Nat.lt_trans (Nat.lt_trans h big500) (Nat.pow_lt_pow_right (by decide) (by decide)))
theorem join_nil : ∀ cs : List (List Nat), joinL [] cs = cs.flatten
  | [] => rfl
  | [c] => by simp [joinL]
  | c :: d :: r => by
    show c ++ ([] ++ joinL [] (d :: r)) = _
    rw [join_nil (d :: r)]
    rfl
def wCond : Nat → Int → Prop
  | 0, _ => False
  | 1, n => 0 ≤ n
  | _, _ => True
def sp_wint (j : Nat) : DSp := fun ds M Q E => ∃ n : Int, ds = [.int n] ∧ wCond j n ∧ n.natAbs < 10 ^ 500 ∧ ∀ M', Keep [] M M' → Q (.str (S (W n))) M'
theorem mono_wint {j : Nat} : MonoSp (sp_wint j) := by
  rintro ds M Q Q' E E' hQ hE ⟨n, h1, h2, h3, h⟩
  exact ⟨n, h1, h2, h3, fun M' z => hQ _ _ (h M' z)⟩
theorem fn_wint (S0 : Src K mg "write_integer" s_write_integer ["n"]) (G : GF K mg C_CellchainsError C_BadText v_read_integer v_read_data) : ∀ j, Fn P w K mg base j "write_integer" (sp_wint j) [] := by
  intro j
  induction j with
  | zero => exact S0.fn mono_wint fun f fd F => fn_none fun ds M Q E ⟨d, _, h, _⟩ => h
  | succ j F_write_integer =>
  refine S0.fn mono_wint fun f fd F => fn_ok F sc_write_integer (fun ds M Q E h => by obtain ⟨d, rfl, _⟩ := h; rfl) ⟨_, fun cdv A outer s H E hr => have hu := hr.u200
    (xss_cons (xs_if (xt_cmp x_lt (xe_var 0) xe_int (nomark _) bl_lt)
 (xss_one (xs_ret (xe_bin x_add xe_str (xe_call F_write_integer (hr.mono (by first | decide | omega)) bx_takes (by rfl) (xa_cons (xe_neg (xe_var 0)) xa_nil)))))
 xss_nil)
 (xss_cons (xs_set 1 sc_write_integer.nd (xe_lst (n := 0) xa_nil))
 (xss_cons (xs_while bx_passes (xt_cmp x_ge (xe_var 0) (xe_globE (by rfl) G.BASE) (nomark _) bl_ge)
 (xss_cons (xs_asg (p := .tp [.nm 0, .nm 2]) (xe_callB c_divmod (by rfl) G.divmod (by decide +kernel) (xa_cons (xe_var 0) (xa_cons (xe_globE (by rfl) G.BASE) xa_nil))) (xg_tup rfl (xgs_cons (xg_name 0 sc_write_integer.nd) (xgs_cons (xg_name 2 sc_write_integer.nd) xgs_nil))))
 (xss_one (xs_expr (xe_bm PySem.F.plainAttrs_list PySem.F.slot_list_append PySem.F.type_list_append m_append (xe_var 1) (xa_cons (xe_bm PySem.F.plainAttrs_str PySem.F.slot_str_zfill PySem.F.type_str_zfill m_zfill (xe_callTy c_str (by rfl) G.str (by decide +kernel) (xa_cons (xe_var 2) xa_nil)) (xa_cons xe_int xa_nil)) xa_nil))))))
 (xss_cons (xs_expr (xe_bm PySem.F.plainAttrs_list PySem.F.slot_list_append PySem.F.type_list_append m_append (xe_var 1) (xa_cons (xe_callTy c_str (by rfl) G.str (by decide +kernel) (xa_cons (xe_var 0) xa_nil)) xa_nil)))
 (xss_one (xs_ret (xe_bm PySem.F.plainAttrs_str PySem.F.slot_str_join PySem.F.type_str_join m_join xe_str (xa_cons (xe_rev (xe_var 1)) xa_nil)))))))), fun ds M Q E h => ?_⟩
  obtain ⟨n, rfl, hc, hb, h⟩ := h
  have em : Str.ofString "-" = S [45] := by decide +kernel
  have e0 : Str.ofString "" = S [] := by decide +kernel
  have sz : (16777216 : Nat) = sizeLine := sizeLine_eq.symm
  simp! [em]
  refine bif_dec (fun hn => ?_) fun hn => ?_
  · simp! []
    have hj : wCond j (-n) := by
      match j, hc with
      | 0, hc => exact absurd (show 0 ≤ n from hc) (by omega)
      | 1, _ => show 0 ≤ -n; omega
      | j + 2, _ => trivial
    refine ⟨-n, rfl, hj, by rw [Int.natAbs_neg]; exact hb, fun M' k => ?_⟩
    have ew : W n = 45 :: W (-n) := by unfold W; rw [if_pos hn, if_neg (by omega)]
    have lw : (W (-n)).length ≤ 500 := by
      unfold W
      rw [if_neg (by omega)]
      exact TL.numL_len (by decide) (by omega)
    simp! [S_cat, len_S]
    refine ⟨by omega, ?_⟩
    rw [← ew]
    exact h M' k
  · simp! []
    intro a ha
    have hn0 : 0 ≤ n := by omega
    simp only [base_eq]
    have pw : ∀ k : Nat, (0 : Int) < 10 ^ k := fun k => Int.pow_pos (by decide)
    refine while_inv (fun m env M' => ∃ (q : Nat) (cs : List (List Nat)) (low : Option D), m = q ∧ env = [some (.int q), some (.ob a), low] ∧ M' a = some (.lst ((cs.map S).map D.str)) ∧ Keep [a] M M' ∧ (q : Int).natAbs < 10 ^ 500 ∧ W n = numL q ++ cs.reverse.flatten ∧ ∀ c ∈ cs, c.length = 64) ?_ (n := n.toNat)
      ⟨n.toNat, [], none, rfl, by rw [Int.toNat_of_nonneg hn0], mupd_same, Keep.new ha, by omega, by unfold W; rw [if_neg (by omega)]; simp, fun c hc => by cases hc⟩
    have lw := W_len hb
    rintro m env M' N ⟨q, cs, low, rfl, rfl, hm, k, hq, hw, hcs⟩ hN
    simp! [s_whK]
    refine bif_dec (fun hge => ?_) fun hge => ?_
    · have fl := flat_len hcs
      have wl := congrArg List.length hw
      rw [List.length_append, fl] at wl
      have hge : 10 ^ 64 ≤ m := by exact_mod_cast hge
      have p64 : 0 < 10 ^ 64 := Nat.pow_pos (by decide)
      have ed : (m : Int) / 10 ^ 64 = ((m / 10 ^ 64 : Nat) : Int) := by norm_cast
      have er : (m : Int) % 10 ^ 64 = ((m % 10 ^ 64 : Nat) : Int) := by norm_cast
      have hr : m % 10 ^ 64 < 10 ^ 64 := Nat.mod_lt _ p64
      have hl := TL.numL_len (n := m % 10 ^ 64) (k := 64) (by decide) hr
      simp! [bDivmod, mZfill, bStr, ed, er, num_S, hm, List.length_map]
      have hq' : m < 10 ^ 500 := by simpa using hq
      have b1 : Builtin.Int.intBits (m : Int) ≤ 1700 := by
        have := PyProof.Rows.intBits_le (a := (m : Int)) (k := 1700) (by rw [Int.natAbs_natCast]; exact Nat.lt_trans hq' big500)
        exact this
      have ez : Txt.zfill (S (numL (m % 10 ^ 64))) 64 = S (padL 64 (m % 10 ^ 64)) := by
        have := zfill_S (l := numL (m % 10 ^ 64)) (n := 64) hl (fun c hc => by
          have := TL.numL_digits (m % 10 ^ 64) c (List.mem_of_mem_head? hc)
          omega)
        rw [pad_num 64 _ hr (by decide)]
        exact this
      have q0 : 0 < m / 10 ^ 64 := Nat.div_pos hge p64
      refine ⟨divp_ok (by decide) (by omega), log_ok (by rw [Int.natAbs_natCast]; exact Nat.lt_trans hr (Nat.pow_lt_pow_right (by decide) (by decide))), by decide, by omega, hN (m / 10 ^ 64) _ _ (Nat.div_lt_self (by omega) (Nat.one_lt_pow (by decide) (by decide))) ⟨m / 10 ^ 64, cs ++ [padL 64 (m % 10 ^ 64)], _, rfl, rfl, by rw [mupd_same, ez]; simp, k.trans (Keep.put (by simp)), ?_, ?_, ?_⟩⟩
      · rw [Int.natAbs_natCast]
        exact Nat.lt_of_le_of_lt (Nat.div_le_self _ _) hq'
      · rw [hw]
        conv => lhs; rw [← Nat.div_add_mod m (10 ^ 64), Nat.mul_comm, num_split 64 _ _ q0 hr]
        simp
      · intro c hc
        rcases List.mem_append.mp hc with hc | hc
        · exact hcs c hc
        · rw [List.mem_singleton.mp hc]; exact padL_len _ _
    · have fl := flat_len hcs
      have wl := congrArg List.length hw
      rw [List.length_append, fl] at wl
      have hq' : m < 10 ^ 500 := by simpa using hq
      simp! [bStr, num_S, hm, List.length_map, revR, mJoin, seqS, lstAt]
      refine ⟨log_ok (by rw [Int.natAbs_natCast]; exact hq'), by omega, fun p hp => ?_⟩
      have er : ((cs.map S).map D.str ++ [D.str (S (numL m))]).reverse = ((cs ++ [numL m]).reverse.map S).map D.str := by simp
      rw [er, strsOf_map]
      dsimp only
      rw [e0, lens, join_S, join_nil]
      have el : (cs ++ [numL m]).reverse.flatten = W n := by rw [hw]; simp
      have ef : ((cs ++ [numL m]).reverse.map (·.length)).sum = (W n).length := by rw [← el, List.length_flatten]
      rw [ef, el]
      refine ⟨by rw [len_S]; simp only [List.length_nil, Nat.mul_zero]; omega, h _ ?_⟩
      exact ((k.trans (Keep.put (by simp))).trans (Keep.new hp)).drop ha
end K33

set_option maxHeartbeats 4000000
namespace K33
open PySem PySem.Spec PyProof.Rows L2 PL SX
open TL (numL tl joinL)
variable {P : Program} {w : World} {K : PySem.W.Frag} {mg : Str → Option Value} {base : Heap} {C_CellchainsError C_BadText v_read_integer v_read_data : Addr}
local macro_rules | `(tactic| simp! [$ls,*]) => `(tactic| simp only [to_nx, to_rt, to_bk, to_ct, to_ex, lp_nx, lp_rt, lp_bk, lp_ct, lp_ex, ret_nx, ret_rt, ret_ex, s_exK, s_bif1, s_bif0, s_optB, s_optE, s_nxD, s_ifK, s_asgN, s_asgT, s_asgL, b_nil, b_nm, b_tp, s_next, s_seq, s_drop, s_ret, s_retN, s_ifS, s_asg, s_brk, s_cont, s_put, s_put1, s_put2, s_put3, s_aug, s_augV, s_augK, s_augK2, s_bin, s_bin1, s_bin2, s_var, s_varK, s_C, s_cb, s_cbK, s_call, s_callK, s_m, s_m1, s_m2, s_nil, s_cons, s_cons1, s_cons2, s_tup, s_tupK, s_lst, s_lstK, s_truth, s_trK, s_tK, s_eK, s_cK, s_and, s_andK, s_or, s_orK, s_not, s_notK, s_ife, s_ifeK, s_andV, s_orV, s_andvK, s_orvK, s_andvK2, s_orvK2, s_notV, s_notvK, s_blK, s_neg, s_negK, s_sl, s_sl1, s_sl2, s_sl3, s_noPart, s_part, s_partK, s_rev, s_revK, s_for, s_forK, s_lc, s_lcK, s_yes, s_walk, s_walkT, s_walkS, s_walkA, s_walkL, s_walkR, s_rng1, s_rng2, s_rng1K, s_rng2K, s_callL, s_callLK, s_callLO, s_clK, s_raise, r_val, r_new, r_put, s_whK, s_lcY, s_lcT, s_lcE, s_cg, s_cgK, s_rng3, s_rng3K, s_lcB, s_lcS, wipeD, Pat.bind, seqOf, rg, s_dict0, s_sortSet, s_sortSetK, q_is_tuple, q_is_str, q_is_int, q_is_bool, q_is_list, q_isR, ofS_inj, String.reduceEq, q_eqI, q_neI, q_eqS, q_neS, decide_true, decide_false, Int.reduceEq, reduceCtorEq, i_NoneType_tuple, i_NoneType_str, i_NoneType_int, i_NoneType_bool, i_NoneType_list, i_bool_tuple, i_bool_str, i_bool_int, i_bool_bool, i_bool_list, i_int_tuple, i_int_str, i_int_int, i_int_bool, i_int_list, i_str_tuple, i_str_str, i_str_int, i_str_bool, i_str_list, i_tuple_tuple, i_tuple_str, i_tuple_int, i_tuple_bool, i_tuple_list, i_list_tuple, i_list_str, i_list_int, i_list_bool, i_list_list, i_dict_tuple, i_dict_str, i_dict_int, i_dict_bool, i_dict_list, tyN, startD, mupd_same, mupd_ne, ne_eq, not_false_eq_true, List.map_cons, List.map_nil, List.length_cons, List.length_nil, List.replicate_succ, List.replicate_zero, Nat.zero_add, Nat.reduceAdd, Nat.reduceSub, Int.cast_ofNat_Int, List.cons_append, List.nil_append, List.getElem?_cons_zero, List.getElem?_cons_succ, List.set_cons_zero, List.set_cons_succ, opIx, atI_cons, ixN, opPut, opAdd, opSub, opMul, opFdiv, opMod, opPow, opLt, opLe, opGt, opGe, opIs, opIsNot, D.isNon, truth, bLen, bAbs, bInt, bTuple, bList, isTy, mAppend, mExtend, mPop, Int.reduceLE, Int.reduceLT, Int.reduceToNat, Int.reduceNeg, Int.reduceNe, Option.bind_some, if_true, if_false, ite_true, ite_false, true_and, and_true, Bool.not_true, Bool.not_false, opIadd, Nat.reduceLT, Nat.reduceLeDiff, Int.ofNat_lt, $ls,*])
theorem rg64 {h n : Nat} (hn : n < 2 ^ 40) (hh : h = n % 64) : RgC h n 64 (n / 64) := by
  have e : Builtin.Range.rangeSize h n 64 = (n / 64 : Nat) := by
    unfold Builtin.Range.rangeSize
    rw [if_pos (by decide)]
    split <;> omega
  refine ⟨by decide, by decide, ?_, e⟩
  have fit : ∀ i : Int, -1000000000000000 ≤ i → i ≤ 1000000000000000 → Builtin.Range.rangeFitsLong i = true := fun i h1 h2 => by
    unfold Builtin.Range.rangeFitsLong
    rw [decide_eq_true (show -(2 ^ 63) ≤ i by omega), decide_eq_true (show i < 2 ^ 63 by omega)]
    rfl
  unfold Builtin.Range.small
  rw [e, fit _ (by omega) (by omega), fit _ (by omega) (by omega), fit 64 (by decide) (by decide), fit _ (by omega) (by omega), if_pos (by decide), fit _ (by omega) (by omega)]
  simp
theorem dval_lt : ∀ {l : List Nat}, l.all isD = true → dval l < 10 ^ l.length := by
  intro l h
  obtain ⟨r, rfl⟩ : ∃ r, l = r.reverse := ⟨l.reverse, by simp⟩
  induction r with
  | nil => decide
  | cons c r ih =>
    rw [List.reverse_cons] at h ⊢
    simp only [List.all_append, List.all_cons, List.all_nil, Bool.and_true, Bool.and_eq_true, decide_eq_true_eq] at h
    have := ih h.1
    rw [dval_app, dval_one, List.length_append, List.length_singleton, Nat.pow_succ]
    omega
theorem ten_two (n : Nat) : 10 ^ n ≤ 2 ^ (4 * n) := by
  rw [Nat.pow_mul]
  exact Nat.pow_le_pow_left (by decide) n
def sp_rint (C : Addr) : DSp := fun ds M Q E => ∃ l : List Nat, ds = [.str (S l)] ∧ l.length ≤ 4000000 ∧ (∀ v, readI l = some v → Q (.int v) M) ∧ (readI l = none → E (.ref C) [] M)
theorem mono_rint {C : Addr} : MonoSp (sp_rint C) := by
  rintro ds M Q Q' E E' hQ hE ⟨l, h1, h2, h3, h4⟩
  exact ⟨l, h1, h2, fun v e => hQ _ _ (h3 v e), fun e => hE _ _ _ (h4 e)⟩
theorem digits_S : (Str.ofString "0123456789").cps.toList = [48, 49, 50, 51, 52, 53, 54, 55, 56, 57] := by decide +kernel
theorem mem_digits {c : Nat} : decide (c ∈ [48, 49, 50, 51, 52, 53, 54, 55, 56, 57]) = isD c := by
  rw [Bool.eq_iff_iff]
  simp
  omega
theorem fn_rint (S0 : Src K mg "read_integer" s_read_integer ["text"]) (G : GF K mg C_CellchainsError C_BadText v_read_integer v_read_data) : Fn P w K mg base 1 "read_integer" (sp_rint C_BadText) [] := by
  refine S0.fn mono_rint fun f fd F => fn_ok F sc_read_integer (fun ds M Q E h => by obtain ⟨d, rfl, _⟩ := h; rfl) ⟨_, fun cdv A outer s H E hr => have hu := hr.u200
    (xss_cons (xs_set 1 sc_read_integer.nd (xe_var 0))
 (xss_cons (xs_if (xt_cmp (x_eq hu) (xe_sl (xe_var 0) xo_none (xo_some xe_int)) xe_str (nomark _) bl_eq)
 (xss_one (xs_set 1 sc_read_integer.nd (xe_sl (xe_var 0) (xo_some xe_int) xo_none)))
 xss_nil)
 (xss_cons (xs_if (xt_wh (xw_or (xt_cmp (x_eq hu) (xe_var 1) xe_str (nomark _) bl_eq) (xw_or1 (xt_wh (xw_and (xt_cmp (x_eq hu) (xe_ix hu (xe_var 1) xe_int) xe_str (nomark _) bl_eq) (xw_and1 (xt_cmp (x_ne hu) (xe_var 0) xe_str (nomark _) bl_ne)))))))
 (xss_one (xs_raiseC G.E_BadText rfl bx_takes (by rfl)))
 xss_nil)
 (xss_cons (xs_for (p := .nm 2) bx_passes rfl (xi_walk (xe_var 1)) (xg_name 2 sc_read_integer.nd)
 (xss_one (xs_if (xt_cmp (x_notin hu) (xe_var 2) (xe_globE (by rfl) G.DIGITS) rfl bl_notin)
 (xss_one (xs_raiseC G.E_BadText rfl bx_takes (by rfl)))
 xss_nil)))
 (xss_cons (xs_set 3 sc_read_integer.nd (xe_bin x_mod (xe_callB c_len (by rfl) G.len (by decide +kernel) (xa_cons (xe_var 1) xa_nil)) xe_int))
 (xss_cons (xs_set 4 sc_read_integer.nd xe_int)
 (xss_cons (xs_if (xt_cmp x_gt (xe_var 3) xe_int (nomark _) bl_gt)
 (xss_one (xs_set 4 sc_read_integer.nd (xe_callTy c_int (by rfl) G.int (by decide +kernel) (xa_cons (xe_sl (xe_var 1) xo_none (xo_some (xe_var 3))) xa_nil))))
 xss_nil)
 (xss_cons (xs_for (p := .nm 5) bx_passes rfl (xi_range3 (by rfl) G.range (xa_cons (xe_var 3) (xa_cons (xe_callB c_len (by rfl) G.len (by decide +kernel) (xa_cons (xe_var 1) xa_nil)) (xa_cons xe_int xa_nil)))) (xg_name 5 sc_read_integer.nd)
 (xss_one (xs_set 4 sc_read_integer.nd (xe_bin x_add (xe_bin x_mul (xe_var 4) (xe_globE (by rfl) G.BASE)) (xe_callTy c_int (by rfl) G.int (by decide +kernel) (xa_cons (xe_sl (xe_var 1) (xo_some (xe_var 5)) (xo_some (xe_bin x_add (xe_var 5) xe_int))) xa_nil))))))
 (xss_cons (xs_if (xt_cmp (x_eq hu) (xe_ix hu (xe_var 0) xe_int) xe_str (nomark _) bl_eq)
 (xss_one (xs_ret (xe_neg (xe_var 4))))
 xss_nil)
 (xss_one (xs_ret (xe_var 4)))))))))))), fun ds M Q E h => ?_⟩
  obtain ⟨l, rfl, hl, hv, hx⟩ := h
  have em : Str.ofString "-" = S [45] := by decide +kernel
  have e0 : Str.ofString "" = S [] := by decide +kernel
  have ez : Str.ofString "0" = S [48] := by decide +kernel
  have sz : (16777216 : Nat) = sizeLine := sizeLine_eq.symm
  have c1 : cutS (S l) none (some 1) = S (l.take 1) := cut_to (k := 1)
  have c2 : cutS (S l) (some 1) none = S (l.drop 1) := cut_from (k := 1)
  simp! [em, opSl, c1, S_eq, len_S]
  refine ⟨by omega, ?_⟩
  refine bif_midD (fun e M' => e = [some (.str (S l)), some (.str (S (if l.take 1 = [45] then l.drop 1 else l))), none, none, none, none] ∧ M' = M) (fun ht N hN => ?_) (fun ht N hN => ?_) ?_
  · simp! [opSl, c2, len_S]
    exact ⟨by omega, hN _ _ ⟨by rw [if_pos ht], rfl⟩⟩
  · exact hN _ _ ⟨by rw [if_neg ht], rfl⟩
  rintro e M' ⟨rfl, rfl⟩
  have er : readI l = (let ds := if l.take 1 = [45] then l.drop 1 else l; if ds = [] ∨ (ds.head? = some 48 ∧ l ≠ [48]) ∨ ds.all isD = false then none else some (if l.take 1 = [45] then -(dval ds : Int) else dval ds)) := rfl
  have dl : (if l.take 1 = [45] then l.drop 1 else l).length ≤ 4000000 := by
    split
    · rw [List.length_drop]; omega
    · exact hl
  have dne : (if l.take 1 = [45] then l.drop 1 else l) ≠ [] → l ≠ [] := fun z e => z (by rw [e]; simp)
  generalize hds : (if l.take 1 = [45] then l.drop 1 else l) = ds at er dl dne
  dsimp only at er
  have bad : (ds = [] ∨ ds.head? = some 48 ∧ l ≠ [48] ∨ ds.all isD = false) → E (.ref C_BadText) [] M' := fun z => hx (by rw [er, if_pos z])
  refine seq_mid (fun e M2 => e = [some (.str (S l)), some (.str (S ds)), none, none, none, none] ∧ M2 = M' ∧ ds ≠ [] ∧ ¬ (ds.head? = some 48 ∧ l ≠ [48])) (fun N hN => ?_) ?_
  · simp! [e0, ez, S_eq, len_S]
    refine bif_dec (fun hd => ?_) fun hd => ?_
    · simp! []
      exact bad (.inl hd)
    obtain ⟨c, r, rfl⟩ : ∃ c r, ds = c :: r := by
      cases ds with
      | nil => exact absurd rfl hd
      | cons c r => exact ⟨c, r, rfl⟩
    have a1 : atI (c :: r) 0 = some c := atI_zero
    have sg1 : ∀ c : Nat, (⟨#[c]⟩ : Str) = S [c] := fun _ => rfl
    simp! [a1, sg1, S_eq, len_S]
    refine ⟨by simp only [List.length_cons] at dl; omega, bif_dec (fun z => ?_) fun z => ?_⟩
    · have z : c = 48 := by simpa using z
      subst z
      simp! [S_eq]
      refine bif_of (fun y => ?_) fun y => ?_
      · simp! []
        exact bad (.inr (.inl ⟨rfl, by simpa using y⟩))
      · simp! []
        exact hN _ _ ⟨rfl, rfl, hd, fun q => by simp at y; exact q.2 y⟩
    · simp! []
      exact hN _ _ ⟨rfl, rfl, hd, fun q => z (by have := q.1; simp at this; rw [this])⟩
  rintro e M2 ⟨rfl, rfl, hd, h48⟩
  refine seq_mid (fun e M3 => (∃ d2, e = [some (.str (S l)), some (.str (S ds)), d2, none, none, none]) ∧ M3 = M2 ∧ ds.all isD = true) (fun N hN => ?_) ?_
  · simp! []
    refine loop_inv (fun c : Nat => D.str (S [c])) (fun rest e M3 => ∃ (done : List Nat) (d2 : Option D), ds = done ++ rest ∧ done.all isD = true ∧ e = [some (.str (S l)), some (.str (S ds)), d2, none, none, none] ∧ M3 = M2) (fun _ _ _ _ => trivial) ?_ ?_ ds _ _ ⟨[], none, rfl, rfl, rfl, rfl⟩
    · rintro c rest e M3 N2 ⟨done, d2, e1, hdn, rfl, rfl⟩ hN2
      simp! [notIn_sign, digits_S, mem_digits]
      refine bif_of (fun z => ?_) fun z => ?_
      · simp! []
        refine bad (.inr (.inr ?_))
        rw [e1, List.all_append, List.all_cons]
        have z : isD c = false := by cases y : isD c with
          | false => rfl
          | true => rw [y] at z; cases z
        rw [z]
        simp
      · have z : isD c = true := by
          cases y : isD c with
          | true => rfl
          | false => rw [y] at z; cases z
        simp! []
        exact hN2 _ _ ⟨done ++ [c], some (.str (S [c])), by rw [e1]; simp, by rw [List.all_append, hdn, List.all_cons, z]; rfl, rfl, rfl⟩
    · rintro e M3 ⟨done, d2, e1, hdn, rfl, rfl⟩
      rw [List.append_nil] at e1
      subst e1
      simp! []
      exact hN _ _ ⟨⟨_, rfl⟩, rfl, hdn⟩
  rintro e M3 ⟨⟨d2, rfl⟩, rfl, hall⟩
  have alln : ∀ m : List Nat, (∀ c ∈ m, c ∈ ds) → m.all isD = true := fun m h => by
    rw [List.all_eq_true] at hall ⊢
    exact fun c hc => hall c (h c hc)
  simp! [len_S]
  refine ⟨by omega, ?_⟩
  have em1 : (ds.length : Int) % 64 = ((ds.length % 64 : Nat) : Int) := by omega
  simp only [em1]
  refine bif_midD (fun e M4 => (∃ d2, e = [some (.str (S l)), some (.str (S ds)), d2, some (.int ((ds.length % 64 : Nat) : Int)), some (.int (dval (ds.take (ds.length % 64)))), none]) ∧ M4 = M3) (fun hp N hN => ?_) (fun hp N hN => ?_) ?_
  · simp! [opSl, cut_to, len_S]
    have q := int_S (a := ds.take (ds.length % 64)) (alln _ fun c hc => List.mem_of_mem_take hc) (fun z => by have := congrArg List.length z; simp only [List.length_take, List.length_nil] at this; omega) (by rw [List.length_take]; omega)
    simp! [q, len_S]
    exact ⟨by omega, by rw [List.length_take]; omega, hN _ _ ⟨⟨_, rfl⟩, rfl⟩⟩
  · simp! []
    refine hN _ _ ⟨⟨d2, ?_⟩, rfl⟩
    rw [show ds.length % 64 = 0 by omega]
    rfl
  rintro e M4 ⟨⟨d2, rfl⟩, rfl⟩
  simp! [len_S]
  refine ⟨by omega, _, _, _, ds.length / 64, rfl, rg64 (by omega) rfl, ?_⟩
  refine loop_inv (fun i : Nat => D.int (((ds.length % 64 : Nat) : Int) + (i : Nat) * 64)) (fun rest e M5 => ∃ (i : Nat) (d2 d5 : Option D), rest = List.range' i (ds.length / 64 - i) ∧ i ≤ ds.length / 64 ∧ e = [some (.str (S l)), some (.str (S ds)), d2, some (.int ((ds.length % 64 : Nat) : Int)), some (.int (dval (ds.take (ds.length % 64 + 64 * i)))), d5] ∧ M5 = M4) (fun _ _ _ _ => trivial) ?_ ?_ (List.range _) _ _
    ⟨0, d2, none, by rw [List.range_eq_range']; rfl, Nat.zero_le _, by simp, rfl⟩
  · rintro x rest e M5 N ⟨i, d2, d5, e1, hi, rfl, rfl⟩ hN
    have hlt : i < ds.length / 64 := by
      by_cases z : ds.length / 64 - i = 0
      · rw [z] at e1; cases e1
      · omega
    obtain ⟨n, en⟩ : ∃ n, ds.length / 64 - i = n + 1 := ⟨ds.length / 64 - i - 1, by omega⟩
    rw [en, List.range'_succ] at e1
    injection e1 with ex er2
    subst ex
    have est : ((ds.length % 64 : Nat) : Int) + (x : Nat) * 64 = ((ds.length % 64 + 64 * x : Nat) : Int) := by push_cast; omega
    have est2 : ((ds.length % 64 + 64 * x : Nat) : Int) + 64 = ((ds.length % 64 + 64 * x + 64 : Nat) : Int) := by push_cast; omega
    have ech : ds.length % 64 + 64 * x + 64 - (ds.length % 64 + 64 * x) = 64 := by omega
    have lch : ((ds.drop (ds.length % 64 + 64 * x)).take 64).length = 64 := by rw [List.length_take, List.length_drop]; omega
    have q := int_S (a := (ds.drop (ds.length % 64 + 64 * x)).take 64) (alln _ fun c hc => List.mem_of_mem_drop (List.mem_of_mem_take hc)) (fun z => by rw [z] at lch; cases lch) (by omega)
    have dlt := dval_lt (l := ds.take (ds.length % 64 + 64 * x)) (alln _ fun c hc => List.mem_of_mem_take hc)
    have dlt2 : dval (ds.take (ds.length % 64 + 64 * x)) < 2 ^ (4 * (ds.take (ds.length % 64 + 64 * x)).length) := Nat.lt_of_lt_of_le dlt (ten_two _)
    have tl4 : (ds.take (ds.length % 64 + 64 * x)).length ≤ 4000000 := by rw [List.length_take]; omega
    simp! [est, est2, opSl, cut_mid, len_S, ech, q]
    refine ⟨(mulx_ok (a := 4 * (ds.take (ds.length % 64 + 64 * x)).length) (b := 300) (by rw [Int.natAbs_natCast]; exact dlt2) (by decide +kernel) (by omega)).ok, by omega, by omega, hN _ _ ⟨x + 1, d2, some (.int ((ds.length % 64 + 64 * x : Nat) : Int)), ?_, by omega, ?_, rfl⟩⟩
    · rw [er2, show ds.length / 64 - (x + 1) = n by omega]
    · have ed : dval (ds.take (ds.length % 64 + 64 * (x + 1))) = dval (ds.take (ds.length % 64 + 64 * x)) * 10 ^ 64 + dval ((ds.drop (ds.length % 64 + 64 * x)).take 64) := by
        rw [show ds.length % 64 + 64 * (x + 1) = (ds.length % 64 + 64 * x) + 64 by omega, List.take_add, dval_app, lch]
      have cst : ∀ a b : Nat, ((a * 10 ^ 64 + b : Nat) : Int) = (a : Int) * 10 ^ 64 + b := fun a b => by rw [Int.natCast_add, Int.natCast_mul, Int.natCast_pow]; rfl
      rw [ed, base_eq, cst]
  · rintro e M5 ⟨i, d2, d5, e1, hi, rfl, rfl⟩
    have hge : ds.length / 64 - i = 0 := by
      have := congrArg List.length e1
      simpa using this.symm
    have el : ds.take (ds.length % 64 + 64 * i) = ds := List.take_of_length_le (by omega)
    obtain ⟨c', r', rfl⟩ : ∃ c r, l = c :: r := by
      cases l with
      | nil => exact absurd rfl (dne hd)
      | cons c r => exact ⟨c, r, rfl⟩
    have a2 : atI (c' :: r') 0 = some c' := atI_zero
    have sg1 : ∀ c : Nat, (⟨#[c]⟩ : Str) = S [c] := fun _ => rfl
    have nb : ¬ (ds = [] ∨ ds.head? = some 48 ∧ c' :: r' ≠ [48] ∨ ds.all isD = false) := fun z => by
      rcases z with z | z | z
      · exact hd z
      · exact h48 z
      · rw [hall] at z; cases z
    rw [if_neg nb] at er
    rw [el]
    simp! [a2, sg1, S_eq, len_S, em]
    refine ⟨by simp only [List.length_cons] at hl; omega, bif_dec (fun z => ?_) fun z => ?_⟩
    · simp! []
      exact hv _ (by rw [er, if_pos (by simpa using z)])
    · simp! []
      exact hv _ (by rw [er, if_neg (by simpa using z)])
end K33

set_option maxHeartbeats 4000000
namespace K33
open PySem PySem.Spec PyProof.Rows L2 PL SX
open TL (numL tl joinL)
variable {P : Program} {w : World} {K : PySem.W.Frag} {mg : Str → Option Value} {base : Heap} {C_CellchainsError C_BadText v_read_integer v_read_data : Addr}
local macro_rules | `(tactic| simp! [$ls,*]) => `(tactic| simp only [to_nx, to_rt, to_bk, to_ct, to_ex, lp_nx, lp_rt, lp_bk, lp_ct, lp_ex, ret_nx, ret_rt, ret_ex, s_exK, s_bif1, s_bif0, s_optB, s_optE, s_nxD, s_ifK, s_asgN, s_asgT, s_asgL, b_nil, b_nm, b_tp, s_next, s_seq, s_drop, s_ret, s_retN, s_ifS, s_asg, s_brk, s_cont, s_put, s_put1, s_put2, s_put3, s_aug, s_augV, s_augK, s_augK2, s_bin, s_bin1, s_bin2, s_var, s_varK, s_C, s_cb, s_cbK, s_call, s_callK, s_m, s_m1, s_m2, s_nil, s_cons, s_cons1, s_cons2, s_tup, s_tupK, s_lst, s_lstK, s_truth, s_trK, s_tK, s_eK, s_cK, s_and, s_andK, s_or, s_orK, s_not, s_notK, s_ife, s_ifeK, s_andV, s_orV, s_andvK, s_orvK, s_andvK2, s_orvK2, s_notV, s_notvK, s_blK, s_neg, s_negK, s_sl, s_sl1, s_sl2, s_sl3, s_noPart, s_part, s_partK, s_rev, s_revK, s_for, s_forK, s_lc, s_lcK, s_yes, s_walk, s_walkT, s_walkS, s_walkA, s_walkL, s_walkR, s_rng1, s_rng2, s_rng1K, s_rng2K, s_callL, s_callLK, s_callLO, s_clK, s_raise, r_val, r_new, r_put, s_whK, s_lcY, s_lcT, s_lcE, s_cg, s_cgK, s_rng3, s_rng3K, s_lcB, s_lcS, wipeD, Pat.bind, seqOf, rg, s_dict0, s_sortSet, s_sortSetK, q_is_tuple, q_is_str, q_is_int, q_is_bool, q_is_list, q_isR, ofS_inj, String.reduceEq, q_eqI, q_neI, q_eqS, q_neS, decide_true, decide_false, Int.reduceEq, reduceCtorEq, i_NoneType_tuple, i_NoneType_str, i_NoneType_int, i_NoneType_bool, i_NoneType_list, i_bool_tuple, i_bool_str, i_bool_int, i_bool_bool, i_bool_list, i_int_tuple, i_int_str, i_int_int, i_int_bool, i_int_list, i_str_tuple, i_str_str, i_str_int, i_str_bool, i_str_list, i_tuple_tuple, i_tuple_str, i_tuple_int, i_tuple_bool, i_tuple_list, i_list_tuple, i_list_str, i_list_int, i_list_bool, i_list_list, i_dict_tuple, i_dict_str, i_dict_int, i_dict_bool, i_dict_list, tyN, startD, mupd_same, mupd_ne, ne_eq, not_false_eq_true, List.map_cons, List.map_nil, List.length_cons, List.length_nil, List.replicate_succ, List.replicate_zero, Nat.zero_add, Nat.reduceAdd, Nat.reduceSub, Int.cast_ofNat_Int, List.cons_append, List.nil_append, List.getElem?_cons_zero, List.getElem?_cons_succ, List.set_cons_zero, List.set_cons_succ, opIx, atI_cons, ixN, opPut, opAdd, opSub, opMul, opFdiv, opMod, opPow, opLt, opLe, opGt, opGe, opIs, opIsNot, D.isNon, truth, bLen, bAbs, bInt, bTuple, bList, isTy, mAppend, mExtend, mPop, Int.reduceLE, Int.reduceLT, Int.reduceToNat, Int.reduceNeg, Int.reduceNe, Option.bind_some, if_true, if_false, ite_true, ite_false, true_and, and_true, Bool.not_true, Bool.not_false, opIadd, Nat.reduceLT, Nat.reduceLeDiff, Int.ofNat_lt, $ls,*])
theorem one_lt {c d : Nat} : decide ([c] < [d]) = decide (c < d) := by
  apply decide_eq_decide.mpr
  constructor
  · intro h
    cases h with
    | rel h => exact h
    | cons h => cases h
  · exact fun h => .rel h
/-! write_data -/
mutual
def fine : D → Bool
  | .v (.int n) => decide (n.natAbs < 10 ^ 500)
  | .v (.str _) => true
  | .v _ => false
  | .tup ds => fineL ds
def fineL : List D → Bool
  | [] => true
  | d :: r => fine d && fineL r
end
theorem fineL_mem : ∀ {ds : List D}, fineL ds = true → ∀ d ∈ ds, fine d = true
  | d :: ds, h, e, he => by
    simp only [fineL, Bool.and_eq_true] at h
    rcases List.mem_cons.mp he with z | z
    · rw [z]; exact h.1
    · exact fineL_mem h.2 e z
theorem wrL_map : ∀ ds : List D, wrL ds = ds.map wr
  | [] => rfl
  | d :: r => by rw [wrL, wrL_map r]; rfl
theorem joinL_len : ∀ (s : List Nat) (ls : List (List Nat)), ls ≠ [] → (joinL s ls).length + s.length = (ls.map (·.length)).sum + ls.length * s.length
  | s, [], h => absurd rfl h
  | s, [p], _ => by simp [joinL]
  | s, p :: q :: r, _ => by
    have := joinL_len s (q :: r) (by simp)
    show (p ++ (s ++ joinL s (q :: r))).length + s.length = _
    simp only [List.length_append, List.map_cons, List.sum_cons, List.length_cons] at this ⊢
    rw [Nat.add_mul, Nat.one_mul]
    omega
def sp_wd (n : Nat) : DSp := fun ds M Q E => ∃ d, ds = [d] ∧ d.dp < n ∧ fine d = true ∧ (wr d).length ≤ 4000000 ∧ ∀ M', Keep [] M M' → Q (.str (S (wr d))) M'
theorem mono_wd {n : Nat} : MonoSp (sp_wd n) := by
  rintro ds M Q Q' E E' hQ hE ⟨d, h1, h2, h3, h4, h⟩
  exact ⟨d, h1, h2, h3, h4, fun M' z => hQ _ _ (h M' z)⟩
theorem mem_len : ∀ {ds : List D} {d : D}, d ∈ ds → (wr d).length ≤ (joinL [44, 32] (wrL ds)).length
  | d :: [], e, h => by rw [List.mem_singleton.mp h]; exact Nat.le_refl _
  | d :: f :: r, e, h => by
    have ej : joinL [44, 32] (wrL (d :: f :: r)) = wr d ++ ([44, 32] ++ joinL [44, 32] (wrL (f :: r))) := rfl
    rw [ej, List.length_append, List.length_append]
    rcases List.mem_cons.mp h with z | z
    · rw [z]; omega
    · have := mem_len z; omega
theorem fn_wd (S0 : Src K mg "write_data" s_write_data ["datum"]) (G : GF K mg C_CellchainsError C_BadText v_read_integer v_read_data) (F_write_integer : Fn P w K mg base 2 "write_integer" (sp_wint 2) []) : ∀ n, Fn P w K mg base (n + 2) "write_data" (sp_wd n) [] := by
  intro n
  induction n with
  | zero => exact S0.fn mono_wd fun f fd F => fn_none fun ds M Q E ⟨d, _, h, _⟩ => by omega
  | succ n F_write_data =>
  refine S0.fn mono_wd fun f fd F => fn_ok F sc_write_data (fun ds M Q E h => by obtain ⟨d, rfl, _⟩ := h; rfl) ⟨_, fun cdv A outer s H E hr => have hu := hr.u200
    (xss_cons (xs_if (xt_val (xe_callB c_isi (by rfl) G.isinstance (by decide +kernel) (xa_cons (xe_var 0) (xa_cons (xe_bltn (v := .ty "tuple") (by rfl) G.tuple (by decide +kernel) rfl) xa_nil))))
 (xss_one (xs_ret (xe_bin x_add (xe_bin x_add xe_str (xe_bm PySem.F.plainAttrs_str PySem.F.slot_str_join PySem.F.type_str_join m_join xe_str (xa_cons (xe_lc (own := [("item", 1)]) (p := .nm 1) rfl sc_write_data.nd (xi_walk (xe_var 0)) (blkOk_by (by show blkC ["datum", "item"] (defScope s_write_data) _ _ = true; decide +kernel)) (fun _ _ _ _ _ => (xg_name 1 sc_write_data.nd)) (fun _ _ _ _ _ => xts_nil) (fun _ _ _ _ _ => (xe_call F_write_data (hr.mono (by first | decide | omega)) takes0 (by rfl) (xa_cons (xe_var 1) xa_nil)))) xa_nil))) xe_str)))
 xss_nil)
 (xss_cons (xs_if (xt_val (xe_callB c_isi (by rfl) G.isinstance (by decide +kernel) (xa_cons (xe_var 0) (xa_cons (xe_bltn (v := .ty "str") (by rfl) G.str (by decide +kernel) rfl) xa_nil))))
 (xss_one (xs_ret (xe_bin x_add (xe_bin x_add xe_str (xe_var 0)) xe_str)))
 xss_nil)
 (xss_one (xs_ret (xe_call F_write_integer (hr.mono (by first | decide | omega)) bx_takes (by rfl) (xa_cons (xe_var 0) xa_nil)))))), fun ds M Q E h => ?_⟩
  obtain ⟨d, rfl, hn, hf, hl, h⟩ := h
  have eq : Str.ofString "'" = S [39] := by decide +kernel
  have eo : Str.ofString "(" = S [40] := by decide +kernel
  have ec : Str.ofString ")" = S [41] := by decide +kernel
  have ecm : Str.ofString ", " = S [44, 32] := by decide +kernel
  have sz : (16777216 : Nat) = sizeLine := sizeLine_eq.symm
  match d, hf with
  | .v (.int i), hf =>
    simp! []
    exact ⟨i, rfl, trivial, by simpa [fine] using hf, fun M' k => h M' k⟩
  | .v (.str x), hf =>
    obtain ⟨l, rfl⟩ : ∃ l, x = S l := ⟨x.cps.toList, (S_tl x).symm⟩
    simp only [wr, List.length_cons, List.length_append, List.length_nil] at hl
    simp! [eq, S_cat, len_S, List.length_append]
    have hl : l.length + 2 ≤ 4000000 := by have : (tl (S l)).length = l.length := rfl; omega
    exact ⟨by omega, by omega, h M Keep.refl⟩
  | .tup es, hf =>
    simp only [fine] at hf
    simp only [D.dp] at hn
    simp only [wr, List.length_cons, List.length_append, List.length_nil] at hl
    simp! [eo, ec, ecm]
    intro a ha
    have esl : es.length ≤ 4000001 := by
      cases es with
      | nil => simp
      | cons d r =>
        have := joinL_len [44, 32] (wrL (d :: r)) (by simp [wrL])
        simp only [wrL_map, List.length_map, List.length_cons, List.length_nil] at this hl ⊢
        omega
    refine lc_pureI (fun d => .str (S (wr d))) (fun _ => true) es ha (fun _ _ => trivial) (by omega) (fun d hd M' N sk k hy _ => ?_) fun M' k e => ?_
    · simp! []
      exact ⟨d, rfl, by have := dpL_mem (n := n - 1) (by omega) d hd; omega, fineL_mem hf d hd, by have := mem_len hd; omega, fun M'' k2 => hy rfl M'' k2⟩
    · rw [filter_tt] at e
      have e : M' a = some (.lst ((es.map wr).map S |>.map D.str)) := by rw [e]; simp
      simp! [mJoin, seqS, lstAt, e, strsOf_map, Option.bind_some]
      rw [lens, join_S, ← wrL_map, S_cat, S_cat, List.length_map]
      simp only [len_S, List.length_cons, List.length_nil, List.length_append]
      have esum : ((wrL es).map (·.length)).sum + (wrL es).length * 2 ≤ 4000002 + 2 := by
        cases es with
        | nil => simp [wrL]
        | cons d r =>
          have := joinL_len [44, 32] (wrL (d :: r)) (by simp [wrL])
          simp only [List.length_cons, List.length_nil] at this hl
          omega
      exact ⟨by omega, by omega, by omega, h M' k⟩
def sp_plain_text : DSp := fun ds M Q E => ∃ l : List Nat, ds = [.str (S l)] ∧ Q (.bl (l.all plainc)) M
theorem mono_plain_text : MonoSp sp_plain_text := by
  rintro ds M Q Q' E E' hQ hE ⟨d, h1, h⟩
  exact ⟨d, h1, hQ _ _ h⟩
theorem fn_plain_text (S0 : Src K mg "plain_text" s_plain_text ["text"]) (G : GF K mg C_CellchainsError C_BadText v_read_integer v_read_data) : Fn P w K mg base 1 "plain_text" sp_plain_text [] := by
  refine S0.fn mono_plain_text fun f fd F => fn_ok F sc_plain_text (fun ds M Q E h => by obtain ⟨d, rfl, _⟩ := h; rfl) ⟨_, fun cdv A outer s H E hr => have hu := hr.u200
    (xss_cons (xs_for (p := .nm 1) bx_passes rfl (xi_walk (xe_var 0)) (xg_name 1 sc_plain_text.nd)
 (xss_one (xs_if (xt_wh (xw_or (xt_cmp x_lt (xe_var 1) xe_str (nomark _) bl_lt) (xw_or (xt_cmp x_gt (xe_var 1) xe_str (nomark _) bl_gt) (xw_or (xt_cmp (x_eq hu) (xe_var 1) xe_str (nomark _) bl_eq) (xw_or1 (xt_cmp (x_eq hu) (xe_callB c_ord (by rfl) G.ord (by decide +kernel) (xa_cons (xe_var 1) xa_nil)) xe_int (nomark _) bl_eq))))))
 (xss_one (xs_ret xe_bl))
 xss_nil)))
 (xss_one (xs_ret xe_bl))), fun ds M Q E h => ?_⟩
  obtain ⟨l, rfl, h⟩ := h
  have eq : Str.ofString "'" = S [39] := by decide +kernel
  have es : Str.ofString " " = S [32] := by decide +kernel
  have et : Str.ofString "~" = S [126] := by decide +kernel
  simp! []
  refine loop_inv (fun c : Nat => D.str (S [c])) (fun rest e M3 => ∃ (done : List Nat) (d2 : Option D), l = done ++ rest ∧ done.all plainc = true ∧ e = [some (.str (S l)), d2] ∧ M3 = M) (fun _ _ _ _ => trivial) ?_ ?_ l _ _ ⟨[], none, rfl, rfl, rfl, rfl⟩
  · rintro c rest e M3 N ⟨done, d2, e1, hd, rfl, rfl⟩ hN
    have bad : plainc c = false → Q (.bl false) M3 := fun z => by
      have : l.all plainc = false := by rw [e1, List.all_append, List.all_cons, z]; simp
      rw [← this]; exact h
    have gd : ((S [c]).cps.toList < (S [32]).cps.toList) = ([c] < [32]) := rfl
    simp! [eq, es, et, S_eq, bOrd, cps_S, one_lt]
    refine bif_dec (fun z => ?_) fun z1 => ?_
    · simp! []
      exact bad (by simp; omega)
    simp! [one_lt, cps_S]
    refine bif_dec (fun z => ?_) fun z2 => ?_
    · simp! []
      exact bad (by simp; omega)
    simp! [S_eq]
    refine bif_dec (fun z => ?_) fun z3 => ?_
    · simp! []
      have z : c = 39 := by simpa using z
      exact bad (by simp [z])
    have z3 : c ≠ 39 := by simpa using z3
    have eo : bOrd [.str (S [c])] M3 = .val ((S [c]).length = 1) (.int (c : Int)) := rfl
    simp! [eo]
    refine ⟨rfl, bif_dec (fun z => ?_) fun z4 => ?_⟩
    · simp! []
      have z : c = 37 := by omega
      exact bad (by simp [z])
    · simp! []
      exact hN _ _ ⟨done ++ [c], _, by rw [e1]; simp, by rw [List.all_append, hd]; simp; omega, rfl, rfl⟩
  · rintro e M3 ⟨done, d2, e1, hd, rfl, rfl⟩
    rw [List.append_nil] at e1
    subst e1
    simp! []
    rw [hd] at h
    exact h
end K33

set_option maxHeartbeats 4000000
namespace K33
open PySem PySem.Spec PyProof.Rows L2 PL SX
open TL (numL tl joinL)
variable {P : Program} {w : World} {K : PySem.W.Frag} {mg : Str → Option Value} {base : Heap} {C_CellchainsError C_BadText v_read_integer v_read_data : Addr}
local macro_rules | `(tactic| simp! [$ls,*]) => `(tactic| simp only [to_nx, to_rt, to_bk, to_ct, to_ex, lp_nx, lp_rt, lp_bk, lp_ct, lp_ex, ret_nx, ret_rt, ret_ex, s_exK, s_bif1, s_bif0, s_optB, s_optE, s_nxD, s_ifK, s_asgN, s_asgT, s_asgL, b_nil, b_nm, b_tp, s_next, s_seq, s_drop, s_ret, s_retN, s_ifS, s_asg, s_brk, s_cont, s_put, s_put1, s_put2, s_put3, s_aug, s_augV, s_augK, s_augK2, s_bin, s_bin1, s_bin2, s_var, s_varK, s_C, s_cb, s_cbK, s_call, s_callK, s_m, s_m1, s_m2, s_nil, s_cons, s_cons1, s_cons2, s_tup, s_tupK, s_lst, s_lstK, s_truth, s_trK, s_tK, s_eK, s_cK, s_and, s_andK, s_or, s_orK, s_not, s_notK, s_ife, s_ifeK, s_andV, s_orV, s_andvK, s_orvK, s_andvK2, s_orvK2, s_notV, s_notvK, s_blK, s_neg, s_negK, s_sl, s_sl1, s_sl2, s_sl3, s_noPart, s_part, s_partK, s_rev, s_revK, s_for, s_forK, s_lc, s_lcK, s_yes, s_walk, s_walkT, s_walkS, s_walkA, s_walkL, s_walkR, s_rng1, s_rng2, s_rng1K, s_rng2K, s_callL, s_callLK, s_callLO, s_clK, s_raise, r_val, r_new, r_put, s_whK, s_lcY, s_lcT, s_lcE, s_cg, s_cgK, s_rng3, s_rng3K, s_lcB, s_lcS, wipeD, Pat.bind, seqOf, rg, s_dict0, s_sortSet, s_sortSetK, q_is_tuple, q_is_str, q_is_int, q_is_bool, q_is_list, q_isR, ofS_inj, String.reduceEq, q_eqI, q_neI, q_eqS, q_neS, decide_true, decide_false, Int.reduceEq, reduceCtorEq, i_NoneType_tuple, i_NoneType_str, i_NoneType_int, i_NoneType_bool, i_NoneType_list, i_bool_tuple, i_bool_str, i_bool_int, i_bool_bool, i_bool_list, i_int_tuple, i_int_str, i_int_int, i_int_bool, i_int_list, i_str_tuple, i_str_str, i_str_int, i_str_bool, i_str_list, i_tuple_tuple, i_tuple_str, i_tuple_int, i_tuple_bool, i_tuple_list, i_list_tuple, i_list_str, i_list_int, i_list_bool, i_list_list, i_dict_tuple, i_dict_str, i_dict_int, i_dict_bool, i_dict_list, tyN, startD, mupd_same, mupd_ne, ne_eq, not_false_eq_true, List.map_cons, List.map_nil, List.length_cons, List.length_nil, List.replicate_succ, List.replicate_zero, Nat.zero_add, Nat.reduceAdd, Nat.reduceSub, Int.cast_ofNat_Int, List.cons_append, List.nil_append, List.getElem?_cons_zero, List.getElem?_cons_succ, List.set_cons_zero, List.set_cons_succ, opIx, atI_cons, ixN, opPut, opAdd, opSub, opMul, opFdiv, opMod, opPow, opLt, opLe, opGt, opGe, opIs, opIsNot, D.isNon, truth, bLen, bAbs, bInt, bTuple, bList, isTy, mAppend, mExtend, mPop, Int.reduceLE, Int.reduceLT, Int.reduceToNat, Int.reduceNeg, Int.reduceNe, Option.bind_some, if_true, if_false, ite_true, ite_false, true_and, and_true, Bool.not_true, Bool.not_false, opIadd, Nat.reduceLT, Nat.reduceLeDiff, Int.ofNat_lt, $ls,*])
theorem tw_len (p : Nat → Bool) : ∀ r : List Nat, (r.takeWhile p).length ≤ r.length
  | [] => Nat.le_refl _
  | c :: r => by
    simp only [List.takeWhile]
    split
    · simp only [List.length_cons]; have := tw_len p r; omega
    · simp
theorem tw_take (p : Nat → Bool) : ∀ r : List Nat, r.take (r.takeWhile p).length = r.takeWhile p
  | [] => rfl
  | c :: r => by
    simp only [List.takeWhile]
    split
    · simp only [List.length_cons, List.take_succ_cons, tw_take p r]
    · rfl
theorem tw_drop (p : Nat → Bool) : ∀ r : List Nat, r.drop (r.takeWhile p).length = r.dropWhile p
  | [] => rfl
  | c :: r => by
    simp only [List.takeWhile, List.dropWhile]
    split
    · simp only [List.length_cons, List.drop_succ_cons, tw_drop p r]
    · rfl
theorem tw_at (p : Nat → Bool) : ∀ (r : List Nat) (j : Nat) (c : Nat), r[j]? = some c → j < (r.takeWhile p).length → p c = true
  | [], j, c, h, _ => by cases h
  | a :: r, j, c, h, hj => by
    simp only [List.takeWhile] at hj
    split at hj
    · rename_i z
      cases j with
      | zero => cases h; exact z
      | succ j => exact tw_at p r j c (by simpa using h) (by simpa using hj)
    · simp at hj
theorem tw_end (p : Nat → Bool) : ∀ (r : List Nat) (c : Nat), r[(r.takeWhile p).length]? = some c → p c = false
  | [], c, h => by cases h
  | a :: r, c, h => by
    simp only [List.takeWhile] at h
    split at h
    · exact tw_end p r c (by simpa using h)
    · rename_i z
      cases h
      simpa using z
theorem plain_suffix {c : Nat} {r r' : List Nat} {d : D} (h : plain (c :: r) = some (d, r')) : ∃ p, c :: r = p ++ r' ∧ p ≠ [] := by
  rw [plain] at h
  split at h
  · split at h
    · cases h
      refine ⟨c :: (r.takeWhile fun x => decide (x ≠ 39)) ++ (r.dropWhile fun x => decide (x ≠ 39)).take 1, ?_, by simp⟩
      rw [List.cons_append, List.cons_append, List.append_assoc, List.take_append_drop, List.takeWhile_append_dropWhile]
    · cases h
  · split at h
    · rename_i v hv
      cases h
      refine ⟨(c :: r).takeWhile sg, (List.takeWhile_append_dropWhile).symm, fun z => ?_⟩
      rw [z] at hv
      have : readI [] = none := by decide
      rw [this] at hv
      cases hv
    · cases h
def sp_rp (C : Addr) : DSp := fun ds M Q E => ∃ (l : List Nat) (k c : Nat) (r : List Nat), ds = [.str (S l), .int k] ∧ l.drop k = c :: r ∧ l.length ≤ 4000000 ∧
  (∀ d r', plain (c :: r) = some (d, r') → Q (.tup [d, .int ((l.length - r'.length : Nat) : Int)]) M) ∧ (plain (c :: r) = none → E (.ref C) [] M)
theorem mono_rp {C : Addr} : MonoSp (sp_rp C) := by
  rintro ds M Q Q' E E' hQ hE ⟨l, k, c, r, h1, h2, h3, h4, h5⟩
  exact ⟨l, k, c, r, h1, h2, h3, fun d r' e => hQ _ _ (h4 d r' e), fun e => hE _ _ _ (h5 e)⟩
theorem signs_S : (Str.ofString "-0123456789").cps.toList = [45, 48, 49, 50, 51, 52, 53, 54, 55, 56, 57] := by decide +kernel
theorem mem_signs {c : Nat} : decide (c ∈ [45, 48, 49, 50, 51, 52, 53, 54, 55, 56, 57]) = sg c := by
  rw [Bool.eq_iff_iff]
  simp
  omega
theorem fn_rp (S0 : Src K mg "read_plain" s_read_plain ["text", "start"]) (G : GF K mg C_CellchainsError C_BadText v_read_integer v_read_data) (F_read_integer : Fn P w K mg base 1 "read_integer" (sp_rint C_BadText) []) (F_plain_text : Fn P w K mg base 1 "plain_text" sp_plain_text []) :
    Fn P w K mg base 2 "read_plain" (sp_rp C_BadText) [] := by
  refine S0.fn mono_rp fun f fd F => fn_ok F sc_read_plain (fun ds M Q E h => by obtain ⟨d, k, c, r, rfl, _⟩ := h; rfl) ⟨_, fun cdv A outer s H E hr => have hu := hr.u200
    (xss_cons (xs_if (xt_cmp (x_eq hu) (xe_ix hu (xe_var 0) (xe_var 1)) xe_str (nomark _) bl_eq)
 (xss_cons (xs_set 2 sc_read_plain.nd (xe_bm PySem.F.plainAttrs_str PySem.F.slot_str_find PySem.F.type_str_find m_find3 (xe_var 0) (xa_cons xe_str (xa_cons (xe_bin x_add (xe_var 1) xe_int) xa_nil))))
 (xss_cons (xs_if (xt_wh (xw_or (xt_cmp x_lt (xe_var 2) xe_int (nomark _) bl_lt) (xw_or1 (xt_not (xt_val (xe_call F_plain_text (hr.mono (by first | decide | omega)) bx_takes (by rfl) (xa_cons (xe_sl (xe_var 0) (xo_some (xe_bin x_add (xe_var 1) xe_int)) (xo_some (xe_var 2))) xa_nil)))))))
 (xss_one (xs_raiseC G.E_BadText rfl bx_takes (by rfl)))
 xss_nil)
 (xss_one (xs_ret (xe_tup (n := 2) (xa_cons (xe_sl (xe_var 0) (xo_some (xe_bin x_add (xe_var 1) xe_int)) (xo_some (xe_var 2))) (xa_cons (xe_bin x_add (xe_var 2) xe_int) xa_nil)))))))
 xss_nil)
 (xss_cons (xs_set 2 sc_read_plain.nd (xe_var 1))
 (xss_cons (xs_while bx_passes (xt_wh (xw_and (xt_cmp x_lt (xe_var 2) (xe_callB c_len (by rfl) G.len (by decide +kernel) (xa_cons (xe_var 0) xa_nil)) (nomark _) bl_lt) (xw_and1 (xt_cmp (x_in hu) (xe_ix hu (xe_var 0) (xe_var 2)) (xe_globE (by rfl) G.SIGNS) rfl bl_in))))
 (xss_one (xs_aug 2 sc_read_plain.nd x_iaddN xe_int)))
 (xss_one (xs_ret (xe_tup (n := 2) (xa_cons (xe_call F_read_integer (hr.mono (by first | decide | omega)) bx_takes (by rfl) (xa_cons (xe_sl (xe_var 0) (xo_some (xe_var 1)) (xo_some (xe_var 2))) xa_nil)) (xa_cons (xe_var 2) xa_nil)))))))), fun ds M Q E h => ?_⟩
  obtain ⟨l, k, c, r, rfl, hk, hl, hq, hx⟩ := h
  have eq : Str.ofString "'" = S [39] := by decide +kernel
  have sz : (16777216 : Nat) = sizeLine := sizeLine_eq.symm
  have kl : k + (r.length + 1) = l.length := by
    have := congrArg List.length hk
    simp only [List.length_drop, List.length_cons] at this
    omega
  have ak : atI l (k : Int) = some c := by
    rw [atI_natI (show k < l.length by omega)]
    have : (l.drop k)[0]? = some c := by rw [hk]; rfl
    rw [List.getElem?_drop, Nat.add_zero, List.getElem?_eq_getElem (by omega)] at this
    exact this
  have sg1 : ∀ c : Nat, (⟨#[c]⟩ : Str) = S [c] := fun _ => rfl
  have k1 : (k : Int) + 1 = ((k + 1 : Nat) : Int) := rfl
  have dk : l.drop (k + 1) = r := by
    rw [← List.drop_drop, hk]; rfl
  simp! [eq, ak, cps_S, sg1, S_eq, len_S]
  refine ⟨by omega, bif_dec (fun z => ?_) fun z => ?_⟩
  · have z : c = 39 := by simpa using z
    subst z
    rw [plain, if_pos rfl] at hq hx
    simp! [mFind3, k1, find_one (show k + 1 ≤ l.length by omega), dk]
    by_cases hm : 39 ∈ r
    · generalize ht : (r.takeWhile fun x => decide (x ≠ 39)) = t at hq hx ⊢
      have h2 : (l.drop (k + 1)).take (k + 1 + t.length - (k + 1)) = t := by
        rw [dk, show k + 1 + t.length - (k + 1) = t.length by omega, ← ht]
        exact tw_take _ r
      have tl : t.length ≤ r.length := by rw [← ht]; exact tw_len _ _
      rw [if_pos hm]
      have nl : ¬ (((k + 1 + t.length : Nat) : Int) < 0) := by omega
      simp! [nl, opSl, k1, cut_mid, h2, len_S]
      refine ⟨by omega, t, rfl, ?_⟩
      cases hp : t.all plainc with
      | false =>
        simp! []
        exact hx (by rw [if_neg]; rintro ⟨_, y⟩; rw [hp] at y; cases y)
      | true =>
        simp! [opSl, k1, cut_mid, h2, len_S]
        refine ⟨by omega, ?_⟩
        have q := hq _ _ (if_pos ⟨hm, hp⟩)
        have ed : ((r.dropWhile fun x => decide (x ≠ 39)).drop 1).length + t.length + 1 = r.length := by
          have e1 := congrArg List.length (List.takeWhile_append_dropWhile (p := fun x => decide (x ≠ 39)) (l := r))
          rw [List.length_append, ht] at e1
          have e2 : 0 < (r.dropWhile fun x => decide (x ≠ 39)).length := by
            cases e3 : r.dropWhile fun x => decide (x ≠ 39) with
            | cons a b => simp
            | nil =>
              have e4 : r = t := by rw [← ht]; conv => lhs; rw [← List.takeWhile_append_dropWhile (p := fun x => decide (x ≠ 39)) (l := r), e3, List.append_nil]
              rw [e4, ← ht] at hm
              have := List.all_eq_true.mp (List.all_takeWhile (p := fun x => decide (x ≠ 39)) (l := r)) 39 hm
              simp at this
          rw [List.length_drop]
          omega
        rw [show l.length - ((r.dropWhile fun x => decide (x ≠ 39)).drop 1).length = k + 1 + t.length + 1 by omega] at q
        exact q
    · rw [if_neg hm]
      simp! []
      exact hx (by rw [if_neg]; exact fun y => hm y.1)
  · have z : c ≠ 39 := by simpa using z
    rw [plain, if_neg z] at hq hx
    simp! []
    refine while_inv (fun m env M' => ∃ j : Nat, m + j = ((c :: r).takeWhile sg).length ∧ env = [some (.str (S l)), some (.int (k : Int)), some (.int ((k + j : Nat) : Int))] ∧ M' = M) ?_ (n := ((c :: r).takeWhile sg).length) ⟨0, rfl, rfl, rfl⟩
    rintro m env M' N ⟨j, hj, rfl, rfl⟩ hN
    have tl : ((c :: r).takeWhile sg).length ≤ r.length + 1 := by have := tw_len sg (c :: r); simpa using this
    simp! [len_S, s_whK]
    have fin : j = ((c :: r).takeWhile sg).length → (((retEnds Q E).to ((dRet (dTup 2 (dCons (dCall (sp_rint C_BadText) [] (dCons (dSl (dVar 0) (dPart (dVar 1)) (dPart (dVar 2))) dNil)) (dCons (dVar 2) dNil)))) (retEnds Q E))).nx [some (.str (S l)), some (.int (k : Int)), some (.int ((k + j : Nat) : Int))] M') := fun ej => by
      have h2 : (l.drop k).take (k + j - k) = (c :: r).takeWhile sg := by
        rw [hk, show k + j - k = j by omega, ej]
        exact tw_take _ _
      simp! [opSl, cut_mid, h2, len_S]
      refine ⟨by omega, (c :: r).takeWhile sg, rfl, by omega, fun v hv => ?_, fun hv => ?_⟩
      · simp! []
        rw [hv] at hq
        have q := hq _ _ rfl
        have e1 := congrArg List.length (List.takeWhile_append_dropWhile (p := sg) (l := c :: r))
        rw [List.length_append, List.length_cons, ← ej] at e1
        rw [show l.length - ((c :: r).dropWhile sg).length = k + j by omega] at q
        exact q
      · rw [hv] at hx
        exact hx rfl
    refine ⟨by omega, bif_dec (fun hlt => ?_) fun hge => ?_⟩
    · have hlt : k + j < l.length := by omega
      obtain ⟨x, ex⟩ : ∃ x, (c :: r)[j]? = some x := ⟨_, List.getElem?_eq_getElem (show j < (c :: r).length by simp only [List.length_cons]; omega)⟩
      have ax : atI l ((k + j : Nat) : Int) = some x := by
        rw [atI_natI hlt]
        have : (l.drop k)[j]? = some x := by rw [hk]; exact ex
        rw [List.getElem?_drop, List.getElem?_eq_getElem hlt] at this
        exact this
      simp! [ax, cps_S, sg1, in_sign, signs_S, mem_signs, len_S]
      refine ⟨by omega, ?_⟩
      by_cases ej : j = ((c :: r).takeWhile sg).length
      · have : sg x = false := tw_end sg (c :: r) x (by rw [← ej]; exact ex)
        simp! [this]
        exact fin ej
      · have : sg x = true := tw_at sg (c :: r) j x ex (by omega)
        simp! [this]
        exact hN (m - 1) _ _ (by omega) ⟨j + 1, by omega, by simp; omega, rfl⟩
    · have ej : j = ((c :: r).takeWhile sg).length := by omega
      simp! []
      exact fin ej
end K33

set_option maxHeartbeats 4000000
namespace K33
open PySem PySem.Spec PyProof.Rows L2 PL SX
open TL (numL tl joinL)
variable {P : Program} {w : World} {K : PySem.W.Frag} {mg : Str → Option Value} {base : Heap} {C_CellchainsError C_BadText v_read_integer v_read_data : Addr}
local macro_rules | `(tactic| simp! [$ls,*]) => `(tactic| simp only [to_nx, to_rt, to_bk, to_ct, to_ex, lp_nx, lp_rt, lp_bk, lp_ct, lp_ex, ret_nx, ret_rt, ret_ex, s_exK, s_bif1, s_bif0, s_optB, s_optE, s_nxD, s_ifK, s_asgN, s_asgT, s_asgL, b_nil, b_nm, b_tp, s_next, s_seq, s_drop, s_ret, s_retN, s_ifS, s_asg, s_brk, s_cont, s_put, s_put1, s_put2, s_put3, s_aug, s_augV, s_augK, s_augK2, s_bin, s_bin1, s_bin2, s_var, s_varK, s_C, s_cb, s_cbK, s_call, s_callK, s_m, s_m1, s_m2, s_nil, s_cons, s_cons1, s_cons2, s_tup, s_tupK, s_lst, s_lstK, s_truth, s_trK, s_tK, s_eK, s_cK, s_and, s_andK, s_or, s_orK, s_not, s_notK, s_ife, s_ifeK, s_andV, s_orV, s_andvK, s_orvK, s_andvK2, s_orvK2, s_notV, s_notvK, s_blK, s_neg, s_negK, s_sl, s_sl1, s_sl2, s_sl3, s_noPart, s_part, s_partK, s_rev, s_revK, s_for, s_forK, s_lc, s_lcK, s_yes, s_walk, s_walkT, s_walkS, s_walkA, s_walkL, s_walkR, s_rng1, s_rng2, s_rng1K, s_rng2K, s_callL, s_callLK, s_callLO, s_clK, s_raise, r_val, r_new, r_put, s_whK, s_lcY, s_lcT, s_lcE, s_cg, s_cgK, s_rng3, s_rng3K, s_lcB, s_lcS, wipeD, Pat.bind, seqOf, rg, s_dict0, s_sortSet, s_sortSetK, q_is_tuple, q_is_str, q_is_int, q_is_bool, q_is_list, q_isR, ofS_inj, String.reduceEq, q_eqI, q_neI, q_eqS, q_neS, decide_true, decide_false, Int.reduceEq, reduceCtorEq, i_NoneType_tuple, i_NoneType_str, i_NoneType_int, i_NoneType_bool, i_NoneType_list, i_bool_tuple, i_bool_str, i_bool_int, i_bool_bool, i_bool_list, i_int_tuple, i_int_str, i_int_int, i_int_bool, i_int_list, i_str_tuple, i_str_str, i_str_int, i_str_bool, i_str_list, i_tuple_tuple, i_tuple_str, i_tuple_int, i_tuple_bool, i_tuple_list, i_list_tuple, i_list_str, i_list_int, i_list_bool, i_list_list, i_dict_tuple, i_dict_str, i_dict_int, i_dict_bool, i_dict_list, tyN, startD, mupd_same, mupd_ne, ne_eq, not_false_eq_true, List.map_cons, List.map_nil, List.length_cons, List.length_nil, List.replicate_succ, List.replicate_zero, Nat.zero_add, Nat.reduceAdd, Nat.reduceSub, Int.cast_ofNat_Int, List.cons_append, List.nil_append, List.getElem?_cons_zero, List.getElem?_cons_succ, List.set_cons_zero, List.set_cons_succ, opIx, atI_cons, ixN, opPut, opAdd, opSub, opMul, opFdiv, opMod, opPow, opLt, opLe, opGt, opGe, opIs, opIsNot, D.isNon, truth, bLen, bAbs, bInt, bTuple, bList, isTy, mAppend, mExtend, mPop, Int.reduceLE, Int.reduceLT, Int.reduceToNat, Int.reduceNeg, Int.reduceNe, Option.bind_some, if_true, if_false, ite_true, ite_false, true_and, and_true, Bool.not_true, Bool.not_false, opIadd, Nat.reduceLT, Nat.reduceLeDiff, Int.ofNat_lt, $ls,*])
def sp_rd (C : Addr) : DSp := fun ds M Q E => ∃ l : List Nat, ds = [.str (S l)] ∧ l.length ≤ 4000000 ∧ (∀ d M', readD l = some d → Keep [] M M' → Q d M') ∧ ∀ M', readD l = none → Keep [] M M' → E (.ref C) [] M'
theorem mono_rd {C : Addr} : MonoSp (sp_rd C) := by
  rintro ds M Q Q' E E' hQ hE ⟨l, h1, h2, h3, h4⟩
  exact ⟨l, h1, h2, fun d M' e k => hQ _ _ (h3 d M' e k), fun M' e k => hE _ _ _ (h4 M' e k)⟩
theorem Keep.putNew {M M' : Mem} {p : Addr} {o : Ob} (k : Keep [] M M') (h : M p = none) : Keep [] M (mupd M' p o) := (k.weaken (T := [p]) (by simp)).trans (Keep.put (by simp)) |>.drop h
/-- the stack as objects, its top first -/
structure Stk (M0 M : Mem) (sa : Addr) (as : List (Addr × List D)) : Prop where
  top : M sa = some (.lst ((as.map fun e => D.ob e.1).reverse))
  at' : ∀ e ∈ as, M e.1 = some (.lst e.2)
  nd : (as.map (·.1)).Nodup
  ne : ∀ e ∈ as, e.1 ≠ sa
  sa0 : M0 sa = none
  new : ∀ e ∈ as, M0 e.1 = none
  keep : Keep [] M0 M
theorem Stk.push {M0 M : Mem} {sa p : Addr} {as : List (Addr × List D)} (h : Stk M0 M sa as) (hp : M p = none) : Stk M0 (mupd (mupd M p (.lst [])) sa (.lst (((as.map fun e => D.ob e.1).reverse) ++ [.ob p]))) sa ((p, []) :: as) := by
  have ps : p ≠ sa := ne_new' h.top hp
  have pe : ∀ e ∈ as, e.1 ≠ p := fun e he => ne_new (h.at' e he) hp
  have p0 : M0 p = none := h.keep.fresh hp
  refine ⟨by rw [mupd_same]; simp, ?_, ?_, ?_, h.sa0, ?_, ?_⟩
  · intro e he
    rcases List.mem_cons.mp he with z | z
    · rw [z, mupd_ne ps, mupd_same]
    · rw [mupd_ne (h.ne e z), mupd_ne (pe e z)]
      exact h.at' e z
  · rw [List.map_cons, List.nodup_cons]
    exact ⟨fun z => by obtain ⟨e, he, q⟩ := List.mem_map.mp z; exact pe e he q, h.nd⟩
  · intro e he
    rcases List.mem_cons.mp he with z | z
    · rw [z]; exact ps
    · exact h.ne e z
  · intro e he
    rcases List.mem_cons.mp he with z | z
    · rw [z]; exact p0
    · exact h.new e z
  · exact Keep.putNew (Keep.putNew h.keep p0) h.sa0
theorem Stk.app {M0 M : Mem} {sa a : Addr} {ds : List D} {as : List (Addr × List D)} (h : Stk M0 M sa ((a, ds) :: as)) (d : D) : Stk M0 (mupd M a (.lst (ds ++ [d]))) sa ((a, ds ++ [d]) :: as) := by
  have nd := h.nd
  rw [List.map_cons, List.nodup_cons] at nd
  have pe : ∀ e ∈ as, e.1 ≠ a := fun e he z => nd.1 (List.mem_map.mpr ⟨e, he, z⟩)
  refine ⟨by rw [mupd_ne (h.ne _ List.mem_cons_self).symm]; exact h.top, ?_, h.nd, ?_, h.sa0, ?_, Keep.putNew h.keep (h.new _ List.mem_cons_self)⟩
  · intro e he
    rcases List.mem_cons.mp he with z | z
    · rw [z, mupd_same]
    · rw [mupd_ne (pe e z)]
      exact h.at' e (List.mem_cons_of_mem _ z)
  · intro e he
    rcases List.mem_cons.mp he with z | z
    · rw [z]; exact h.ne (a, ds) List.mem_cons_self
    · exact h.ne e (List.mem_cons_of_mem _ z)
  · intro e he
    rcases List.mem_cons.mp he with z | z
    · rw [z]; exact h.new (a, ds) List.mem_cons_self
    · exact h.new e (List.mem_cons_of_mem _ z)
theorem Stk.pop {M0 M : Mem} {sa a : Addr} {ds : List D} {as : List (Addr × List D)} (h : Stk M0 M sa ((a, ds) :: as)) : Stk M0 (mupd M sa (.lst ((as.map fun e => D.ob e.1).reverse))) sa as := by
  have nd := h.nd
  rw [List.map_cons, List.nodup_cons] at nd
  exact ⟨mupd_same, fun e he => by rw [mupd_ne (h.ne e (List.mem_cons_of_mem _ he))]; exact h.at' e (List.mem_cons_of_mem _ he), nd.2, fun e he => h.ne e (List.mem_cons_of_mem _ he), h.sa0, fun e he => h.new e (List.mem_cons_of_mem _ he), Keep.putNew h.keep h.sa0⟩
theorem last_at {α : Type} {x : α} {r : List α} : atI (x :: r).reverse (-1) = some x := by
  unfold atI ixN
  have e : ((-1 : Int) + ((x :: r).reverse.length : Nat)).toNat = r.length := by simp only [List.length_reverse, List.length_cons]; omega
  rw [if_neg (by decide), if_pos (by simp; omega), Option.bind_some, e]
  simp
theorem Stk.len {M0 M : Mem} {sa : Addr} {as : List (Addr × List D)} (h : Stk M0 M sa as) : ((as.map fun e => D.ob e.1).reverse).length = as.length := by simp
theorem fn_rd (S0 : Src K mg "read_data" s_read_data ["text"]) (G : GF K mg C_CellchainsError C_BadText v_read_integer v_read_data) (F_read_plain : Fn P w K mg base 2 "read_plain" (sp_rp C_BadText) []) : Fn P w K mg base 3 "read_data" (sp_rd C_BadText) [] := by
  refine S0.fn mono_rd fun f fd F => fn_ok F sc_read_data (fun ds M Q E h => by obtain ⟨d, rfl, _⟩ := h; rfl) ⟨_, fun cdv A outer s H E hr => have hu := hr.u200
    (xss_cons (xs_set 1 sc_read_data.nd (xe_lst (n := 1) (xa_cons (xe_lst (n := 0) xa_nil) xa_nil)))
 (xss_cons (xs_set 2 sc_read_data.nd xe_int)
 (xss_cons (xs_set 3 sc_read_data.nd xe_bl)
 (xss_cons (xs_while bx_passes (xt_cmp x_lt (xe_var 2) (xe_callB c_len (by rfl) G.len (by decide +kernel) (xa_cons (xe_var 0) xa_nil)) (nomark _) bl_lt)
 (xss_one (xs_if (xt_wh (xw_and (xt_val (xe_var 3)) (xw_and (xt_cmp (x_eq hu) (xe_ix hu (xe_var 0) (xe_var 2)) xe_str (nomark _) bl_eq) (xw_and1 (xt_cmp x_le (xe_callB c_len (by rfl) G.len (by decide +kernel) (xa_cons (xe_var 1) xa_nil)) (xe_globE (by rfl) G.DEPTH) (nomark _) bl_le)))))
 (xss_cons (xs_expr (xe_bm PySem.F.plainAttrs_list PySem.F.slot_list_append PySem.F.type_list_append m_append (xe_var 1) (xa_cons (xe_lst (n := 0) xa_nil) xa_nil)))
 (xss_one (xs_aug 2 sc_read_data.nd x_iaddN xe_int)))
 (xss_one (xs_if (xt_wh (xw_and (xt_cmp (x_eq hu) (xe_ix hu (xe_var 0) (xe_var 2)) xe_str (nomark _) bl_eq) (xw_and (xt_cmp x_gt (xe_callB c_len (by rfl) G.len (by decide +kernel) (xa_cons (xe_var 1) xa_nil)) xe_int (nomark _) bl_gt) (xw_and1 (xt_wh (xw_or (xt_not (xt_val (xe_var 3))) (xw_or1 (xt_cmp (x_eq hu) (xe_ix hu (xe_var 0) (xe_bin x_sub (xe_var 2) xe_int)) xe_str (nomark _) bl_eq))))))))
 (xss_cons (xs_set 4 sc_read_data.nd (xe_callTy c_tuple (by rfl) G.tuple (by decide +kernel) (xa_cons (xe_bm0 PySem.F.plainAttrs_list PySem.F.slot_list_pop PySem.F.type_list_pop m_pop (xe_var 1)) xa_nil)))
 (xss_cons (xs_expr (xe_bm PySem.F.plainAttrs_list PySem.F.slot_list_append PySem.F.type_list_append m_append (xe_ix hu (xe_var 1) (xe_neg xe_int)) (xa_cons (xe_var 4) xa_nil)))
 (xss_cons (xs_aug 2 sc_read_data.nd x_iaddN xe_int)
 (xss_one (xs_set 3 sc_read_data.nd xe_bl)))))
 (xss_one (xs_if (xt_wh (xw_and (xt_not (xt_val (xe_var 3))) (xw_and (xt_cmp x_gt (xe_callB c_len (by rfl) G.len (by decide +kernel) (xa_cons (xe_var 1) xa_nil)) xe_int (nomark _) bl_gt) (xw_and1 (xt_cmp (x_eq hu) (xe_sl (xe_var 0) (xo_some (xe_var 2)) (xo_some (xe_bin x_add (xe_var 2) xe_int))) xe_str (nomark _) bl_eq)))))
 (xss_cons (xs_aug 2 sc_read_data.nd x_iaddN xe_int)
 (xss_one (xs_set 3 sc_read_data.nd xe_bl)))
 (xss_one (xs_if (xt_wh (xw_and (xt_val (xe_var 3)) (xw_and1 (xt_cmp (x_ne hu) (xe_ix hu (xe_var 0) (xe_var 2)) xe_str (nomark _) bl_ne))))
 (xss_cons (xs_asg (p := .tp [.nm 5, .nm 2]) (xe_call F_read_plain (hr.mono (by first | decide | omega)) bx_takes (by rfl) (xa_cons (xe_var 0) (xa_cons (xe_var 2) xa_nil))) (xg_tup rfl (xgs_cons (xg_name 5 sc_read_data.nd) (xgs_cons (xg_name 2 sc_read_data.nd) xgs_nil))))
 (xss_cons (xs_expr (xe_bm PySem.F.plainAttrs_list PySem.F.slot_list_append PySem.F.type_list_append m_append (xe_ix hu (xe_var 1) (xe_neg xe_int)) (xa_cons (xe_var 5) xa_nil)))
 (xss_one (xs_set 3 sc_read_data.nd xe_bl))))
 (xss_one (xs_raiseC G.E_BadText rfl bx_takes (by rfl))))))))))))
 (xss_cons (xs_if (xt_wh (xw_or (xt_cmp (x_ne hu) (xe_callB c_len (by rfl) G.len (by decide +kernel) (xa_cons (xe_var 1) xa_nil)) xe_int (nomark _) bl_ne) (xw_or1 (xt_cmp (x_ne hu) (xe_callB c_len (by rfl) G.len (by decide +kernel) (xa_cons (xe_ix hu (xe_var 1) xe_int) xa_nil)) xe_int (nomark _) bl_ne))))
 (xss_one (xs_raiseC G.E_BadText rfl bx_takes (by rfl)))
 xss_nil)
 (xss_one (xs_ret (xe_ix hu (xe_ix hu (xe_var 1) xe_int) xe_int)))))))), fun ds M Q E h => ?_⟩
  obtain ⟨l, rfl, hl, hq, hx⟩ := h
  have eo : Str.ofString "(" = S [40] := by decide +kernel
  have ec : Str.ofString ")" = S [41] := by decide +kernel
  have ecm : Str.ofString ", " = S [44, 32] := by decide +kernel
  have sz : (16777216 : Nat) = sizeLine := sizeLine_eq.symm
  have sg1 : ∀ c : Nat, (⟨#[c]⟩ : Str) = S [c] := fun _ => rfl
  simp! [eo, ec, ecm]
  intro p hp sa hsa
  have hsp : p ≠ sa := (mupd_none ▸ hsa : _ ∧ _).1.symm
  have hsa0 : M sa = none := (mupd_none ▸ hsa : _ ∧ _).2
  have st0 : Stk M (mupd (mupd M p (.lst [])) sa (.lst [.ob p])) sa [(p, [])] := by
    refine ⟨mupd_same, fun e he => ?_, by simp, fun e he => ?_, hsa0, fun e he => ?_, (Keep.new hp).trans (Keep.new hsa)⟩
    · rw [List.mem_singleton.mp he, mupd_ne hsp, mupd_same]
    · rw [List.mem_singleton.mp he]; exact hsp
    · rw [List.mem_singleton.mp he]; exact hp
  refine while_inv (fun m env M' => ∃ (idx n : Nat) (as : List (Addr × List D)) (fresh po : Bool) (d4 d5 : Option D), m + idx = l.length ∧ env = [some (.str (S l)), some (.ob sa), some (.int (idx : Int)), some (.bl fresh), d4, d5] ∧ Stk M M' sa as ∧
    readD l = rd n (as.map (·.2)) fresh po (l.drop idx) ∧ m + 1 ≤ n ∧ as ≠ [] ∧ as.length ≤ 101 ∧ (∀ e ∈ as, e.2.length ≤ idx) ∧ (idx = 0 → as.length = 1) ∧ (fresh = true → 1 ≤ idx → (po = decide (l[idx - 1]? = some 40)))) ?_ (n := l.length)
    ⟨0, l.length + 1, [(p, [])], true, false, none, none, rfl, rfl, st0, rfl, Nat.le_refl _, by simp, by simp, fun e he => by rw [List.mem_singleton.mp he]; exact Nat.le_refl _, fun _ => rfl, fun _ h => absurd h (by decide)⟩
  rintro m env M' N ⟨idx, n, as, fresh, po, d4, d5, hmi, rfl, st, he, hn, hne, hal, hle, h0, hpo⟩ hN
  have bad : rd n (as.map (·.2)) fresh po (l.drop idx) = none → E (.ref C_BadText) [] M' := fun z => hx M' (he.trans z) st.keep
  simp! [len_S, s_whK]
  refine ⟨by omega, bif_dec (fun hlt => ?_) fun hge => ?_⟩
  · have hlt : idx < l.length := by omega
    obtain ⟨c, r, hcr⟩ : ∃ c r, l.drop idx = c :: r := by
      cases e : l.drop idx with
      | nil => have := congrArg List.length e; simp at this; omega
      | cons c r => exact ⟨c, r, rfl⟩
    have ac : atI l (idx : Int) = some c := by
      rw [atI_natI hlt]
      have : (l.drop idx)[0]? = some c := by rw [hcr]; rfl
      rw [List.getElem?_drop, Nat.add_zero, List.getElem?_eq_getElem hlt] at this
      exact this
    obtain ⟨n, rfl⟩ : ∃ k, n = k + 1 := ⟨n - 1, by omega⟩
    rw [hcr] at he bad
    unfold rd at he bad
    have one_eq : ∀ a b : Nat, ([a] = [b]) = (a = b) := fun a b => by simp
    have hd1 : l.drop (idx + 1) = r := by rw [← List.drop_drop, hcr]; rfl
    have slen := st.len
    have lm : (as.map (·.2)).length = as.length := List.length_map _
    refine ifS_by (fresh = true ∧ c = 40 ∧ (as.map (·.2)).length ≤ 100) (fun Qb Eb q => ?_) (fun z => ?_) (fun z => ?_)
    · simp! []
      cases fresh with
      | false => simp! []; simpa using q
      | true =>
        simp! [ac, cps_S, sg1, S_eq, one_eq, len_S]
        refine ⟨by omega, bif_dec (fun z => ?_) fun z => ?_⟩
        · simp! [st.top, slen, G.DEPTH]
          have i100 : ((as.length : Int) ≤ 100) = (as.length ≤ 100) := by rw [eq_iff_iff]; omega
          simpa [z, i100] using q
        · simp! []
          simpa [z] using q
    · rw [if_pos z] at he
      obtain ⟨rfl, rfl, hz⟩ := z
      rw [lm] at hz
      simp! [st.top]
      intro p2 hp2
      have sap : sa ≠ p2 := ne_new st.top hp2
      simp! [mupd_ne sap, st.top, slen]
      refine ⟨by omega, hN (m - 1) _ _ (by omega) ⟨idx + 1, n, (p2, []) :: as, true, true, d4, d5, by omega, by simp, st.push hp2, ?_, by omega, by simp, by simp only [List.length_cons]; omega, ?_, fun z => absurd z (by omega), fun _ _ => ?_⟩⟩
      · rw [hd1]; exact he
      · intro e hm
        rcases List.mem_cons.mp hm with z | z
        · rw [z]; exact Nat.zero_le _
        · have := hle e z; omega
      · rw [show idx + 1 - 1 = idx by omega]
        have : (l.drop idx)[0]? = some 40 := by rw [hcr]; rfl
        rw [List.getElem?_drop, Nat.add_zero] at this
        rw [this]; rfl
    · rw [if_neg z] at he bad
      refine ifS_by (c = 41 ∧ 1 < (as.map (·.2)).length ∧ (fresh = false ∨ po = true)) (fun Qb Eb q => ?_) (fun z2 => ?_) (fun z2 => ?_)
      · simp! [ac, cps_S, sg1, S_eq, one_eq, len_S]
        have i1 : ((1 : Int) < as.length) = (1 < as.length) := by rw [eq_iff_iff]; omega
        refine ⟨by omega, bif_dec (fun z3 => ?_) fun z3 => ?_⟩
        · simp! [st.top, slen, i1]
          refine bif_dec (fun z4 => ?_) fun z4 => ?_
          · cases fresh with
            | false => simp! []; simpa [z3, z4] using q
            | true =>
              have i1 : 1 ≤ idx := by
                by_cases y : idx = 0
                · have := h0 y; omega
                · omega
              have hp1 := hpo rfl i1
              obtain ⟨b, hb⟩ : ∃ b, l[idx - 1]? = some b := ⟨_, List.getElem?_eq_getElem (by omega)⟩
              have ab : atI l ((idx : Int) - 1) = some b := by
                rw [show (idx : Int) - 1 = ((idx - 1 : Nat) : Int) by omega, atI_natI (show idx - 1 < l.length by omega)]
                rw [List.getElem?_eq_getElem (by omega)] at hb
                exact hb
              rw [hb] at hp1
              simp! [ab, cps_S, sg1, S_eq, one_eq, len_S]
              refine ⟨by omega, ?_⟩
              have : (some b = some 40) = (b = 40) := by simp
              simpa [z3, z4, hp1] using q
          · simp! []; simpa [z4] using q
        · simp! []; simpa [z3] using q
      · rw [if_pos z2] at he
        obtain ⟨a1, t1, a2, t2, as, rfl⟩ : ∃ a1 t1 a2 t2 as', as = (a1, t1) :: (a2, t2) :: as' := by
          match as, z2.2.1 with
          | (a1, t1) :: (a2, t2) :: as', _ => exact ⟨a1, t1, a2, t2, as', rfl⟩
        have stp := st.pop
        have top := st.top
        have e1 := stp.at' (a2, t2) List.mem_cons_self
        have a1s : a1 ≠ sa := st.ne (a1, t1) List.mem_cons_self
        have e2 : M' a1 = some (.lst t1) := st.at' (a1, t1) List.mem_cons_self
        have el : ((((a1, t1) :: (a2, t2) :: as).map fun e => D.ob e.1).reverse)[(((a1, t1) :: (a2, t2) :: as).map fun e => D.ob e.1).reverse.length - 1]? = some (.ob a1) := by
          rw [List.length_reverse, List.map_cons, List.length_cons, List.reverse_cons, Nat.add_sub_cancel, List.getElem?_append_right (by simp), List.length_reverse, Nat.sub_self]
          rfl
        have ed : (((a1, t1) :: (a2, t2) :: as).map fun e => D.ob e.1).reverse.dropLast = (((a2, t2) :: as).map fun e => D.ob e.1).reverse := by
          rw [List.map_cons, List.reverse_cons, List.dropLast_concat]
        have tl1 := hle (a1, t1) List.mem_cons_self
        have tl2 := hle (a2, t2) (List.mem_cons_of_mem _ List.mem_cons_self)
        have sta := stp.app (.tup t1)
        have la : atI (((a2, t2) :: as).map fun e => D.ob e.1).reverse (-1) = some (.ob a2) := last_at
        generalize hX : (((a1, t1) :: (a2, t2) :: as).map fun e => D.ob e.1).reverse = X at top el ed
        have stop := stp.top
        generalize hY : (((a2, t2) :: as).map fun e => D.ob e.1).reverse = Y at ed la stp sta e1 stop
        simp! [top, el, ed, mupd_ne a1s, e2, la, e1]
        refine ⟨by simp only at tl2; omega, hN (m - 1) _ _ (by omega) ⟨idx + 1, n, (a2, t2 ++ [.tup t1]) :: as, false, false, some (.tup t1), d5, by omega, by simp, sta, ?_, by omega, by simp, by simp only [List.length_cons] at hal ⊢; omega, ?_, fun z => absurd z (by omega), fun h => by cases h⟩⟩
        · rw [hd1]; exact he
        · intro e hm
          rcases List.mem_cons.mp hm with z | z
          · rw [z]
            simp only [List.length_append, List.length_cons, List.length_nil] at tl2 ⊢
            omega
          · have := hle e (List.mem_cons_of_mem _ (List.mem_cons_of_mem _ z)); omega
      · rw [if_neg z2] at he bad
        refine ifS_by (fresh = false ∧ 1 < (as.map (·.2)).length ∧ (c :: r).take 2 = [44, 32]) (fun Qb Eb q => ?_) (fun z3 => ?_) (fun z3 => ?_)
        · simp! []
          have i1 : ((1 : Int) < as.length) = (1 < as.length) := by rw [eq_iff_iff]; omega
          cases fresh with
          | true => simp! []; simpa using q
          | false =>
            have i2 : (idx : Int) + 2 = ((idx + 2 : Nat) : Int) := rfl
            have c2 : (l.drop idx).take (idx + 2 - idx) = (c :: r).take 2 := by rw [hcr, show idx + 2 - idx = 2 by omega]
            simp! [st.top, slen, i1]
            refine bif_dec (fun z4 => ?_) fun z4 => ?_
            · simp! [opSl, i2, cut_mid, c2, S_eq, len_S]
              refine ⟨by omega, ?_⟩
              simpa [z4] using q
            · simp! []; simpa [z4] using q
        · rw [if_pos z3] at he
          obtain ⟨rfl, hz, ht⟩ := z3
          obtain ⟨r2, rfl⟩ : ∃ r2, r = 32 :: r2 := by
            cases r with
            | nil => simp at ht
            | cons b r2 => simp at ht; exact ⟨r2, by rw [ht.2]⟩
          have rl := congrArg List.length hcr
          simp only [List.length_drop, List.length_cons] at rl
          simp! []
          refine hN (m - 2) _ _ (by omega) ⟨idx + 2, n, as, true, false, d4, d5, by omega, by simp, st, ?_, by omega, hne, hal, fun e hm => by have := hle e hm; omega, fun z => absurd z (by omega), fun _ _ => ?_⟩
          · rw [show l.drop (idx + 2) = r2 by rw [← List.drop_drop, hcr]; rfl]; exact he
          · rw [show idx + 2 - 1 = idx + 1 by omega]
            have : (l.drop idx)[1]? = some 32 := by rw [hcr]; rfl
            rw [List.getElem?_drop] at this
            rw [this]; rfl
        · rw [if_neg z3] at he bad
          refine ifS_by (fresh = true ∧ c ≠ 40) (fun Qb Eb q => ?_) (fun z4 => ?_) (fun z4 => ?_)
          · simp! []
            cases fresh with
            | false => simp! []; simpa using q
            | true =>
              simp! [ac, cps_S, sg1, S_eq, one_eq, len_S]
              refine ⟨by omega, ?_⟩
              simpa using q
          · rw [if_pos z4] at he bad
            obtain ⟨⟨a1, t1⟩, as, rfl⟩ : ∃ x as', as = x :: as' := by
              cases as with
              | nil => exact absurd rfl hne
              | cons x as' => exact ⟨x, as', rfl⟩
            simp! []
            refine ⟨l, idx, c, r, rfl, hcr, hl, fun d r' hp => ?_, fun hp => ?_⟩
            · obtain ⟨pf, ep, pne⟩ := plain_suffix hp
              have lp := congrArg List.length ep
              have rl := congrArg List.length hcr
              simp only [List.length_drop, List.length_cons, List.length_append] at rl lp
              have pl : 0 < pf.length := List.length_pos_iff.mpr pne
              have top := st.top
              have e1 := st.at' (a1, t1) List.mem_cons_self
              have la : atI (((a1, t1) :: as).map fun e => D.ob e.1).reverse (-1) = some (.ob a1) := last_at
              have tl1 := hle (a1, t1) List.mem_cons_self
              have sta := st.app d
              generalize hX : (((a1, t1) :: as).map fun e => D.ob e.1).reverse = X at top la
              simp! [top, la, e1]
              have hidx : l.drop (l.length - r'.length) = r' := by
                have e2 : l.drop idx = pf ++ r' := hcr.trans ep
                have e3 : l.length - r'.length = idx + pf.length := by omega
                rw [e3, ← List.drop_drop, e2, List.drop_left]
              refine ⟨by simp only at tl1; omega, hN (m - pf.length) _ _ (by omega) ⟨l.length - r'.length, n, (a1, t1 ++ [d]) :: as, false, false, d4, some d, by omega, rfl, sta, ?_, by omega, by simp, by simpa using hal, ?_, fun z => absurd z (by omega), fun h => by cases h⟩⟩
              · rw [hp] at he
                rw [hidx]
                exact he
              · intro e hm
                rcases List.mem_cons.mp hm with z | z
                · rw [z]
                  simp only [List.length_append, List.length_cons, List.length_nil] at tl1 ⊢
                  omega
                · have := hle e (List.mem_cons_of_mem _ z); omega
            · rw [hp] at bad
              exact bad rfl
          · rw [if_neg z4] at bad
            simp! []
            exact bad rfl
  · have hdr : l.drop idx = [] := List.drop_eq_nil_of_le (by omega)
    obtain ⟨n, rfl⟩ : ∃ k, n = k + 1 := ⟨n - 1, by omega⟩
    rw [hdr] at he bad
    simp only [rd] at he bad
    have slen := st.len
    have top := st.top
    simp only [to_nx, s_seq]
    refine ifS_by (¬ (as.length = 1 ∧ ∀ e ∈ as, e.2.length = 1)) (fun Qb Eb q => ?_) (fun z => ?_) (fun z => ?_)
    · have i1 : ((as.length : Int) = 1) = (as.length = 1) := by rw [eq_iff_iff]; omega
      simp! [top, slen, i1]
      by_cases z : as.length = 1
      · obtain ⟨⟨a1, t1⟩, rfl⟩ : ∃ x, as = [x] := List.length_eq_one_iff.mp z
        have e1 := st.at' (a1, t1) List.mem_cons_self
        have i2 : ((t1.length : Int) = 1) = (t1.length = 1) := by rw [eq_iff_iff]; omega
        simp only [List.map_cons, List.map_nil, List.reverse_cons, List.reverse_nil, List.nil_append] at top
        simp! [top, e1, i2, List.reverse_cons, List.reverse_nil]
        simpa using q
      · simp! [z]
        simpa [z] using q
    · have : oneS (as.map (·.2)) = none := by
        match as, z with
        | [], _ => rfl
        | [(a, [])], _ => rfl
        | [(a, [d])], z => exact absurd ⟨rfl, fun e he => by rw [List.mem_singleton.mp he]; rfl⟩ z
        | [(a, d :: e :: r)], _ => rfl
        | x :: y :: r, _ =>
          unfold oneS
          split
          · rename_i h; simp at h
          · rfl
      rw [this] at bad
      simp! []
      exact bad rfl
    · have z : as.length = 1 ∧ ∀ e ∈ as, e.2.length = 1 := Classical.not_not.mp z
      obtain ⟨⟨a1, t1⟩, rfl⟩ : ∃ x, as = [x] := List.length_eq_one_iff.mp z.1
      have z2 : t1.length = 1 := z.2 (a1, t1) List.mem_cons_self
      obtain ⟨d, rfl⟩ := List.length_eq_one_iff.mp z2
      have e1 := st.at' (a1, [d]) List.mem_cons_self
      simp only [List.map_cons, List.map_nil, List.reverse_cons, List.reverse_nil, List.nil_append] at top
      simp! [top, e1]
      exact hq d M' he st.keep
end K33

set_option maxHeartbeats 4000000
namespace K33
open PySem PySem.Spec PyProof.Rows L2 PL SX
open TL (numL tl joinL)
variable {P : Program} {w : World} {K : PySem.W.Frag} {mg : Str → Option Value} {base : Heap} {C_CellchainsError C_BadText v_read_integer v_read_data : Addr}
local macro_rules | `(tactic| simp! [$ls,*]) => `(tactic| simp only [to_nx, to_rt, to_bk, to_ct, to_ex, lp_nx, lp_rt, lp_bk, lp_ct, lp_ex, ret_nx, ret_rt, ret_ex, s_exK, s_bif1, s_bif0, s_optB, s_optE, s_nxD, s_ifK, s_asgN, s_asgT, s_asgL, b_nil, b_nm, b_tp, s_next, s_seq, s_drop, s_ret, s_retN, s_ifS, s_asg, s_brk, s_cont, s_put, s_put1, s_put2, s_put3, s_aug, s_augV, s_augK, s_augK2, s_bin, s_bin1, s_bin2, s_var, s_varK, s_C, s_cb, s_cbK, s_call, s_callK, s_m, s_m1, s_m2, s_nil, s_cons, s_cons1, s_cons2, s_tup, s_tupK, s_lst, s_lstK, s_truth, s_trK, s_tK, s_eK, s_cK, s_and, s_andK, s_or, s_orK, s_not, s_notK, s_ife, s_ifeK, s_andV, s_orV, s_andvK, s_orvK, s_andvK2, s_orvK2, s_notV, s_notvK, s_blK, s_neg, s_negK, s_sl, s_sl1, s_sl2, s_sl3, s_noPart, s_part, s_partK, s_rev, s_revK, s_for, s_forK, s_lc, s_lcK, s_yes, s_walk, s_walkT, s_walkS, s_walkA, s_walkL, s_walkR, s_rng1, s_rng2, s_rng1K, s_rng2K, s_callL, s_callLK, s_callLO, s_clK, s_raise, r_val, r_new, r_put, s_whK, s_lcY, s_lcT, s_lcE, s_cg, s_cgK, s_rng3, s_rng3K, s_lcB, s_lcS, wipeD, Pat.bind, seqOf, rg, s_dict0, s_sortSet, s_sortSetK, q_is_tuple, q_is_str, q_is_int, q_is_bool, q_is_list, q_isR, ofS_inj, String.reduceEq, q_eqI, q_neI, q_eqS, q_neS, decide_true, decide_false, Int.reduceEq, reduceCtorEq, i_NoneType_tuple, i_NoneType_str, i_NoneType_int, i_NoneType_bool, i_NoneType_list, i_bool_tuple, i_bool_str, i_bool_int, i_bool_bool, i_bool_list, i_int_tuple, i_int_str, i_int_int, i_int_bool, i_int_list, i_str_tuple, i_str_str, i_str_int, i_str_bool, i_str_list, i_tuple_tuple, i_tuple_str, i_tuple_int, i_tuple_bool, i_tuple_list, i_list_tuple, i_list_str, i_list_int, i_list_bool, i_list_list, i_dict_tuple, i_dict_str, i_dict_int, i_dict_bool, i_dict_list, tyN, startD, mupd_same, mupd_ne, ne_eq, not_false_eq_true, List.map_cons, List.map_nil, List.length_cons, List.length_nil, List.replicate_succ, List.replicate_zero, Nat.zero_add, Nat.reduceAdd, Nat.reduceSub, Int.cast_ofNat_Int, List.cons_append, List.nil_append, List.getElem?_cons_zero, List.getElem?_cons_succ, List.set_cons_zero, List.set_cons_succ, opIx, atI_cons, ixN, opPut, opAdd, opSub, opMul, opFdiv, opMod, opPow, opLt, opLe, opGt, opGe, opIs, opIsNot, D.isNon, truth, bLen, bAbs, bInt, bTuple, bList, isTy, mAppend, mExtend, mPop, Int.reduceLE, Int.reduceLT, Int.reduceToNat, Int.reduceNeg, Int.reduceNe, Option.bind_some, if_true, if_false, ite_true, ite_false, true_and, and_true, Bool.not_true, Bool.not_false, opIadd, Nat.reduceLT, Nat.reduceLeDiff, Int.ofNat_lt, $ls,*])
theorem digits_at {i : Int} (h0 : 0 ≤ i) (h1 : i < 10) : atI (Str.ofString "0123456789").cps.toList i = some (48 + i.toNat) := by
  rw [show (Str.ofString "0123456789").cps.toList = (List.range 10).map (48 + ·) by decide +kernel, atI_map', atI_get h0 (by simpa using h1)]
  simp
def sp_idrawn : DSp := fun ds M Q E => ∃ a b : Addr, ds = [.ob a] ∧ StAt M a b ∧ ∀ (n : Int) M', n.natAbs < 10 ^ 180 → StAt M' a b → Keep [a] M M' → Q (.tup [.int n, .str (S (W n))]) M'
theorem mono_idrawn : MonoSp sp_idrawn := by
  rintro ds M Q Q' E E' hQ hE ⟨a, b, h1, h2, h⟩
  exact ⟨a, b, h1, h2, fun n M' z1 z2 z3 => hQ _ _ (h n M' z1 z2 z3)⟩
theorem fn_idrawn (S0 : Src K mg "_law_integer_drawn" s__law_integer_drawn ["state"]) (G : GF K mg C_CellchainsError C_BadText v_read_integer v_read_data) (F__law_draw : Fn P w K mg base 1 "_law_draw" sp_draw []) : Fn P w K mg base 2 "_law_integer_drawn" sp_idrawn [] := by
  refine S0.fn mono_idrawn fun f fd F => fn_ok F sc__law_integer_drawn (fun ds M Q E h => by obtain ⟨a, b, rfl, _⟩ := h; rfl) ⟨_, fun cdv A outer s H E hr => have hu := hr.u200
    (xss_cons (xs_set 1 sc__law_integer_drawn.nd (xe_ix hu (xe_lst (n := 7) (xa_cons xe_int (xa_cons xe_int (xa_cons xe_int (xa_cons xe_int (xa_cons xe_int (xa_cons xe_int (xa_cons (xe_bin x_add xe_int (xe_call F__law_draw (hr.mono (by first | decide | omega)) bx_takes (by rfl) (xa_cons (xe_var 0) (xa_cons xe_int xa_nil)))) xa_nil)))))))) (xe_call F__law_draw (hr.mono (by first | decide | omega)) bx_takes (by rfl) (xa_cons (xe_var 0) (xa_cons xe_int xa_nil)))))
 (xss_cons (xs_set 2 sc__law_integer_drawn.nd (xe_call F__law_draw (hr.mono (by first | decide | omega)) bx_takes (by rfl) (xa_cons (xe_var 0) (xa_cons xe_int xa_nil))))
 (xss_cons (xs_set 3 sc__law_integer_drawn.nd xe_str)
 (xss_cons (xs_set 4 sc__law_integer_drawn.nd xe_int)
 (xss_cons (xs_for (p := .nm 5) bx_passes rfl (xi_range1 (by rfl) G.range (xa_cons (xe_var 1) xa_nil)) (xg_name 5 sc__law_integer_drawn.nd)
 (xss_cons (xs_set 6 sc__law_integer_drawn.nd (xe_call F__law_draw (hr.mono (by first | decide | omega)) bx_takes (by rfl) (xa_cons (xe_var 0) (xa_cons xe_int xa_nil))))
 (xss_cons (xs_if (xt_cmp (x_eq hu) (xe_var 2) xe_int (nomark _) bl_eq)
 (xss_one (xs_set 6 sc__law_integer_drawn.nd xe_int))
 (xss_one (xs_if (xt_cmp (x_eq hu) (xe_var 2) xe_int (nomark _) bl_eq)
 (xss_one (xs_set 6 sc__law_integer_drawn.nd (xe_callTy c_int (by rfl) G.int (by decide +kernel) (xa_cons (xe_cmp (x_eq hu) (xe_var 5) xe_int (nomark _)) xa_nil))))
 xss_nil)))
 (xss_cons (xs_if (xt_wh (xw_and (xt_cmp (x_eq hu) (xe_var 5) xe_int (nomark _) bl_eq) (xw_and1 (xt_cmp (x_eq hu) (xe_var 6) xe_int (nomark _) bl_eq))))
 (xss_one (xs_set 6 sc__law_integer_drawn.nd (xe_callTy c_int (by rfl) G.int (by decide +kernel) (xa_cons (xe_cmp x_gt (xe_var 1) xe_int (nomark _)) xa_nil))))
 xss_nil)
 (xss_cons (xs_set 3 sc__law_integer_drawn.nd (xe_bin x_add (xe_var 3) (xe_ix hu xe_str (xe_var 6))))
 (xss_one (xs_set 4 sc__law_integer_drawn.nd (xe_bin x_add (xe_bin x_mul xe_int (xe_var 4)) (xe_var 6)))))))))
 (xss_cons (xs_if (xt_wh (xw_and (xt_cmp x_gt (xe_var 4) xe_int (nomark _) bl_gt) (xw_and1 (xt_cmp (x_eq hu) (xe_call F__law_draw (hr.mono (by first | decide | omega)) bx_takes (by rfl) (xa_cons (xe_var 0) (xa_cons xe_int xa_nil))) xe_int (nomark _) bl_eq))))
 (xss_one (xs_ret (xe_tup (n := 2) (xa_cons (xe_neg (xe_var 4)) (xa_cons (xe_bin x_add xe_str (xe_var 3)) xa_nil)))))
 xss_nil)
 (xss_one (xs_ret (xe_tup (n := 2) (xa_cons (xe_var 4) (xa_cons (xe_var 3) xa_nil))))))))))), fun ds M Q E h => ?_⟩
  obtain ⟨a, b, rfl, hs, h⟩ := h
  have em : Str.ofString "-" = S [45] := by decide +kernel
  have e0 : Str.ofString "" = S [] := by decide +kernel
  have sg1 : ∀ c : Nat, (⟨#[c]⟩ : Str) = S [c] := fun _ => rfl
  have sz : (16777216 : Nat) = sizeLine := sizeLine_eq.symm
  simp! []
  refine ⟨a, b, 180, rfl, hs, by decide, by decide, fun r1 M1 r10 r11 hs1 k1 => ?_⟩
  simp! []
  intro p hp
  have hpa := hs1.ne hp
  refine ⟨a, b, 7, rfl, hs1.new hp, by decide, by decide, fun r2 M2 r20 r21 hs2 k2 => ?_⟩
  have ep := k2 _ _ mupd_same (by simpa using hpa.1)
  obtain ⟨many, hm, hm1, hm2⟩ : ∃ many : Nat, atI [D.int 1, D.int 2, D.int 5, D.int 63, D.int 64, D.int 65, D.int (1 + r1)] r2 = some (.int many) ∧ 1 ≤ many ∧ many ≤ 180 := by
    have : r2 = 0 ∨ r2 = 1 ∨ r2 = 2 ∨ r2 = 3 ∨ r2 = 4 ∨ r2 = 5 ∨ r2 = 6 := by omega
    rcases this with rfl | rfl | rfl | rfl | rfl | rfl | rfl
    · exact ⟨1, rfl, by decide, by decide⟩
    · exact ⟨2, rfl, by decide, by decide⟩
    · exact ⟨5, rfl, by decide, by decide⟩
    · exact ⟨63, rfl, by decide, by decide⟩
    · exact ⟨64, rfl, by decide, by decide⟩
    · exact ⟨65, rfl, by decide, by decide⟩
    · exact ⟨(1 + r1).toNat, by rw [show (((1 + r1).toNat : Nat) : Int) = 1 + r1 by omega]; rfl, by omega, by omega⟩
  simp only [s_bin2, opIx, ep, hm]
  simp! []
  refine ⟨a, b, 4, rfl, hs2, by decide, by decide, fun pick M3 _ _ hs3 k3 => ?_⟩
  have k : Keep [a] M M3 := ((k1.trans (Keep.new hp)).trans k2).trans k3
  simp! [e0]
  refine ⟨by omega, ?_⟩
  refine loop_inv (fun i : Nat => D.int (0 + (i : Int))) (fun rest e M' => ∃ (t : List Nat) (d5 d6 : Option D), rest = List.range' t.length (many - t.length) ∧ t.length ≤ many ∧ e = [some (.ob a), some (.int many), some (.int pick), some (.str (S t)), some (.int (dval t)), d5, d6] ∧ t.all isD = true ∧ (t.head? = some 48 → many = 1) ∧ StAt M' a b ∧ Keep [a] M M')
    (fun _ _ _ _ => trivial) ?_ ?_ (List.range _) _ _ ⟨[], none, none, by rw [List.range_eq_range', Int.toNat_natCast]; rfl, Nat.zero_le _, rfl, rfl, (fun h => by cases h), hs3, k⟩
  · rintro x rest e M4 N ⟨t, d5, d6, e1, ht, rfl, hd, h48, hs4, k4⟩ hN
    have hlt : t.length < many := by
      by_cases z : many - t.length = 0
      · rw [z] at e1; cases e1
      · omega
    obtain ⟨n, en⟩ : ∃ n, many - t.length = n + 1 := ⟨many - t.length - 1, by omega⟩
    rw [en, List.range'_succ] at e1
    injection e1 with ex er2
    subst ex
    simp! []
    refine ⟨a, b, 10, rfl, hs4, by decide, by decide, fun dg M5 g0 g1 hs5 k5 => ?_⟩
    simp! [Int.zero_add]
    refine bif_midD (fun e M' => (∃ g : Int, 0 ≤ g ∧ g < 10 ∧ e = [some (.ob a), some (.int many), some (.int pick), some (.str (S t)), some (.int (dval t)), some (.int (t.length : Nat)), some (.int g)]) ∧ M' = M5) (fun _ N2 hN2 => ?_) (fun _ N2 hN2 => ?_) ?_
    · simp! []
      exact hN2 _ _ ⟨⟨9, by decide, by decide, rfl⟩, rfl⟩
    · simp! []
      refine bif_dec (fun _ => ?_) fun _ => ?_
      · simp! []
        refine hN2 _ _ ⟨⟨_, ?_, ?_, rfl⟩, rfl⟩ <;> split <;> decide
      · simp! []
        exact hN2 _ _ ⟨⟨dg, g0, g1, rfl⟩, rfl⟩
    rintro e M6 ⟨⟨g, g2, g3, rfl⟩, rfl⟩
    refine seq_mid (fun e M' => (∃ g : Int, 0 ≤ g ∧ g < 10 ∧ (t = [] → g = 0 → many = 1) ∧ e = [some (.ob a), some (.int many), some (.int pick), some (.str (S t)), some (.int (dval t)), some (.int (t.length : Nat)), some (.int g)]) ∧ M' = M6) (fun N2 hN2 => ?_) ?_
    · simp! []
      refine bif_dec (fun z => ?_) fun z => ?_
      · simp! []
        refine bif_dec (fun z2 => ?_) fun z2 => ?_
        · simp! []
          by_cases y : (1 : Int) < many
          · simp! [y]
            exact hN2 _ _ ⟨⟨1, by decide, by decide, (fun _ h => by cases h), rfl⟩, rfl⟩
          · simp! [y]
            exact hN2 _ _ ⟨⟨0, by decide, by decide, (fun _ _ => by omega), rfl⟩, rfl⟩
        · simp! []
          exact hN2 _ _ ⟨⟨g, g2, g3, (fun _ h => absurd h z2), rfl⟩, rfl⟩
      · simp! []
        exact hN2 _ _ ⟨⟨g, g2, g3, (fun h => absurd (by rw [h]; rfl) z), rfl⟩, rfl⟩
    rintro e M6 ⟨⟨g, g2, g3, g4, rfl⟩, rfl⟩
    simp! [digits_at g2 g3, len_S, sg1, S_cat]
    have eg : (48 + g.toNat - 48 : Nat) = g.toNat := by omega
    refine ⟨by decide +kernel, by omega, IntMulOk.of_left (intBits_le_64 (by decide) (by decide)), hN _ _ ⟨t ++ [48 + g.toNat], some (.int (t.length : Nat)), some (.int g), ?_, by simp only [List.length_append, List.length_cons, List.length_nil]; omega, ?_, ?_, ?_, hs5, k4.trans k5⟩⟩
    · rw [er2, List.length_append, List.length_singleton, show many - (t.length + 1) = n by omega]
    · have : ((dval (t ++ [48 + g.toNat]) : Nat) : Int) = 10 * (dval t : Int) + g := by
        rw [dval_app, dval_one, eg, List.length_singleton, Nat.pow_one]
        omega
      rw [this]
    · rw [List.all_append, hd]
      simp
      omega
    · intro hh
      cases t with
      | nil =>
        have : 48 + g.toNat = 48 := by simpa using hh
        exact g4 rfl (by omega)
      | cons x t => exact h48 (by simpa using hh)
  · rintro e M4 ⟨t, d5, d6, e1, ht, rfl, hd, h48, hs4, k4⟩
    have tl : t.length = many := by
      have := congrArg List.length e1
      simp at this
      omega
    have tne : t ≠ [] := fun z => by rw [z] at tl; simp at tl; omega
    have can : Can t := ⟨hd, tne, fun z => by
      have := h48 z
      obtain ⟨c, rfl⟩ := List.length_eq_one_iff.mp (by omega : t.length = 1)
      simpa using z⟩
    have cn := can_num t can
    have dl := dval_lt hd
    have db : dval t < 10 ^ 180 := Nat.lt_of_lt_of_le dl (Nat.pow_le_pow_right (by decide) (by omega))
    have w0 : W (dval t) = t := by
      unfold W
      rw [if_neg (by omega), Int.toNat_natCast]
      exact cn
    have ret : ∀ M', StAt M' a b → Keep [a] M M' → Q (.tup [.int (dval t), .str (S t)]) M' := fun M' s1 k1 => by
      have := h (dval t) M' (by rw [Int.natAbs_natCast]; exact db) s1 k1
      rwa [w0] at this
    simp! []
    refine bif_dec (fun z => ?_) fun z => ?_
    · simp! []
      refine ⟨a, b, 3, rfl, hs4, by decide, by decide, fun r M5 _ _ hs5 k5 => ?_⟩
      simp! []
      refine bif_dec (fun _ => ?_) fun _ => ?_
      · simp! [em, S_cat, len_S]
        have wn : W (-(dval t : Int)) = 45 :: t := by
          unfold W
          rw [if_pos (by omega), Int.neg_neg, Int.toNat_natCast]
          exact congrArg _ cn
        have := h (-(dval t : Int)) M5 (by rw [Int.natAbs_neg, Int.natAbs_natCast]; exact db) hs5 (k4.trans k5)
        rw [wn] at this
        exact ⟨by omega, this⟩
      · simp! []
        exact ret _ hs5 (k4.trans k5)
    · simp! []
      exact ret _ hs4 k4
end K33

set_option maxHeartbeats 4000000
namespace K33
open PySem PySem.Spec PyProof.Rows L2 PL SX
open TL (numL tl joinL)
variable {P : Program} {w : World} {K : PySem.W.Frag} {mg : Str → Option Value} {base : Heap} {C_CellchainsError C_BadText v_read_integer v_read_data : Addr}
local macro_rules | `(tactic| simp! [$ls,*]) => `(tactic| simp only [to_nx, to_rt, to_bk, to_ct, to_ex, lp_nx, lp_rt, lp_bk, lp_ct, lp_ex, ret_nx, ret_rt, ret_ex, s_exK, s_bif1, s_bif0, s_optB, s_optE, s_nxD, s_ifK, s_asgN, s_asgT, s_asgL, b_nil, b_nm, b_tp, s_next, s_seq, s_drop, s_ret, s_retN, s_ifS, s_asg, s_brk, s_cont, s_put, s_put1, s_put2, s_put3, s_aug, s_augV, s_augK, s_augK2, s_bin, s_bin1, s_bin2, s_var, s_varK, s_C, s_cb, s_cbK, s_call, s_callK, s_m, s_m1, s_m2, s_nil, s_cons, s_cons1, s_cons2, s_tup, s_tupK, s_lst, s_lstK, s_truth, s_trK, s_tK, s_eK, s_cK, s_and, s_andK, s_or, s_orK, s_not, s_notK, s_ife, s_ifeK, s_andV, s_orV, s_andvK, s_orvK, s_andvK2, s_orvK2, s_notV, s_notvK, s_blK, s_neg, s_negK, s_sl, s_sl1, s_sl2, s_sl3, s_noPart, s_part, s_partK, s_rev, s_revK, s_for, s_forK, s_lc, s_lcK, s_yes, s_walk, s_walkT, s_walkS, s_walkA, s_walkL, s_walkR, s_rng1, s_rng2, s_rng1K, s_rng2K, s_callL, s_callLK, s_callLO, s_clK, s_raise, r_val, r_new, r_put, s_whK, s_lcY, s_lcT, s_lcE, s_cg, s_cgK, s_rng3, s_rng3K, s_lcB, s_lcS, wipeD, Pat.bind, seqOf, rg, s_dict0, s_sortSet, s_sortSetK, q_is_tuple, q_is_str, q_is_int, q_is_bool, q_is_list, q_isR, ofS_inj, String.reduceEq, q_eqI, q_neI, q_eqS, q_neS, decide_true, decide_false, Int.reduceEq, reduceCtorEq, i_NoneType_tuple, i_NoneType_str, i_NoneType_int, i_NoneType_bool, i_NoneType_list, i_bool_tuple, i_bool_str, i_bool_int, i_bool_bool, i_bool_list, i_int_tuple, i_int_str, i_int_int, i_int_bool, i_int_list, i_str_tuple, i_str_str, i_str_int, i_str_bool, i_str_list, i_tuple_tuple, i_tuple_str, i_tuple_int, i_tuple_bool, i_tuple_list, i_list_tuple, i_list_str, i_list_int, i_list_bool, i_list_list, i_dict_tuple, i_dict_str, i_dict_int, i_dict_bool, i_dict_list, tyN, startD, mupd_same, mupd_ne, ne_eq, not_false_eq_true, List.map_cons, List.map_nil, List.length_cons, List.length_nil, List.replicate_succ, List.replicate_zero, Nat.zero_add, Nat.reduceAdd, Nat.reduceSub, Int.cast_ofNat_Int, List.cons_append, List.nil_append, List.getElem?_cons_zero, List.getElem?_cons_succ, List.set_cons_zero, List.set_cons_succ, opIx, atI_cons, ixN, opPut, opAdd, opSub, opMul, opFdiv, opMod, opPow, opLt, opLe, opGt, opGe, opIs, opIsNot, D.isNon, truth, bLen, bAbs, bInt, bTuple, bList, isTy, mAppend, mExtend, mPop, Int.reduceLE, Int.reduceLT, Int.reduceToNat, Int.reduceNeg, Int.reduceNe, Option.bind_some, if_true, if_false, ite_true, ite_false, true_and, and_true, Bool.not_true, Bool.not_false, opIadd, Nat.reduceLT, Nat.reduceLeDiff, Int.ofNat_lt, $ls,*])
def sp_tdrawn : DSp := fun ds M Q E => ∃ a b : Addr, ds = [.ob a] ∧ StAt M a b ∧ ∀ (l : List Nat) M', l.all plainc = true → l.length ≤ 5 → StAt M' a b → Keep [a] M M' → Q (.tup [.str (S l), .str (S (39 :: (l ++ [39])))]) M'
theorem mono_tdrawn : MonoSp sp_tdrawn := by
  rintro ds M Q Q' E E' hQ hE ⟨a, b, h1, h2, h⟩
  exact ⟨a, b, h1, h2, fun n M' z1 z2 z3 z4 => hQ _ _ (h n M' z1 z2 z3 z4)⟩
theorem signs_plain : (Str.ofString " !#$&()*+,-./019:;<=>?@AZ[]^_az{|}~").cps.toList.all plainc = true := by decide +kernel
theorem signs_few : (Str.ofString " !#$&()*+,-./019:;<=>?@AZ[]^_az{|}~").cps.toList.length = 35 := by decide +kernel
theorem join_ones : ∀ l : List Nat, joinL [] (l.map fun c => [c]) = l := fun l => by
  rw [join_nil]
  induction l with
  | nil => rfl
  | cons c r ih => simp [ih]
theorem fn_tdrawn (S0 : Src K mg "_law_text_drawn" s__law_text_drawn ["state"]) (G : GF K mg C_CellchainsError C_BadText v_read_integer v_read_data) (F__law_draw : Fn P w K mg base 1 "_law_draw" sp_draw []) (F__law_one_of : Fn P w K mg base 2 "_law_one_of" sp_one_of []) : Fn P w K mg base 3 "_law_text_drawn" sp_tdrawn [] := by
  refine S0.fn mono_tdrawn fun f fd F => fn_ok F sc__law_text_drawn (fun ds M Q E h => by obtain ⟨a, b, rfl, _⟩ := h; rfl) ⟨_, fun cdv A outer s H E hr => have hu := hr.u200
    (xss_cons (xs_set 1 sc__law_text_drawn.nd xe_str)
 (xss_cons (xs_set 2 sc__law_text_drawn.nd (xe_bm PySem.F.plainAttrs_str PySem.F.slot_str_join PySem.F.type_str_join m_join xe_str (xa_cons (xe_lc (own := [("k", 3)]) (p := .nm 3) rfl sc__law_text_drawn.nd (xi_range1 (by rfl) G.range (xa_cons (xe_call F__law_draw (hr.mono (by first | decide | omega)) bx_takes (by rfl) (xa_cons (xe_var 0) (xa_cons xe_int xa_nil))) xa_nil)) (blkOk_by (by show blkC ["state", "signs", "text", "k"] (defScope s__law_text_drawn) _ _ = true; decide +kernel)) (fun _ _ _ _ _ => (xg_name 3 sc__law_text_drawn.nd)) (fun _ _ _ _ _ => xts_nil) (fun _ _ _ _ _ => (xe_call F__law_one_of (hr.mono (by first | decide | omega)) takes0 (by rfl) (xa_cons (xe_var 0) (xa_cons (xe_var 1) xa_nil))))) xa_nil)))
 (xss_one (xs_ret (xe_tup (n := 2) (xa_cons (xe_var 2) (xa_cons (xe_bin x_add (xe_bin x_add xe_str (xe_var 2)) xe_str) xa_nil))))))), fun ds M Q E h => ?_⟩
  obtain ⟨a, b, rfl, hs, h⟩ := h
  have eq : Str.ofString "'" = S [39] := by decide +kernel
  have e0 : Str.ofString "" = S [] := by decide +kernel
  have sz : (16777216 : Nat) = sizeLine := sizeLine_eq.symm
  simp! []
  refine ⟨a, b, 6, rfl, hs, by decide, by decide, fun m M1 m0 m6 hs1 k1 => ?_⟩
  simp! []
  refine ⟨by omega, fun p hp => ?_⟩
  refine lc_rule (fun i : Nat => D.int (0 + (i : Int))) (fun _ o => ∃ c : Nat, plainc c = true ∧ o = some (.str (S [c]))) (fun M => StAt M a b) [a] (List.range m.toNat) hp (by simpa using (hs1.ne hp).1) hs1 (fun M' o hj => hj.put (hs1.ne hp).1 (hs1.ne hp).2) (fun _ _ => trivial) (by rw [List.length_range]; omega)
      (fun i hi M9 N9 sk hs9 k9 hy _ => ?_) fun M9 ds ho hs9 k9 e9 => ?_
  · simp! []
    refine ⟨a, b, .str (Str.ofString " !#$&()*+,-./019:;<=>?@AZ[]^_az{|}~"), _, rfl, hs9, rfl, rfl, ?_, ?_, fun d M10 hd hs10 k10 => ?_⟩
    · intro z
      have := congrArg List.length z
      simp only [PL.signs, List.length_map, signs_few, List.length_nil] at this
      cases this
    · simp only [PL.signs, List.length_map, signs_few]; decide
    · obtain ⟨c, hc, rfl⟩ := List.mem_map.mp hd
      exact hy _ _ ⟨c, List.all_eq_true.mp signs_plain c hc, rfl⟩ hs10 k10
  · have hlen := ho.lenEq (fun _ ⟨_, _, z⟩ => by cases z)
    obtain ⟨l, rfl, hl⟩ : ∃ l : List Nat, ds = ((l.map fun c => [c]).map S).map D.str ∧ l.all plainc = true := by
      have := ho.all (P := fun d => ∃ c : Nat, plainc c = true ∧ d = .str (S [c])) fun _ d ⟨c, h1, h2⟩ => ⟨c, h1, Option.some.inj h2⟩
      clear ho hlen e9
      induction ds with
      | nil => exact ⟨[], rfl, rfl⟩
      | cons d ds ih =>
        obtain ⟨l, h1, h2⟩ := ih fun d hd => this d (List.mem_cons_of_mem _ hd)
        obtain ⟨c, h3, h4⟩ := this d List.mem_cons_self
        exact ⟨c :: l, by rw [h1, h4]; rfl, by rw [List.all_cons, h3, h2]; rfl⟩
    simp only [List.length_map, List.length_range] at hlen
    simp! [mJoin, seqS, lstAt, e9, strsOf_map, Option.bind_some, e0, eq]
    rw [lens, join_S, join_ones]
    have sm : ((l.map fun c => [c]).map (·.length)).sum = l.length := by
      clear hlen hl e9 ho
      induction l with
      | nil => rfl
      | cons c r ih => simp only [List.map_cons, List.sum_cons, ih, List.length_cons, List.length_nil]; omega
    rw [sm]
    simp only [S_cat, len_S, List.length_map, List.length_append, List.length_cons, List.length_nil]
    refine ⟨by omega, by omega, by omega, ?_⟩
    exact h l M9 hl (by omega) hs9 (k1.trans k9)
/-- how long the texts of drawn data are -/
def mostL : Nat → Nat
  | 0 => 200
  | n + 1 => 4 * (mostL n + 2) + 2
theorem mostL_mono (n : Nat) : 200 ≤ mostL n := by
  induction n with
  | zero => exact Nat.le_refl _
  | succ n ih => simp only [mostL]; omega
structure Drawn (n : Nat) (d : D) : Prop where
  good : good d = true
  fine : fine d = true
  dat : d.dat = true
  dp : d.dp ≤ n
  len : (wr d).length ≤ mostL n
def sp_ddrawn (n : Nat) : DSp := fun ds M Q E => ∃ (a b : Addr) (k : Nat), ds = [.ob a, .int k] ∧ k < n ∧ k ≤ 6 ∧ StAt M a b ∧ ∀ (d : D) M', Drawn k d → StAt M' a b → Keep [a] M M' → Q (.tup [d, .str (S (wr d))]) M'
theorem mono_ddrawn {n : Nat} : MonoSp (sp_ddrawn n) := by
  rintro ds M Q Q' E E' hQ hE ⟨a, b, k, h1, h2, h3, h4, h⟩
  exact ⟨a, b, k, h1, h2, h3, h4, fun n M' z1 z2 z3 => hQ _ _ (h n M' z1 z2 z3)⟩
theorem pow180 : (10 : Nat) ^ 180 < 10 ^ 500 := Nat.pow_lt_pow_right (by decide) (by decide)
theorem drawn_int {k : Nat} {n : Int} (h : n.natAbs < 10 ^ 180) : Drawn k (.int n) := by
  have l : (W n).length ≤ 181 := by
    unfold W
    split
    · have := TL.numL_len (n := (-n).toNat) (k := 180) (by decide) (by rw [show (-n).toNat = n.natAbs by omega]; exact h)
      simp only [List.length_cons]
      omega
    · have := TL.numL_len (n := n.toNat) (k := 180) (by decide) (by rw [show n.toNat = n.natAbs by omega]; exact h)
      omega
  have := mostL_mono k
  exact ⟨rfl, by simp only [fine, decide_eq_true_eq]; exact Nat.lt_trans h pow180, rfl, Nat.zero_le _, by simp only [wr]; omega⟩
theorem drawn_str {k : Nat} {l : List Nat} (h : l.all plainc = true) (hl : l.length ≤ 5) : Drawn k (.str (S l)) := by
  have := mostL_mono k
  exact ⟨h, rfl, rfl, Nat.zero_le _, by simp only [wr, List.length_cons, List.length_append, List.length_nil]; have : (tl (S l)).length = l.length := rfl; omega⟩
theorem drawn_tup {k : Nat} {ds : List D} (h : ∀ d ∈ ds, Drawn k d) (hl : ds.length ≤ 4) : Drawn (k + 1) (.tup ds) := by
  have g : ∀ {ds : List D}, (∀ d ∈ ds, Drawn k d) → goodL ds = true ∧ fineL ds = true ∧ datL ds = true ∧ dpL ds ≤ k ∧ ((wrL ds).map (·.length)).sum ≤ ds.length * mostL k := by
    intro ds
    induction ds with
    | nil => intro _; exact ⟨rfl, rfl, rfl, Nat.zero_le _, by simp [wrL]⟩
    | cons d ds ih =>
      intro h
      obtain ⟨h1, h2, h3, h4, h5⟩ := ih fun d hd => h d (List.mem_cons_of_mem _ hd)
      obtain ⟨g1, g2, g3, g4, g5⟩ := h d List.mem_cons_self
      refine ⟨by simp [goodL, g1, h1], by simp [fineL, g2, h2], by simp [datL, g3, h3], by simp only [dpL]; omega, ?_⟩
      simp only [wrL, List.map_cons, List.sum_cons, List.length_cons, Nat.add_mul, Nat.one_mul]
      omega
  obtain ⟨h1, h2, h3, h4, h5⟩ := g h
  refine ⟨by simpa [K33.good] using h1, by simpa [K33.fine] using h2, by simp only [D.dat, h3, Bool.and_true, decide_eq_true_eq]; omega, by simp only [D.dp]; omega, ?_⟩
  simp only [wr, List.length_cons, List.length_append, List.length_nil, mostL]
  have hm : ds.length * mostL k ≤ 4 * mostL k := Nat.mul_le_mul_right _ hl
  cases ds with
  | nil => simp [wrL, joinL]
  | cons d r =>
    have := joinL_len [44, 32] (wrL (d :: r)) (by simp [wrL])
    have wl : (wrL (d :: r)).length = (d :: r).length := by rw [wrL_map, List.length_map]
    simp only [List.length_cons, List.length_nil] at this wl hl hm h5
    rw [wl] at this
    omega
theorem fn_ddrawn (S0 : Src K mg "_law_datum_drawn" s__law_datum_drawn ["state", "depth"]) (G : GF K mg C_CellchainsError C_BadText v_read_integer v_read_data) (F__law_draw : Fn P w K mg base 1 "_law_draw" sp_draw []) (F__law_integer_drawn : Fn P w K mg base 2 "_law_integer_drawn" sp_idrawn [])
    (F__law_text_drawn : Fn P w K mg base 3 "_law_text_drawn" sp_tdrawn []) : ∀ n, Fn P w K mg base (n + 4) "_law_datum_drawn" (sp_ddrawn n) [] := by
  intro n
  induction n with
  | zero => exact S0.fn mono_ddrawn fun f fd F => fn_none fun ds M Q E ⟨_, _, _, _, h, _⟩ => by omega
  | succ n F__law_datum_drawn =>
  refine S0.fn mono_ddrawn fun f fd F => fn_ok F sc__law_datum_drawn (fun ds M Q E h => by obtain ⟨a, b, k, rfl, _⟩ := h; rfl) ⟨_, fun cdv A outer s H E hr => have hu := hr.u200
    (xss_cons (xs_set 2 sc__law_datum_drawn.nd (xe_call F__law_draw (hr.mono (by first | decide | omega)) bx_takes (by rfl) (xa_cons (xe_var 0) (xa_cons xe_int xa_nil))))
 (xss_cons (xs_if (xt_wh (xw_or (xt_cmp (x_eq hu) (xe_var 1) xe_int (nomark _) bl_eq) (xw_or1 (xt_cmp (x_eq hu) (xe_var 2) xe_int (nomark _) bl_eq))))
 (xss_one (xs_ret (xe_call F__law_integer_drawn (hr.mono (by first | decide | omega)) bx_takes (by rfl) (xa_cons (xe_var 0) xa_nil))))
 xss_nil)
 (xss_cons (xs_if (xt_cmp (x_eq hu) (xe_var 2) xe_int (nomark _) bl_eq)
 (xss_one (xs_ret (xe_call F__law_text_drawn (hr.mono (by first | decide | omega)) bx_takes (by rfl) (xa_cons (xe_var 0) xa_nil))))
 xss_nil)
 (xss_cons (xs_setLc 3 (own := [("k", 4)]) (p := .nm 4) rfl sc__law_datum_drawn.nd rfl (sw_true rfl rfl rfl (by decide +kernel)) (xi_range1 (by rfl) G.range (xa_cons (xe_call F__law_draw (hr.mono (by first | decide | omega)) bx_takes (by rfl) (xa_cons (xe_var 0) (xa_cons xe_int xa_nil))) xa_nil)) (blkOk_by (by show blkC ["state", "depth", "pick", "rows", "k", "datum", "text"] (defScope s__law_datum_drawn) _ _ = true; decide +kernel)) (fun _ _ _ _ _ => (xg_name 4 sc__law_datum_drawn.nd)) (fun _ _ _ _ _ => xts_nil) (fun _ _ _ _ _ => (xe_call F__law_datum_drawn (hr.mono (by first | decide | omega)) takes0 (by rfl) (xa_cons (xe_var 0) (xa_cons (xe_bin x_sub (xe_var 1) xe_int) xa_nil)))))
 (xss_one (xs_ret (xe_tup (n := 2) (xa_cons (xe_callTy c_tuple (by rfl) G.tuple (by decide +kernel) (xa_cons (xe_lc (own := [("datum", 5), ("text", 6)]) (p := .tp [.nm 5, .nm 6]) rfl sc__law_datum_drawn.nd (xi_walk (xe_var 3)) (blkOk_by (by show blkC ["state", "depth", "pick", "rows", "k", "datum", "text"] (defScope s__law_datum_drawn) _ _ = true; decide +kernel)) (fun _ _ _ _ _ => (xg_tup rfl (xgs_cons (xg_name 5 sc__law_datum_drawn.nd) (xgs_cons (xg_name 6 sc__law_datum_drawn.nd) xgs_nil)))) (fun _ _ _ _ _ => xts_nil) (fun _ _ _ _ _ => (xe_var 5))) xa_nil)) (xa_cons (xe_bin x_add (xe_bin x_add xe_str (xe_bm PySem.F.plainAttrs_str PySem.F.slot_str_join PySem.F.type_str_join m_join xe_str (xa_cons (xe_lc (own := [("datum", 5), ("text", 6)]) (p := .tp [.nm 5, .nm 6]) rfl sc__law_datum_drawn.nd (xi_walk (xe_var 3)) (blkOk_by (by show blkC ["state", "depth", "pick", "rows", "k", "datum", "text"] (defScope s__law_datum_drawn) _ _ = true; decide +kernel)) (fun _ _ _ _ _ => (xg_tup rfl (xgs_cons (xg_name 5 sc__law_datum_drawn.nd) (xgs_cons (xg_name 6 sc__law_datum_drawn.nd) xgs_nil)))) (fun _ _ _ _ _ => xts_nil) (fun _ _ _ _ _ => (xe_var 6))) xa_nil))) xe_str) xa_nil))))))))), fun ds M Q E h => ?_⟩
  obtain ⟨a, b, dep, rfl, hn, h6, hs, h⟩ := h
  have eo : Str.ofString "(" = S [40] := by decide +kernel
  have ec : Str.ofString ")" = S [41] := by decide +kernel
  have ecm : Str.ofString ", " = S [44, 32] := by decide +kernel
  have sz : (16777216 : Nat) = sizeLine := sizeLine_eq.symm
  simp! []
  refine ⟨a, b, 6, rfl, hs, by decide, by decide, fun pick M1 _ _ hs1 k1 => ?_⟩
  simp! []
  refine bif_dec (fun _ => ?_) fun z0 => ?_
  · simp! []
    exact ⟨a, b, rfl, hs1, fun n M' z1 z2 z3 => h (.int n) M' (drawn_int z1) z2 (k1.trans z3)⟩
  simp! []
  refine bif_dec (fun _ => ?_) fun _ => ?_
  · simp! []
    exact ⟨a, b, rfl, hs1, fun n M' z1 z2 z3 => h (.int n) M' (drawn_int z1) z2 (k1.trans z3)⟩
  simp! []
  refine bif_dec (fun _ => ?_) fun _ => ?_
  · simp! []
    exact ⟨a, b, rfl, hs1, fun l M' z1 z2 z3 z4 => h (.str (S l)) M' (drawn_str z1 z2) z3 (k1.trans z4)⟩
  simp! []
  refine ⟨a, b, 5, rfl, hs1, by decide, by decide, fun m M2 m0 m5 hs2 k2 => ?_⟩
  simp! []
  refine ⟨by omega, fun p hp => ?_⟩
  obtain ⟨dep, rfl⟩ : ∃ j, dep = j + 1 := ⟨dep - 1, by omega⟩
  refine lc_rule (fun i : Nat => D.int (0 + (i : Int))) (fun _ o => ∃ d : D, Drawn dep d ∧ o = some (.tup [d, .str (S (wr d))])) (fun M => StAt M a b) [a] (List.range m.toNat) hp (by simpa using (hs2.ne hp).1) hs2 (fun M' o hj => hj.put (hs2.ne hp).1 (hs2.ne hp).2) (fun _ _ => trivial) (by rw [List.length_range]; omega)
      (fun i hi M9 N9 sk hs9 k9 hy _ => ?_) fun M9 ds ho hs9 k9 e9 => ?_
  · simp! []
    exact ⟨a, b, dep, by rw [show ((dep + 1 : Nat) : Int) - 1 = (dep : Int) by omega], by omega, by omega, hs9, fun d M10 hd hs10 k10 => hy _ _ ⟨d, hd, rfl⟩ hs10 k10⟩
  · have hlen := ho.lenEq (fun _ ⟨_, _, z⟩ => by cases z)
    obtain ⟨es, rfl, hes⟩ : ∃ es : List D, ds = es.map (fun d => .tup [d, .str (S (wr d))]) ∧ ∀ d ∈ es, Drawn dep d := by
      have := ho.all (P := fun x => ∃ d : D, Drawn dep d ∧ x = .tup [d, .str (S (wr d))]) fun _ d ⟨c, h1, h2⟩ => ⟨c, h1, Option.some.inj h2⟩
      clear ho hlen e9
      induction ds with
      | nil => exact ⟨[], rfl, fun _ h => by cases h⟩
      | cons d ds ih =>
        obtain ⟨l, h1, h2⟩ := ih fun d hd => this d (List.mem_cons_of_mem _ hd)
        obtain ⟨c, h3, h4⟩ := this d List.mem_cons_self
        exact ⟨c :: l, by rw [h1, h4]; rfl, fun x hx => by rcases List.mem_cons.mp hx with z | z; exact z ▸ h3; exact h2 x z⟩
    simp only [List.length_map, List.length_range] at hlen
    have el : es.length ≤ 4 := by omega
    have kk : Keep [a] M M9 := (k1.trans k2).trans k9
    have D1 := drawn_tup hes el
    have dl := D1.len
    have ml : mostL (dep + 1) ≤ 1000000 := by
      have : dep = 0 ∨ dep = 1 ∨ dep = 2 ∨ dep = 3 ∨ dep = 4 ∨ dep = 5 := by omega
      rcases this with rfl | rfl | rfl | rfl | rfl | rfl <;> decide
    simp! [e9]
    intro p2 hp2
    refine lc_pure (fun d : D => D.tup [d, .str (S (wr d))]) (fun d => d) (fun _ => true) es hp2 (fun M' k' => .inl (k' _ _ e9 (by simp))) (by omega) (fun d hd M' N sk k' hy _ => ?_) fun M10 k10 e10 => ?_
    · simp! []
      exact hy rfl _ Keep.refl
    rw [filter_tt, List.map_id'] at e10
    have e9' := k10 _ _ e9 (by simp)
    simp! [e10, e9', eo, ec, ecm]
    intro p3 hp3
    refine lc_pure (fun d : D => D.tup [d, .str (S (wr d))]) (fun d => .str (S (wr d))) (fun _ => true) es hp3 (fun M' k' => .inl (k' _ _ e9' (by simp))) (by omega) (fun d hd M' N sk k' hy _ => ?_) fun M11 k11 e11 => ?_
    · simp! []
      exact hy rfl _ Keep.refl
    rw [filter_tt] at e11
    have e11 : M11 p3 = some (.lst ((es.map wr).map S |>.map D.str)) := by rw [e11]; simp
    simp! [mJoin, seqS, lstAt, e11, strsOf_map, Option.bind_some]
    rw [lens, join_S, ← wrL_map, S_cat, S_cat, List.length_map]
    simp only [len_S, List.length_cons, List.length_nil, List.length_append]
    simp only [wr, List.length_cons, List.length_append, List.length_nil] at dl
    have esum : ((wrL es).map (·.length)).sum + (wrL es).length * 2 ≤ 4000002 + 2 := by
      cases es with
      | nil => simp [wrL]
      | cons d r =>
        have := joinL_len [44, 32] (wrL (d :: r)) (by simp [wrL])
        simp only [List.length_cons, List.length_nil] at this dl
        omega
    refine ⟨by omega, by omega, by omega, ?_⟩
    have := h (.tup es) M11 D1 ((hs9.keep k10).keep k11) ((kk.trans (k10.weaken (by simp))).trans (k11.weaken (by simp)))
    exact this
end K33

set_option maxHeartbeats 4000000
namespace K33
open PySem PySem.Spec PyProof.Rows L2 PL SX
open TL (numL tl joinL)
variable {P : Program} {w : World} {K : PySem.W.Frag} {mg : Str → Option Value} {base : Heap} {C_CellchainsError C_BadText v_read_integer v_read_data : Addr}
local macro_rules | `(tactic| simp! [$ls,*]) => `(tactic| simp only [to_nx, to_rt, to_bk, to_ct, to_ex, lp_nx, lp_rt, lp_bk, lp_ct, lp_ex, ret_nx, ret_rt, ret_ex, s_exK, s_bif1, s_bif0, s_optB, s_optE, s_nxD, s_ifK, s_asgN, s_asgT, s_asgL, b_nil, b_nm, b_tp, s_next, s_seq, s_drop, s_ret, s_retN, s_ifS, s_asg, s_brk, s_cont, s_put, s_put1, s_put2, s_put3, s_aug, s_augV, s_augK, s_augK2, s_bin, s_bin1, s_bin2, s_var, s_varK, s_C, s_cb, s_cbK, s_call, s_callK, s_m, s_m1, s_m2, s_nil, s_cons, s_cons1, s_cons2, s_tup, s_tupK, s_lst, s_lstK, s_truth, s_trK, s_tK, s_eK, s_cK, s_and, s_andK, s_or, s_orK, s_not, s_notK, s_ife, s_ifeK, s_andV, s_orV, s_andvK, s_orvK, s_andvK2, s_orvK2, s_notV, s_notvK, s_blK, s_neg, s_negK, s_sl, s_sl1, s_sl2, s_sl3, s_noPart, s_part, s_partK, s_rev, s_revK, s_for, s_forK, s_lc, s_lcK, s_yes, s_walk, s_walkT, s_walkS, s_walkA, s_walkL, s_walkR, s_rng1, s_rng2, s_rng1K, s_rng2K, s_callL, s_callLK, s_callLO, s_clK, s_raise, r_val, r_new, r_put, s_whK, s_lcY, s_lcT, s_lcE, s_cg, s_cgK, s_rng3, s_rng3K, s_lcB, s_lcS, wipeD, Pat.bind, seqOf, rg, s_dict0, s_sortSet, s_sortSetK, q_is_tuple, q_is_str, q_is_int, q_is_bool, q_is_list, q_isR, ofS_inj, String.reduceEq, q_eqI, q_neI, q_eqS, q_neS, decide_true, decide_false, Int.reduceEq, reduceCtorEq, i_NoneType_tuple, i_NoneType_str, i_NoneType_int, i_NoneType_bool, i_NoneType_list, i_bool_tuple, i_bool_str, i_bool_int, i_bool_bool, i_bool_list, i_int_tuple, i_int_str, i_int_int, i_int_bool, i_int_list, i_str_tuple, i_str_str, i_str_int, i_str_bool, i_str_list, i_tuple_tuple, i_tuple_str, i_tuple_int, i_tuple_bool, i_tuple_list, i_list_tuple, i_list_str, i_list_int, i_list_bool, i_list_list, i_dict_tuple, i_dict_str, i_dict_int, i_dict_bool, i_dict_list, tyN, startD, mupd_same, mupd_ne, ne_eq, not_false_eq_true, List.map_cons, List.map_nil, List.length_cons, List.length_nil, List.replicate_succ, List.replicate_zero, Nat.zero_add, Nat.reduceAdd, Nat.reduceSub, Int.cast_ofNat_Int, List.cons_append, List.nil_append, List.getElem?_cons_zero, List.getElem?_cons_succ, List.set_cons_zero, List.set_cons_succ, opIx, atI_cons, ixN, opPut, opAdd, opSub, opMul, opFdiv, opMod, opPow, opLt, opLe, opGt, opGe, opIs, opIsNot, D.isNon, truth, bLen, bAbs, bInt, bTuple, bList, isTy, mAppend, mExtend, mPop, Int.reduceLE, Int.reduceLT, Int.reduceToNat, Int.reduceNeg, Int.reduceNe, Option.bind_some, if_true, if_false, ite_true, ite_false, true_and, and_true, Bool.not_true, Bool.not_false, opIadd, Nat.reduceLT, Nat.reduceLeDiff, Int.ofNat_lt, $ls,*])
def sp_ref (f0 C : Addr) (sp0 : DSp) : DSp := fun ds M Q E => ∃ x : Str, ds = [.ob f0, .str x] ∧ (∀ Q E, (∀ M', Keep [] M M' → E (.ref C) [] M') → sp0 [.str x] M Q E) ∧ ∀ M', Keep [] M M' → Q (.bl true) M'
theorem mono_ref {f0 C : Addr} {sp0 : DSp} : MonoSp (sp_ref f0 C sp0) := by
  rintro ds M Q Q' E E' hQ hE ⟨x, h1, h2, h⟩
  exact ⟨x, h1, h2, fun M' z => hQ _ _ (h M' z)⟩
def oneSp (f0 : Addr) (sp0 : DSp) : Addr → Option DSp := fun f => if f = f0 then some sp0 else none
theorem ok_ref {f0 : Addr} {sp0 : DSp} {k : Nat} (G : GF K mg C_CellchainsError C_BadText v_read_integer v_read_data) (A_how : ∀ f sp, oneSp f0 sp0 f = some sp → MonoSp sp ∧ ∃ (fd : FuncData) (ps : List Str), FnOk P w K mg base (L2.CX P w) k f fd ps (liftSp K sp) ∧ PySem.W.keepIn K (.ref f) = true ∧ Binds K fd ps [])
    {f : Addr} {fd : FuncData} (F : Fun K "_law_is_refused" "_law_is_refused" s__law_is_refused f fd) : FnOk P w K mg base (L2.CX P w) (k + 1) f fd ["how", "text"] (liftSp K (sp_ref f0 C_BadText sp0)) := by
  refine fn_ok F sc__law_is_refused (fun ds M Q E h => by obtain ⟨x, rfl, _⟩ := h; rfl) ⟨_, fun cdv A outer s H E hr => have hu := hr.u200
    (xss_cons (xs_tryC (X := bx P w K mg base ["how", "text", "e"] "_law_is_refused" s__law_is_refused f cdv A outer s H E) 2 G.E_BadText rfl rfl (by rfl) rfl rfl sc__law_is_refused.nd rfl bx_takes (fun _ _ _ tkT hpT => (xss_one (xs_expr (xe_callL (i := 0) A_how (hr.mono (by first | decide | omega)) tkT (by rfl) (Or.inl rfl) (xa_cons (xe_var 1) xa_nil))))) (fun a oe pn hz hf => (xss_one (xs_ret (xe_callG bIsE_mono (c_isE G.E_BadText.c rfl hz hf) (by rfl) G.isinstance (by decide +kernel) (xa_cons (xe_var 2) (xa_cons (xe_glob (v := .ref _) (by rfl) G.E_CellchainsError.g rfl) xa_nil)))))))
 (xss_one (xs_ret xe_bl))), fun ds M Q E h => ?_⟩
  obtain ⟨x, rfl, h0, h⟩ := h
  have e1 : oneSp f0 sp0 f0 = some sp0 := if_pos rfl
  simp! [dTryAs, e1]
  refine h0 _ _ fun M' k => ?_
  simp only [s_exK, exTry, G.E_BadText.e]
  refine ⟨trivial, fun a ha => ⟨trivial, ?_⟩⟩
  simp! []
  exact ⟨_, _, true, rfl, fun u r => r, G.S_BadText_CellchainsError, h M' k⟩
/-! what the law offers -/
def Refd (rf : List Nat → Prop) (ys : List Str) : Prop := (∀ y ∈ ys, rf (tl y) ∧ y.length ≤ 4000000) ∧ ys ≠ [] ∧ ys.length < 100
def sp_badI : DSp := fun ds M Q E => ∃ n : Int, ds = [.str (S (W n))] ∧ n.natAbs < 10 ^ 180 ∧ ∀ (ys : List Str) r M', Refd (fun l => readI l = none) ys → M r = none → M' r = some (.lst (ys.map D.str)) → Keep [] M M' → Q (.ob r) M'
theorem mono_badI : MonoSp sp_badI := by
  rintro ds M Q Q' E E' hQ hE ⟨n, h1, h2, h⟩
  exact ⟨n, h1, h2, fun ys r M' z1 z2 z3 z4 => hQ _ _ (h ys r M' z1 z2 z3 z4)⟩
theorem tl_app (x : Str) (l : List Nat) : tl (x ++ S l) = tl x ++ l := TL.tl_append x (S l)
theorem tl_app2 (x : Str) (l : List Nat) : tl (S l ++ x) = l ++ tl x := TL.tl_append (S l) x
theorem len_app (x y : Str) : (x ++ y).length = x.length + y.length := by simp [Str.length, Str.cps_append]
theorem fn_badI (S0 : Src K mg "_law_bad_integers" s__law_bad_integers ["text"]) (G : GF K mg C_CellchainsError C_BadText v_read_integer v_read_data) : Fn P w K mg base 1 "_law_bad_integers" sp_badI [] := by
  refine S0.fn mono_badI fun f fd F => fn_ok F sc__law_bad_integers (fun ds M Q E h => by obtain ⟨n, rfl, _⟩ := h; rfl) ⟨_, fun cdv A outer s H E hr => have hu := hr.u200
    (xss_cons (xs_set 1 sc__law_bad_integers.nd (xe_lst (n := 13) (xa_cons xe_str (xa_cons xe_str (xa_cons xe_str (xa_cons (xe_bin x_add xe_str (xe_var 0)) (xa_cons (xe_bin x_add xe_str (xe_var 0)) (xa_cons (xe_bin x_add (xe_var 0) xe_str) (xa_cons xe_str (xa_cons (xe_bin x_add xe_str (xe_var 0)) (xa_cons xe_str (xa_cons xe_str (xa_cons (xe_bin x_add (xe_var 0) xe_str) (xa_cons xe_str (xa_cons xe_str xa_nil)))))))))))))))
 (xss_one (xs_ret (xe_bin x_add (xe_var 1) (xe_lst (n := 7) (xa_cons (xe_bin x_add (xe_var 0) xe_str) (xa_cons xe_str (xa_cons xe_str (xa_cons xe_str (xa_cons xe_str (xa_cons xe_str (xa_cons xe_str xa_nil)))))))))))), fun ds M Q E h => ?_⟩
  obtain ⟨n, rfl, hn, h⟩ := h
  have wl := W_len (Nat.lt_trans hn pow180)
  have sz : (16777216 : Nat) = sizeLine := sizeLine_eq.symm
  have k1 : (Str.ofString "+").length = 1 := by decide +kernel
  have k2 : (Str.ofString " ").length = 1 := by decide +kernel
  have k3 : (Str.ofString "0").length = 1 := by decide +kernel
  have k4 : (Str.ofString "x").length = 1 := by decide +kernel
  have k5 : (Str.ofString ".0").length = 2 := by decide +kernel
  simp! [len_S, k1, k2, k3, k4, k5]
  refine ⟨by omega, by omega, by omega, by omega, by omega, fun p hp => ⟨by omega, fun q hq => ?_⟩⟩
  have pq : p ≠ q := ne_new mupd_same hq
  simp! [mupd_ne pq]
  refine ⟨by decide +kernel, fun r hr => ?_⟩
  obtain ⟨c, rw', ew⟩ : ∃ c r, W n = c :: r := by
    cases e : W n with
    | nil => exact absurd e (W_ne n)
    | cons c r => exact ⟨c, r, rfl⟩
  have hr0 : M r = none := by
    have h1 := hr
    rw [mupd_none] at h1
    have h2 := h1.2
    rw [mupd_none] at h2
    exact h2.2
  have la : ∀ (l : List Nat) (c : Nat), isD c = false → l ≠ [] → ∀ m, readI (l ++ c :: m) = none := fun l c hc hl m => by
    cases l with
    | nil => exact absurd rfl hl
    | cons a l => exact readI_bad (c := c) (by simp) hc
  refine h [Str.ofString "", Str.ofString "-", Str.ofString "-0", Str.ofString "+" ++ S (W n), Str.ofString " " ++ S (W n), S (W n) ++ Str.ofString " ", Str.ofString "00", Str.ofString "0" ++ S (W n), Str.ofString "--1", Str.ofString "1-", S (W n) ++ Str.ofString "x", Str.ofString "a", Str.ofString "()",
    S (W n) ++ Str.ofString ".0", Str.ofString "1 2", Str.ofString "1,2", Str.ofString "'1'", Str.ofString "(1)", Str.ofString "0x1", Str.ofString "1_0"] r _ ⟨?_, by simp, by simp⟩ hr0 (by simp only [mupd_same]; rfl) (((Keep.new hp (S := [])).trans (Keep.new hq)).trans (Keep.new hr))
  have fix : ∀ s : String, readI (tl (Str.ofString s)) = none → (Str.ofString s).length ≤ 4000000 → readI (tl (Str.ofString s)) = none ∧ (Str.ofString s).length ≤ 4000000 := fun s h1 h2 => ⟨h1, h2⟩
  simp only [List.forall_mem_cons]
  refine ⟨fix _ (by decide +kernel) (by decide +kernel), fix _ (by decide +kernel) (by decide +kernel), fix _ (by decide +kernel) (by decide +kernel), ?_, ?_, ?_, fix _ (by decide +kernel) (by decide +kernel), ?_, fix _ (by decide +kernel) (by decide +kernel), fix _ (by decide +kernel) (by decide +kernel), ?_, fix _ (by decide +kernel) (by decide +kernel), fix _ (by decide +kernel) (by decide +kernel),
    ?_, fix _ (by decide +kernel) (by decide +kernel), fix _ (by decide +kernel) (by decide +kernel), fix _ (by decide +kernel) (by decide +kernel), fix _ (by decide +kernel) (by decide +kernel), fix _ (by decide +kernel) (by decide +kernel), fix _ (by decide +kernel) (by decide +kernel), fun _ h => by cases h⟩
  · exact ⟨by rw [tl_app, show tl (Str.ofString "+") = [43] by decide +kernel]; exact readI_head (by decide) (by decide), by rw [len_app, k1, len_S]; omega⟩
  · exact ⟨by rw [tl_app, show tl (Str.ofString " ") = [32] by decide +kernel]; exact readI_head (by decide) (by decide), by rw [len_app, k2, len_S]; omega⟩
  · exact ⟨by rw [tl_app2, show tl (Str.ofString " ") = [32] by decide +kernel]; exact la _ _ (by decide) (W_ne n) [], by rw [len_app, k2, len_S]; omega⟩
  · exact ⟨by rw [tl_app, show tl (Str.ofString "0") = [48] by decide +kernel]; exact readI_zero (W_ne n), by rw [len_app, k3, len_S]; omega⟩
  · exact ⟨by rw [tl_app2, show tl (Str.ofString "x") = [120] by decide +kernel]; exact la _ _ (by decide) (W_ne n) [], by rw [len_app, k4, len_S]; omega⟩
  · exact ⟨by rw [tl_app2, show tl (Str.ofString ".0") = [46, 48] by decide +kernel]; exact la _ _ (by decide) (W_ne n) [48], by rw [len_app, k5, len_S]; omega⟩
end K33

set_option maxHeartbeats 4000000
namespace K33
open PySem PySem.Spec PyProof.Rows L2 PL SX
open TL (numL tl joinL)
variable {P : Program} {w : World} {K : PySem.W.Frag} {mg : Str → Option Value} {base : Heap} {C_CellchainsError C_BadText v_read_integer v_read_data : Addr}
local macro_rules | `(tactic| simp! [$ls,*]) => `(tactic| simp only [to_nx, to_rt, to_bk, to_ct, to_ex, lp_nx, lp_rt, lp_bk, lp_ct, lp_ex, ret_nx, ret_rt, ret_ex, s_exK, s_bif1, s_bif0, s_optB, s_optE, s_nxD, s_ifK, s_asgN, s_asgT, s_asgL, b_nil, b_nm, b_tp, s_next, s_seq, s_drop, s_ret, s_retN, s_ifS, s_asg, s_brk, s_cont, s_put, s_put1, s_put2, s_put3, s_aug, s_augV, s_augK, s_augK2, s_bin, s_bin1, s_bin2, s_var, s_varK, s_C, s_cb, s_cbK, s_call, s_callK, s_m, s_m1, s_m2, s_nil, s_cons, s_cons1, s_cons2, s_tup, s_tupK, s_lst, s_lstK, s_truth, s_trK, s_tK, s_eK, s_cK, s_and, s_andK, s_or, s_orK, s_not, s_notK, s_ife, s_ifeK, s_andV, s_orV, s_andvK, s_orvK, s_andvK2, s_orvK2, s_notV, s_notvK, s_blK, s_neg, s_negK, s_sl, s_sl1, s_sl2, s_sl3, s_noPart, s_part, s_partK, s_rev, s_revK, s_for, s_forK, s_lc, s_lcK, s_yes, s_walk, s_walkT, s_walkS, s_walkA, s_walkL, s_walkR, s_rng1, s_rng2, s_rng1K, s_rng2K, s_callL, s_callLK, s_callLO, s_clK, s_raise, r_val, r_new, r_put, s_whK, s_lcY, s_lcT, s_lcE, s_cg, s_cgK, s_rng3, s_rng3K, s_lcB, s_lcS, wipeD, Pat.bind, seqOf, rg, s_dict0, s_sortSet, s_sortSetK, q_is_tuple, q_is_str, q_is_int, q_is_bool, q_is_list, q_isR, ofS_inj, String.reduceEq, q_eqI, q_neI, q_eqS, q_neS, decide_true, decide_false, Int.reduceEq, reduceCtorEq, i_NoneType_tuple, i_NoneType_str, i_NoneType_int, i_NoneType_bool, i_NoneType_list, i_bool_tuple, i_bool_str, i_bool_int, i_bool_bool, i_bool_list, i_int_tuple, i_int_str, i_int_int, i_int_bool, i_int_list, i_str_tuple, i_str_str, i_str_int, i_str_bool, i_str_list, i_tuple_tuple, i_tuple_str, i_tuple_int, i_tuple_bool, i_tuple_list, i_list_tuple, i_list_str, i_list_int, i_list_bool, i_list_list, i_dict_tuple, i_dict_str, i_dict_int, i_dict_bool, i_dict_list, tyN, startD, mupd_same, mupd_ne, ne_eq, not_false_eq_true, List.map_cons, List.map_nil, List.length_cons, List.length_nil, List.replicate_succ, List.replicate_zero, Nat.zero_add, Nat.reduceAdd, Nat.reduceSub, Int.cast_ofNat_Int, List.cons_append, List.nil_append, List.getElem?_cons_zero, List.getElem?_cons_succ, List.set_cons_zero, List.set_cons_succ, opIx, atI_cons, ixN, opPut, opAdd, opSub, opMul, opFdiv, opMod, opPow, opLt, opLe, opGt, opGe, opIs, opIsNot, D.isNon, truth, bLen, bAbs, bInt, bTuple, bList, isTy, mAppend, mExtend, mPop, Int.reduceLE, Int.reduceLT, Int.reduceToNat, Int.reduceNeg, Int.reduceNe, Option.bind_some, if_true, if_false, ite_true, ite_false, true_and, and_true, Bool.not_true, Bool.not_false, opIadd, Nat.reduceLT, Nat.reduceLeDiff, Int.ofNat_lt, $ls,*])
theorem readD_head {l : List Nat} : readD (32 :: l) = none := by
  unfold readD
  show rd ((l.length + 1) + 1) [[]] true false (32 :: l) = none
  conv => lhs; rw [rd]
  rw [if_neg (fun z => by cases z.2.1), if_neg (fun z => by cases z.1), if_neg (fun z => by cases z.1), if_pos ⟨rfl, by decide⟩]
  have e : plain (32 :: l) = none := by
    rw [plain, if_neg (by decide)]
    rfl
  rw [e]
  rfl
def sp_badD : DSp := fun ds M Q E => ∃ (a b : Addr) (d : D), ds = [.ob a, .str (S (wr d))] ∧ StAt M a b ∧ Drawn 6 d ∧ ∀ (ys : List Str) r M', Refd (fun l => readD l = none) ys → StAt M' a b → M' r = some (.lst (ys.map D.str)) → M r = none → Keep [a] M M' → Q (.ob r) M'
theorem mono_badD : MonoSp sp_badD := by
  rintro ds M Q Q' E E' hQ hE ⟨a, b, d, h1, h2, h3, h⟩
  exact ⟨a, b, d, h1, h2, h3, fun ys r M' z1 z2 z3 z4 z5 => hQ _ _ (h ys r M' z1 z2 z3 z4 z5)⟩
theorem fn_badD (S0 : Src K mg "_law_bad_data" s__law_bad_data ["state", "text"]) (G : GF K mg C_CellchainsError C_BadText v_read_integer v_read_data) (F__law_draw : Fn P w K mg base 1 "_law_draw" sp_draw []) : Fn P w K mg base 2 "_law_bad_data" sp_badD [] := by
  refine S0.fn mono_badD fun f fd F => fn_ok F sc__law_bad_data (fun ds M Q E h => by obtain ⟨a, b, d, rfl, _⟩ := h; rfl) ⟨_, fun cdv A outer s H E hr => have hu := hr.u200
    (xss_cons (xs_set 2 sc__law_bad_data.nd (xe_call F__law_draw (hr.mono (by first | decide | omega)) bx_takes (by rfl) (xa_cons (xe_var 0) (xa_cons (xe_bin x_add (xe_callB c_len (by rfl) G.len (by decide +kernel) (xa_cons (xe_var 1) xa_nil)) xe_int) xa_nil))))
 (xss_cons (xs_set 3 sc__law_bad_data.nd (xe_lst (n := 13) (xa_cons xe_str (xa_cons xe_str (xa_cons xe_str (xa_cons xe_str (xa_cons (xe_bin x_add (xe_var 1) xe_str) (xa_cons (xe_bin x_add xe_str (xe_var 1)) (xa_cons (xe_bin x_add (xe_var 1) xe_str) (xa_cons (xe_bin x_add xe_str (xe_var 1)) (xa_cons (xe_bin x_add (xe_bin x_add (xe_var 1) xe_str) (xe_var 1)) (xa_cons xe_str (xa_cons xe_str (xa_cons xe_str (xa_cons xe_str xa_nil)))))))))))))))
 (xss_cons (xs_set 3 sc__law_bad_data.nd (xe_bin x_add (xe_var 3) (xe_lst (n := 11) (xa_cons xe_str (xa_cons xe_str (xa_cons xe_str (xa_cons xe_str (xa_cons xe_str (xa_cons xe_str (xa_cons xe_str (xa_cons xe_str (xa_cons xe_str (xa_cons xe_str (xa_cons xe_str xa_nil))))))))))))))
 (xss_one (xs_ret (xe_bin x_add (xe_var 3) (xe_lst (n := 8) (xa_cons xe_str (xa_cons xe_str (xa_cons (xe_bin x_add (xe_bin x_add xe_str xe_str) xe_str) (xa_cons (xe_bin x_add (xe_var 1) xe_str) (xa_cons xe_str (xa_cons xe_str (xa_cons xe_str (xa_cons (xe_bin x_add (xe_bin x_add (xe_sl (xe_var 1) xo_none (xo_some (xe_var 2))) xe_str) (xe_sl (xe_var 1) (xo_some (xe_var 2)) xo_none)) xa_nil))))))))))))))), fun ds M Q E h => ?_⟩
  obtain ⟨a, b, d, rfl, hs, hd, h⟩ := h
  have wl : (wr d).length ≤ 1000000 := by
    have := hd.len
    simp only [mostL] at this
    omega
  have sz : (16777216 : Nat) = sizeLine := sizeLine_eq.symm
  have k1 : (Str.ofString " ").length = 1 := by decide +kernel
  have k2 : (Str.ofString ")").length = 1 := by decide +kernel
  have k3 : (Str.ofString "(").length = 1 := by decide +kernel
  have k4 : (Str.ofString ", ").length = 2 := by decide +kernel
  have k5 : (Str.ofString "\n").length = 1 := by decide +kernel
  have k6 : (Str.ofString "'a").length = 2 := by decide +kernel
  have k7 : (Str.ofString "b'").length = 2 := by decide +kernel
  simp! [len_S]
  refine ⟨by omega, a, b, (wr d).length + 1, rfl, hs, by omega, by omega, fun at' M1 at0 at1 hs1 kk => ?_⟩
  obtain ⟨j, rfl⟩ : ∃ j : Nat, at' = j := ⟨at'.toNat, by omega⟩
  simp! [len_S, len_app, k1, k2, k3, k4, k5, k6, k7, opSl, cut_to, cut_from]
  refine ⟨by omega, by omega, by omega, by omega, by omega, by omega, fun p hp p1 hp1 => ?_⟩
  have np : p ≠ p1 := by
    rintro rfl
    simp only [mupd_same, reduceCtorEq] at hp1
  simp! [np, np.symm, r_new, Res.run, len_S, len_app, k1, k2, k3, k4, k5, k6, k7, opSl, cut_to, cut_from]
  refine ⟨by omega, fun p2 hp2 => ⟨by omega, by omega, by omega, by omega, by simp only [List.length_take]; omega, by omega, by simp only [List.length_take, List.length_drop]; omega, fun p3 hp3 => ?_⟩⟩
  have np2 : p2 ≠ p3 := by
    rintro rfl
    simp only [mupd_same, reduceCtorEq] at hp3
  simp! [np2, np2.symm, r_new, Res.run, len_S, len_app, k1, k2, k3, k4, k5, k6, k7, opSl, cut_to, cut_from]
  refine ⟨by omega, fun p4 hp4 => ?_⟩
  have hq4 : M1 p4 = none := by
    have z := hp4
    simp only [mupd_none] at z
    exact z.2.2.2.2
  refine h [Str.ofString "", Str.ofString " ", Str.ofString "(", Str.ofString ")", S (wr d) ++ Str.ofString " ", Str.ofString " " ++ S (wr d), S (wr d) ++ Str.ofString ")", Str.ofString "(" ++ S (wr d), S (wr d) ++ Str.ofString ", " ++ S (wr d), Str.ofString "'", Str.ofString "'a", Str.ofString "a'", Str.ofString "zz", Str.ofString "(1,2)", Str.ofString "(1,  2)", Str.ofString "(1 , 2)", Str.ofString "( 1)", Str.ofString "(1 )", Str.ofString "(1, )", Str.ofString "(, 1)", Str.ofString "(1,)", Str.ofString "('a''b')", Str.ofString "(01)", Str.ofString "(-0)", Str.ofString "[1]", Str.ofString "(1; 2)", Str.ofString "'a" ++ Str.ofString "\n" ++ Str.ofString "b'", S (wr d) ++ Str.ofString "\n", Str.ofString "('a)", Str.ofString "((1, 2)", Str.ofString "(1, 2))", S (List.take j (wr d)) ++ Str.ofString "\n" ++ S (List.drop j (wr d))] p4 _ ⟨?_, by simp, by simp⟩ (((((hs1.new hp).new hp1).new hp2).new hp3).new hp4) (by simp only [mupd_same]; rfl) (hs1.fresh kk hq4) (((((kk.trans (Keep.new hp)).trans (Keep.new hp1)).trans (Keep.new hp2)).trans (Keep.new hp3)).trans (Keep.new hp4))
  have fix : ∀ s : Str, (readD (tl s)).isNone = true → s.length ≤ 4000000 → readD (tl s) = none ∧ s.length ≤ 4000000 := fun s h1 h2 => ⟨Option.isNone_iff_eq_none.mp h1, h2⟩
  simp only [List.forall_mem_cons]
  refine ⟨fix _ (by decide +kernel) (by decide +kernel), fix _ (by decide +kernel) (by decide +kernel), fix _ (by decide +kernel) (by decide +kernel), fix _ (by decide +kernel) (by decide +kernel), ?_, ?_, ?_, ?_, ?_, fix _ (by decide +kernel) (by decide +kernel), fix _ (by decide +kernel) (by decide +kernel), fix _ (by decide +kernel) (by decide +kernel), fix _ (by decide +kernel) (by decide +kernel), fix _ (by decide +kernel) (by decide +kernel), fix _ (by decide +kernel) (by decide +kernel), fix _ (by decide +kernel) (by decide +kernel), fix _ (by decide +kernel) (by decide +kernel), fix _ (by decide +kernel) (by decide +kernel), fix _ (by decide +kernel) (by decide +kernel), fix _ (by decide +kernel) (by decide +kernel), fix _ (by decide +kernel) (by decide +kernel), fix _ (by decide +kernel) (by decide +kernel), fix _ (by decide +kernel) (by decide +kernel), fix _ (by decide +kernel) (by decide +kernel), fix _ (by decide +kernel) (by decide +kernel), fix _ (by decide +kernel) (by decide +kernel), fix _ (by decide +kernel) (by decide +kernel), ?_, fix _ (by decide +kernel) (by decide +kernel), fix _ (by decide +kernel) (by decide +kernel), fix _ (by decide +kernel) (by decide +kernel), ?_, fun _ h => by cases h⟩
  · exact ⟨by rw [tl_app2, show tl (Str.ofString " ") = [32] by decide +kernel]; exact readD_behind hd.good (by have := hd.dp; omega) (by decide), by rw [len_app, k1, len_S]; omega⟩
  · exact ⟨by rw [tl_app, show tl (Str.ofString " ") = [32] by decide +kernel]; exact readD_head, by rw [len_app, k1, len_S]; omega⟩
  · exact ⟨by rw [tl_app2, show tl (Str.ofString ")") = [41] by decide +kernel]; exact readD_behind hd.good (by have := hd.dp; omega) (by decide), by rw [len_app, k2, len_S]; omega⟩
  · exact ⟨by rw [tl_app, show tl (Str.ofString "(") = [40] by decide +kernel]; exact readD_open hd.good (by have := hd.dp; omega), by rw [len_app, k3, len_S]; omega⟩
  · exact ⟨by rw [tl_app, tl_app2, show tl (Str.ofString ", ") = [44, 32] by decide +kernel, List.append_assoc]; exact readD_behind hd.good (by have := hd.dp; omega) (by decide), by rw [len_app, len_app, k4, len_S]; omega⟩
  · exact ⟨by rw [tl_app2, show tl (Str.ofString "\n") = [10] by decide +kernel]; exact readD_nl (by simp), by rw [len_app, k5, len_S]; omega⟩
  · exact ⟨by rw [tl_app, tl_app2, show tl (Str.ofString "\n") = [10] by decide +kernel]; exact readD_nl (by simp), by rw [len_app, len_app, k5, len_S, len_S, List.length_take, List.length_drop]; omega⟩
end K33

set_option maxHeartbeats 4000000
namespace K33
open PySem PySem.Spec PyProof.Rows L2 PL
variable {P : Program} {w : World} {K : PySem.W.Frag} {mg : Str → Option Value} {base : Heap} {C_CellchainsError C_BadText v_read_integer v_read_data : Addr}
local macro_rules | `(tactic| simp! [$ls,*]) => `(tactic| simp only [to_nx, to_rt, to_bk, to_ct, to_ex, lp_nx, lp_rt, lp_bk, lp_ct, lp_ex, ret_nx, ret_rt, ret_ex, s_exK, s_bif1, s_bif0, s_optB, s_optE, s_nxD, s_ifK, s_asgN, s_asgT, s_asgL, b_nil, b_nm, b_tp, s_next, s_seq, s_drop, s_ret, s_retN, s_ifS, s_asg, s_brk, s_cont, s_put, s_put1, s_put2, s_put3, s_aug, s_augV, s_augK, s_augK2, s_bin, s_bin1, s_bin2, s_var, s_varK, s_C, s_cb, s_cbK, s_call, s_callK, s_m, s_m1, s_m2, s_nil, s_cons, s_cons1, s_cons2, s_tup, s_tupK, s_lst, s_lstK, s_truth, s_trK, s_tK, s_eK, s_cK, s_and, s_andK, s_or, s_orK, s_not, s_notK, s_ife, s_ifeK, s_andV, s_orV, s_andvK, s_orvK, s_andvK2, s_orvK2, s_notV, s_notvK, s_blK, s_neg, s_negK, s_sl, s_sl1, s_sl2, s_sl3, s_noPart, s_part, s_partK, s_rev, s_revK, s_for, s_forK, s_lc, s_lcK, s_yes, s_walk, s_walkT, s_walkS, s_walkA, s_walkL, s_walkR, s_rng1, s_rng2, s_rng1K, s_rng2K, s_callL, s_callLK, s_callLO, s_clK, s_raise, r_val, r_new, r_put, s_whK, s_lcY, s_lcT, s_lcE, s_cg, s_cgK, s_rng3, s_rng3K, s_lcB, s_lcS, wipeD, Pat.bind, seqOf, rg, s_dict0, s_sortSet, s_sortSetK, q_is_tuple, q_is_str, q_is_int, q_is_bool, q_is_list, q_isR, ofS_inj, String.reduceEq, q_eqI, q_neI, q_eqS, q_neS, decide_true, decide_false, Int.reduceEq, reduceCtorEq, i_NoneType_tuple, i_NoneType_str, i_NoneType_int, i_NoneType_bool, i_NoneType_list, i_bool_tuple, i_bool_str, i_bool_int, i_bool_bool, i_bool_list, i_int_tuple, i_int_str, i_int_int, i_int_bool, i_int_list, i_str_tuple, i_str_str, i_str_int, i_str_bool, i_str_list, i_tuple_tuple, i_tuple_str, i_tuple_int, i_tuple_bool, i_tuple_list, i_list_tuple, i_list_str, i_list_int, i_list_bool, i_list_list, i_dict_tuple, i_dict_str, i_dict_int, i_dict_bool, i_dict_list, tyN, startD, mupd_same, mupd_ne, ne_eq, not_false_eq_true, List.map_cons, List.map_nil, List.length_cons, List.length_nil, List.replicate_succ, List.replicate_zero, Nat.zero_add, Nat.reduceAdd, Nat.reduceSub, Int.cast_ofNat_Int, List.cons_append, List.nil_append, List.getElem?_cons_zero, List.getElem?_cons_succ, List.set_cons_zero, List.set_cons_succ, opIx, atI_cons, ixN, opPut, opAdd, opSub, opMul, opFdiv, opMod, opPow, opLt, opLe, opGt, opGe, opIs, opIsNot, D.isNon, truth, bLen, bAbs, bInt, bTuple, bList, isTy, mAppend, mExtend, mPop, Int.reduceLE, Int.reduceLT, Int.reduceToNat, Int.reduceNeg, Int.reduceNe, Option.bind_some, if_true, if_false, ite_true, ite_false, true_and, and_true, Bool.not_true, Bool.not_false, opIadd, Nat.reduceLT, Nat.reduceLeDiff, Int.ofNat_lt, $ls,*])
theorem fn_same (S : Src K mg "_law_same" s__law_same ["x", "y"]) (G : GF K mg C_CellchainsError C_BadText v_read_integer v_read_data) (F__law_is_int : Fn P w K mg base 1 "_law_is_int" sp_is_int []) : ∀ n, Fn P w K mg base (n + 2) "_law_same" (sp_same n) [] := by
  intro n
  induction n with
  | zero => exact S.fn mono_same fun f fd F => fn_none fun ds M Q E ⟨d, _, _, h, _⟩ => by omega
  | succ n F__law_same =>
  refine S.fn mono_same fun f fd F => fn_ok F sc__law_same (fun ds M Q E h => by obtain ⟨d, rfl, _⟩ := h; rfl) ⟨_, fun cdv A outer s H E hr => have hu := hr.u200
    (xss_cons (xs_if (xt_val (xe_callB c_isi (by rfl) G.isinstance (by decide +kernel) (xa_cons (xe_var 1) (xa_cons (xe_bltn (v := .ty "tuple") (by rfl) G.tuple (by decide +kernel) rfl) xa_nil))))
 (xss_cons (xs_if (xt_wh (xw_or (xt_not (xt_val (xe_callB c_isi (by rfl) G.isinstance (by decide +kernel) (xa_cons (xe_var 0) (xa_cons (xe_bltn (v := .ty "tuple") (by rfl) G.tuple (by decide +kernel) rfl) xa_nil))))) (xw_or1 (xt_cmp (x_ne hu) (xe_callB c_len (by rfl) G.len (by decide +kernel) (xa_cons (xe_var 0) xa_nil)) (xe_callB c_len (by rfl) G.len (by decide +kernel) (xa_cons (xe_var 1) xa_nil)) (nomark _) bl_ne))))
 (xss_one (xs_ret xe_bl))
 xss_nil)
 (xss_one (xs_ret (xe_callB (c_all rfl) (by rfl) G.all (by decide +kernel) (xa_cons (xe_lc (own := [("k", 2)]) (p := .nm 2) rfl sc__law_same.nd (xi_range1 (by rfl) G.range (xa_cons (xe_callB c_len (by rfl) G.len (by decide +kernel) (xa_cons (xe_var 1) xa_nil)) xa_nil)) (blkOk_by (by show blkC ["x", "y", "k"] (defScope s__law_same) _ _ = true; decide +kernel)) (fun _ _ _ _ _ => (xg_name 2 sc__law_same.nd)) (fun _ _ _ _ _ => xts_nil) (fun _ _ _ _ _ => (xe_call F__law_same (hr.mono (by first | decide | omega)) takes0 (by rfl) (xa_cons (xe_ix hu (xe_var 0) (xe_var 2)) (xa_cons (xe_ix hu (xe_var 1) (xe_var 2)) xa_nil))))) xa_nil)))))
 xss_nil)
 (xss_cons (xs_if (xt_val (xe_callB c_isi (by rfl) G.isinstance (by decide +kernel) (xa_cons (xe_var 1) (xa_cons (xe_bltn (v := .ty "str") (by rfl) G.str (by decide +kernel) rfl) xa_nil))))
 (xss_one (xs_ret (xe_and (xe_callB c_isi (by rfl) G.isinstance (by decide +kernel) (xa_cons (xe_var 0) (xa_cons (xe_bltn (v := .ty "str") (by rfl) G.str (by decide +kernel) rfl) xa_nil))) (xe_one (xe_cmp (x_eq hu) (xe_var 0) (xe_var 1) (nomark _))))))
 xss_nil)
 (xss_one (xs_ret (xe_and (xe_call F__law_is_int (hr.mono (by first | decide | omega)) bx_takes (by rfl) (xa_cons (xe_var 0) xa_nil)) (xe_one (xe_cmp (x_eq hu) (xe_var 0) (xe_var 1) (nomark _)))))))), fun ds M Q E h => ?_⟩
  obtain ⟨d, rfl, hd, hn, h⟩ := h
  match d, hd with
  | .v (.int i), hd =>
    simp! []
    refine ⟨i, rfl, ?_⟩
    simp! []
    exact h _ Keep.refl
  | .v (.str x), hd =>
    simp! []
    exact h _ Keep.refl
  | .tup es, hd =>
    simp only [D.dat, Bool.and_eq_true, decide_eq_true_eq] at hd
    simp only [D.dp] at hn
    simp! []
    refine ⟨by omega, fun a ha => ?_⟩
    refine lc_pure (fun i : Nat => D.int (0 + (i : Int))) (fun _ => D.bl true) (fun _ => true) (List.range _) ha (fun _ _ => trivial) (by rw [List.length_range, sizeLine_eq]; omega) (fun i hi M' N sk k hy _ => ?_) fun M' k e => ?_
    · have hi := List.mem_range.mp hi
      have hi2 : i < es.length := by omega
      simp! [atI_nat' hi2]
      refine ⟨es[i], rfl, datL_mem hd.2 _ (List.getElem_mem hi2), dpL_mem (n := n - 1) (by omega) _ (List.getElem_mem hi2) |> fun z => by omega, fun M'' k2 => hy rfl M'' k2⟩
    · simp! []
      exact run_all (g := fun _ => true) e (by rw [show (List.all _ fun _ => true) = true by simp]; exact h M' k)
end K33

set_option maxHeartbeats 4000000
namespace K33
open PySem PySem.Spec PyProof.Rows L2 PL SX
open TL (numL tl joinL)
variable {P : Program} {w : World} {K : PySem.W.Frag} {mg : Str → Option Value} {base : Heap} {C_CellchainsError C_BadText v_read_integer v_read_data : Addr}
local macro_rules | `(tactic| simp! [$ls,*]) => `(tactic| simp only [to_nx, to_rt, to_bk, to_ct, to_ex, lp_nx, lp_rt, lp_bk, lp_ct, lp_ex, ret_nx, ret_rt, ret_ex, s_exK, s_bif1, s_bif0, s_optB, s_optE, s_nxD, s_ifK, s_asgN, s_asgT, s_asgL, b_nil, b_nm, b_tp, s_next, s_seq, s_drop, s_ret, s_retN, s_ifS, s_asg, s_brk, s_cont, s_put, s_put1, s_put2, s_put3, s_aug, s_augV, s_augK, s_augK2, s_bin, s_bin1, s_bin2, s_var, s_varK, s_C, s_cb, s_cbK, s_call, s_callK, s_m, s_m1, s_m2, s_nil, s_cons, s_cons1, s_cons2, s_tup, s_tupK, s_lst, s_lstK, s_truth, s_trK, s_tK, s_eK, s_cK, s_and, s_andK, s_or, s_orK, s_not, s_notK, s_ife, s_ifeK, s_andV, s_orV, s_andvK, s_orvK, s_andvK2, s_orvK2, s_notV, s_notvK, s_blK, s_neg, s_negK, s_sl, s_sl1, s_sl2, s_sl3, s_noPart, s_part, s_partK, s_rev, s_revK, s_for, s_forK, s_lc, s_lcK, s_yes, s_walk, s_walkT, s_walkS, s_walkA, s_walkL, s_walkR, s_rng1, s_rng2, s_rng1K, s_rng2K, s_callL, s_callLK, s_callLO, s_clK, s_raise, r_val, r_new, r_put, s_whK, s_lcY, s_lcT, s_lcE, s_cg, s_cgK, s_rng3, s_rng3K, s_lcB, s_lcS, wipeD, Pat.bind, seqOf, rg, s_dict0, s_sortSet, s_sortSetK, q_is_tuple, q_is_str, q_is_int, q_is_bool, q_is_list, q_isR, ofS_inj, String.reduceEq, q_eqI, q_neI, q_eqS, q_neS, decide_true, decide_false, Int.reduceEq, reduceCtorEq, i_NoneType_tuple, i_NoneType_str, i_NoneType_int, i_NoneType_bool, i_NoneType_list, i_bool_tuple, i_bool_str, i_bool_int, i_bool_bool, i_bool_list, i_int_tuple, i_int_str, i_int_int, i_int_bool, i_int_list, i_str_tuple, i_str_str, i_str_int, i_str_bool, i_str_list, i_tuple_tuple, i_tuple_str, i_tuple_int, i_tuple_bool, i_tuple_list, i_list_tuple, i_list_str, i_list_int, i_list_bool, i_list_list, i_dict_tuple, i_dict_str, i_dict_int, i_dict_bool, i_dict_list, tyN, startD, mupd_same, mupd_ne, ne_eq, not_false_eq_true, List.map_cons, List.map_nil, List.length_cons, List.length_nil, List.replicate_succ, List.replicate_zero, Nat.zero_add, Nat.reduceAdd, Nat.reduceSub, Int.cast_ofNat_Int, List.cons_append, List.nil_append, List.getElem?_cons_zero, List.getElem?_cons_succ, List.set_cons_zero, List.set_cons_succ, opIx, atI_cons, ixN, opPut, opAdd, opSub, opMul, opFdiv, opMod, opPow, opLt, opLe, opGt, opGe, opIs, opIsNot, D.isNon, truth, bLen, bAbs, bInt, bTuple, bList, isTy, mAppend, mExtend, mPop, Int.reduceLE, Int.reduceLT, Int.reduceToNat, Int.reduceNeg, Int.reduceNe, Option.bind_some, if_true, if_false, ite_true, ite_false, true_and, and_true, Bool.not_true, Bool.not_false, opIadd, Nat.reduceLT, Nat.reduceLeDiff, Int.ofNat_lt, $ls,*])
def sp_two (v1 v2 C : Addr) : DSp := fun ds M Q E => sp_ref v1 C (sp_rint C) ds M Q E ∨ sp_ref v2 C (sp_rd C) ds M Q E
theorem mono_two {v1 v2 C : Addr} : MonoSp (sp_two v1 v2 C) := by
  rintro ds M Q Q' E E' hQ hE (h | h)
  · exact .inl (mono_ref _ _ _ _ _ _ hQ hE h)
  · exact .inr (mono_ref _ _ _ _ _ _ hQ hE h)
theorem ok_or {f : Addr} {fd : FuncData} {ps : List Str} {k : Nat} {sp1 sp2 : DSp} (h1 : FnOk P w K mg base (L2.CX P w) k f fd ps (liftSp K sp1)) (h2 : FnOk P w K mg base (L2.CX P w) k f fd ps (liftSp K sp2)) : FnOk P w K mg base (L2.CX P w) k f fd ps (liftSp K fun ds M Q E => sp1 ds M Q E ∨ sp2 ds M Q E) :=
  ⟨fun vs H Q E ⟨ds, M, a, b, z⟩ => by
    rcases z with z | z
    · exact h1.1 vs H Q E ⟨ds, M, a, b, z⟩
    · exact h2.1 vs H Q E ⟨ds, M, a, b, z⟩,
   fun A outer s H args us vs Q E x1 x2 x3 x4 ⟨ds, M, a, b, z⟩ => by
    rcases z with z | z
    · exact h1.2 A outer s H args us vs Q E x1 x2 x3 x4 ⟨ds, M, a, b, z⟩
    · exact h2.2 A outer s H args us vs Q E x1 x2 x3 x4 ⟨ds, M, a, b, z⟩⟩
theorem fn_val {k : Nat} {x : Str} {sp : DSp} {v : Addr} (F : Fn P w K mg base k x sp []) (h : mg x = some (.ref v)) : MonoSp sp ∧ ∃ (fd : FuncData) (ps : List Str), FnOk P w K mg base (L2.CX P w) k v fd ps (liftSp K sp) ∧ PySem.W.keepIn K (.ref v) = true ∧ Binds K fd ps [] := by
  obtain ⟨m, f, fd, ps, ds, vds, h1, h2, h3, h4, h5, h6⟩ := F
  have e := h.symm.trans h2
  cases e
  have e2 : vds = [] := h6 (fun _ => none)
  subst e2
  cases h5
  exact ⟨m, fd, ps, h1, h3, h4⟩
theorem one_how {f0 : Addr} {sp0 : DSp} {k : Nat} {x : Str} (F : Fn P w K mg base k x sp0 []) (h : mg x = some (.ref f0)) : ∀ f sp, oneSp f0 sp0 f = some sp → MonoSp sp ∧ ∃ (fd : FuncData) (ps : List Str), FnOk P w K mg base (L2.CX P w) k f fd ps (liftSp K sp) ∧ PySem.W.keepIn K (.ref f) = true ∧ Binds K fd ps [] := by
  intro f sp e
  unfold oneSp at e
  split at e
  · rename_i z
    subst z
    cases e
    exact fn_val F h
  · cases e
/-- a nest -/
def nst : Nat → D → D
  | 0, d => d
  | k + 1, d => .tup [nst k d]
theorem replicate_cons' {k c : Nat} {l : List Nat} : List.replicate (k + 1) c ++ l = c :: (List.replicate k c ++ l) := rfl
theorem wr_nst {n : Int} : ∀ k, wr (nst k (.int n)) = List.replicate k 40 ++ W n ++ List.replicate k 41
  | 0 => by simp [nst, wr]
  | k + 1 => by
    have e : List.replicate (k + 1) 41 = List.replicate k 41 ++ [41] := List.replicate_succ'
    rw [e]
    simp only [nst, wr, wrL, joinL, wr_nst k, List.replicate_succ, List.append_assoc, List.cons_append]
theorem good_nst {n : Int} : ∀ k, good (nst k (.int n)) = true
  | 0 => rfl
  | k + 1 => by simp only [nst, good, goodL, good_nst k, Bool.and_self]
theorem fine_nst {n : Int} (h : n.natAbs < 10 ^ 180) : ∀ k, fine (nst k (.int n)) = true
  | 0 => (drawn_int (k := 0) h).fine
  | k + 1 => by simp [nst, fine, fineL, fine_nst h k]
theorem dat_nst {n : Int} : ∀ k, (nst k (.int n)).dat = true
  | 0 => rfl
  | k + 1 => by simp [nst, D.dat, datL, dat_nst k]
theorem dp_nst {n : Int} : ∀ k, (nst k (.int n)).dp = k
  | 0 => rfl
  | k + 1 => by simp [nst, D.dp, dpL, dp_nst k]
end K33

set_option maxHeartbeats 4000000
namespace K33
open PySem PySem.Spec PyProof.Rows L2 PL SX
open TL (numL tl joinL)
variable {P : Program} {w : World} {K : PySem.W.Frag} {mg : Str → Option Value} {base : Heap} {C_CellchainsError C_BadText v_read_integer v_read_data : Addr}
local macro_rules | `(tactic| simp! [$ls,*]) => `(tactic| simp only [to_nx, to_rt, to_bk, to_ct, to_ex, lp_nx, lp_rt, lp_bk, lp_ct, lp_ex, ret_nx, ret_rt, ret_ex, s_exK, s_bif1, s_bif0, s_optB, s_optE, s_nxD, s_ifK, s_asgN, s_asgT, s_asgL, b_nil, b_nm, b_tp, s_next, s_seq, s_drop, s_ret, s_retN, s_ifS, s_asg, s_brk, s_cont, s_put, s_put1, s_put2, s_put3, s_aug, s_augV, s_augK, s_augK2, s_bin, s_bin1, s_bin2, s_var, s_varK, s_C, s_cb, s_cbK, s_call, s_callK, s_m, s_m1, s_m2, s_nil, s_cons, s_cons1, s_cons2, s_tup, s_tupK, s_lst, s_lstK, s_truth, s_trK, s_tK, s_eK, s_cK, s_and, s_andK, s_or, s_orK, s_not, s_notK, s_ife, s_ifeK, s_andV, s_orV, s_andvK, s_orvK, s_andvK2, s_orvK2, s_notV, s_notvK, s_blK, s_neg, s_negK, s_sl, s_sl1, s_sl2, s_sl3, s_noPart, s_part, s_partK, s_rev, s_revK, s_for, s_forK, s_lc, s_lcK, s_yes, s_walk, s_walkT, s_walkS, s_walkA, s_walkL, s_walkR, s_rng1, s_rng2, s_rng1K, s_rng2K, s_callL, s_callLK, s_callLO, s_clK, s_raise, r_val, r_new, r_put, s_whK, s_lcY, s_lcT, s_lcE, s_cg, s_cgK, s_rng3, s_rng3K, s_lcB, s_lcS, wipeD, Pat.bind, seqOf, rg, s_dict0, s_sortSet, s_sortSetK, q_is_tuple, q_is_str, q_is_int, q_is_bool, q_is_list, q_isR, ofS_inj, String.reduceEq, q_eqI, q_neI, q_eqS, q_neS, decide_true, decide_false, Int.reduceEq, reduceCtorEq, i_NoneType_tuple, i_NoneType_str, i_NoneType_int, i_NoneType_bool, i_NoneType_list, i_bool_tuple, i_bool_str, i_bool_int, i_bool_bool, i_bool_list, i_int_tuple, i_int_str, i_int_int, i_int_bool, i_int_list, i_str_tuple, i_str_str, i_str_int, i_str_bool, i_str_list, i_tuple_tuple, i_tuple_str, i_tuple_int, i_tuple_bool, i_tuple_list, i_list_tuple, i_list_str, i_list_int, i_list_bool, i_list_list, i_dict_tuple, i_dict_str, i_dict_int, i_dict_bool, i_dict_list, tyN, startD, mupd_same, mupd_ne, ne_eq, not_false_eq_true, List.map_cons, List.map_nil, List.length_cons, List.length_nil, List.replicate_succ, List.replicate_zero, Nat.zero_add, Nat.reduceAdd, Nat.reduceSub, Int.cast_ofNat_Int, List.cons_append, List.nil_append, List.getElem?_cons_zero, List.getElem?_cons_succ, List.set_cons_zero, List.set_cons_succ, opIx, atI_cons, ixN, opPut, opAdd, opSub, opMul, opFdiv, opMod, opPow, opLt, opLe, opGt, opGe, opIs, opIsNot, D.isNon, truth, bLen, bAbs, bInt, bTuple, bList, isTy, mAppend, mExtend, mPop, Int.reduceLE, Int.reduceLT, Int.reduceToNat, Int.reduceNeg, Int.reduceNe, Option.bind_some, if_true, if_false, ite_true, ite_false, true_and, and_true, Bool.not_true, Bool.not_false, opIadd, Nat.reduceLT, Nat.reduceLeDiff, Int.ofNat_lt, $ls,*])
def sp_law (K : PySem.W.Frag) : DSp := fun ds M Q E => ∃ (a : Addr) (ns : List Int), ds = [.ob a] ∧ Scr K M a ns ∧ ∀ M', Q (.bl true) M'
theorem mono_law : MonoSp (sp_law K) := by
  rintro ds M Q Q' E E' hQ hE ⟨a, ns, h1, h2, h⟩
  exact ⟨a, ns, h1, h2, fun M' => hQ _ _ (h M')⟩
theorem ref_int {v1 v2 C : Addr} {y : Str} {M : Mem} {Q : DK} {E : DX} (h1 : readI (tl y) = none) (h2 : y.length ≤ 4000000) (h : ∀ M', Keep [] M M' → Q (.bl true) M') : sp_two v1 v2 C [.ob v1, .str y] M Q E :=
  .inl ⟨y, rfl, fun Q E hE => ⟨tl y, by rw [SX.S_tl], by rw [← len_S, SX.S_tl]; exact h2, fun v hv => (by rw [h1] at hv; cases hv), fun _ => hE M Keep.refl⟩, h⟩
theorem ref_data {v1 v2 C : Addr} {y : Str} {M : Mem} {Q : DK} {E : DX} (h1 : readD (tl y) = none) (h2 : y.length ≤ 4000000) (h : ∀ M', Keep [] M M' → Q (.bl true) M') : sp_two v1 v2 C [.ob v2, .str y] M Q E :=
  .inr ⟨y, rfl, fun Q E hE => ⟨tl y, by rw [SX.S_tl], by rw [← len_S, SX.S_tl]; exact h2, fun v M' hv => (by rw [h1] at hv; cases hv), fun M' _ k => hE M' k⟩, h⟩
theorem mul_sign {c : Nat} {d : Nat} : (⟨(List.replicate d [c]).flatten.toArray⟩ : Str) = S (List.replicate d c) := by
  have : (List.replicate d [c]).flatten = List.replicate d c := by
    induction d with
    | zero => rfl
    | succ d ih => rw [List.replicate_succ, List.flatten_cons, ih]; rfl
  rw [this]
theorem ok_law {f : Addr} {fd : FuncData} (F : Fun K "law" "law" s_law f fd) (G : GF K mg C_CellchainsError C_BadText v_read_integer v_read_data) (F__law_start : Fn P w K mg base 1 "_law_start" (sp_start K) []) (F__law_draw : Fn P w K mg base 1 "_law_draw" sp_draw []) (F__law_one_of : Fn P w K mg base 2 "_law_one_of" sp_one_of [])
    (F__law_integer_drawn : Fn P w K mg base 2 "_law_integer_drawn" sp_idrawn []) (F__law_datum_drawn : Fn P w K mg base 11 "_law_datum_drawn" (sp_ddrawn 7) []) (F__law_same : Fn P w K mg base 103 "_law_same" (sp_same 101) []) (F_write_integer : Fn P w K mg base 2 "write_integer" (sp_wint 2) [])
    (F_read_integer : Fn P w K mg base 1 "read_integer" (sp_rint C_BadText) []) (F_write_data : Fn P w K mg base 103 "write_data" (sp_wd 101) []) (F_read_data : Fn P w K mg base 3 "read_data" (sp_rd C_BadText) []) (F__law_is_refused : Fn P w K mg base 4 "_law_is_refused" (sp_two v_read_integer v_read_data C_BadText) [])
    (F__law_bad_integers : Fn P w K mg base 1 "_law_bad_integers" sp_badI []) (F__law_bad_data : Fn P w K mg base 2 "_law_bad_data" sp_badD []) : FnOk P w K mg base (L2.CX P w) 104 f fd ["script"] (liftSp K (sp_law K)) := by
  refine fn_ok F sc_law (fun ds M Q E h => by obtain ⟨a, m, rfl, _⟩ := h; rfl) ⟨_, fun cdv A outer s H E hr => have hu := hr.u200
    (xss_cons (xs_set 1 sc_law.nd (xe_call F__law_start (hr.mono (by first | decide | omega)) bx_takes (by rfl) (xa_cons (xe_var 0) xa_nil)))
 (xss_cons (xs_for (p := .nm 2) bx_passes rfl (xi_range1 (by rfl) G.range (xa_cons xe_int xa_nil)) (xg_name 2 sc_law.nd)
 (xss_cons (xs_asg (p := .tp [.nm 3, .nm 4]) (xe_call F__law_integer_drawn (hr.mono (by first | decide | omega)) bx_takes (by rfl) (xa_cons (xe_var 1) xa_nil)) (xg_tup rfl (xgs_cons (xg_name 3 sc_law.nd) (xgs_cons (xg_name 4 sc_law.nd) xgs_nil))))
 (xss_cons (xs_if (xt_wh (xw_or (xt_not (xt_val (xe_call F__law_same (hr.mono (by first | decide | omega)) bx_takes (by rfl) (xa_cons (xe_call F_write_integer (hr.mono (by first | decide | omega)) bx_takes (by rfl) (xa_cons (xe_var 3) xa_nil)) (xa_cons (xe_var 4) xa_nil))))) (xw_or1 (xt_not (xt_val (xe_call F__law_same (hr.mono (by first | decide | omega)) bx_takes (by rfl) (xa_cons (xe_call F_read_integer (hr.mono (by first | decide | omega)) bx_takes (by rfl) (xa_cons (xe_var 4) xa_nil)) (xa_cons (xe_var 3) xa_nil))))))))
 (xss_one (xs_ret xe_bl))
 xss_nil)
 (xss_cons (xs_asg (p := .tp [.nm 5, .nm 6]) (xe_call F__law_datum_drawn (hr.mono (by first | decide | omega)) bx_takes (by rfl) (xa_cons (xe_var 1) (xa_cons xe_int xa_nil))) (xg_tup rfl (xgs_cons (xg_name 5 sc_law.nd) (xgs_cons (xg_name 6 sc_law.nd) xgs_nil))))
 (xss_cons (xs_if (xt_wh (xw_or (xt_not (xt_val (xe_call F__law_same (hr.mono (by first | decide | omega)) bx_takes (by rfl) (xa_cons (xe_call F_write_data (hr.mono (by first | decide | omega)) bx_takes (by rfl) (xa_cons (xe_var 5) xa_nil)) (xa_cons (xe_var 6) xa_nil))))) (xw_or1 (xt_not (xt_val (xe_call F__law_same (hr.mono (by first | decide | omega)) bx_takes (by rfl) (xa_cons (xe_call F_read_data (hr.mono (by first | decide | omega)) bx_takes (by rfl) (xa_cons (xe_var 6) xa_nil)) (xa_cons (xe_var 5) xa_nil))))))))
 (xss_one (xs_ret xe_bl))
 xss_nil)
 (xss_cons (xs_if (xt_not (xt_val (xe_call F__law_is_refused (hr.mono (by first | decide | omega)) bx_takes (by rfl) (xa_cons (xe_glob (v := .ref _) (by rfl) G.V_read_integer rfl) (xa_cons (xe_call F__law_one_of (hr.mono (by first | decide | omega)) bx_takes (by rfl) (xa_cons (xe_var 1) (xa_cons (xe_call F__law_bad_integers (hr.mono (by first | decide | omega)) bx_takes (by rfl) (xa_cons (xe_var 4) xa_nil)) xa_nil))) xa_nil)))))
 (xss_one (xs_ret xe_bl))
 xss_nil)
 (xss_one (xs_if (xt_not (xt_val (xe_call F__law_is_refused (hr.mono (by first | decide | omega)) bx_takes (by rfl) (xa_cons (xe_glob (v := .ref _) (by rfl) G.V_read_data rfl) (xa_cons (xe_call F__law_one_of (hr.mono (by first | decide | omega)) bx_takes (by rfl) (xa_cons (xe_var 1) (xa_cons (xe_call F__law_bad_data (hr.mono (by first | decide | omega)) bx_takes (by rfl) (xa_cons (xe_var 1) (xa_cons (xe_var 6) xa_nil))) xa_nil))) xa_nil)))))
 (xss_one (xs_ret xe_bl))
 xss_nil))))))))
 (xss_cons (xs_set 7 sc_law.nd (xe_bin x_add xe_int (xe_call F__law_draw (hr.mono (by first | decide | omega)) bx_takes (by rfl) (xa_cons (xe_var 1) (xa_cons xe_int xa_nil)))))
 (xss_cons (xs_asg (p := .tp [.nm 3, .nm 4]) (xe_call F__law_integer_drawn (hr.mono (by first | decide | omega)) bx_takes (by rfl) (xa_cons (xe_var 1) xa_nil)) (xg_tup rfl (xgs_cons (xg_name 3 sc_law.nd) (xgs_cons (xg_name 4 sc_law.nd) xgs_nil))))
 (xss_cons (xs_set 8 sc_law.nd (xe_bin x_add (xe_bin x_add (xe_bin x_mul xe_str (xe_var 7)) (xe_var 4)) (xe_bin x_mul xe_str (xe_var 7))))
 (xss_cons (xs_if (xt_cmp x_gt (xe_var 7) xe_int (nomark _) bl_gt)
 (xss_one (xs_ret (xe_and (xe_call F__law_is_refused (hr.mono (by first | decide | omega)) bx_takes (by rfl) (xa_cons (xe_glob (v := .ref _) (by rfl) G.V_read_data rfl) (xa_cons (xe_var 8) xa_nil))) (xe_one (xe_call F__law_is_refused (hr.mono (by first | decide | omega)) bx_takes (by rfl) (xa_cons (xe_glob (v := .ref _) (by rfl) G.V_read_data rfl) (xa_cons (xe_bin x_add (xe_bin x_mul xe_str (xe_var 7)) (xe_bin x_mul xe_str (xe_var 7))) xa_nil)))))))
 xss_nil)
 (xss_cons (xs_set 5 sc_law.nd (xe_var 3))
 (xss_cons (xs_for (p := .nm 9) bx_passes rfl (xi_range1 (by rfl) G.range (xa_cons (xe_var 7) xa_nil)) (xg_name 9 sc_law.nd)
 (xss_one (xs_set 5 sc_law.nd (xe_tup (n := 1) (xa_cons (xe_var 5) xa_nil)))))
 (xss_one (xs_ret (xe_and (xe_call F__law_same (hr.mono (by first | decide | omega)) bx_takes (by rfl) (xa_cons (xe_call F_read_data (hr.mono (by first | decide | omega)) bx_takes (by rfl) (xa_cons (xe_var 8) xa_nil)) (xa_cons (xe_var 5) xa_nil))) (xe_one (xe_call F__law_same (hr.mono (by first | decide | omega)) bx_takes (by rfl) (xa_cons (xe_call F_write_data (hr.mono (by first | decide | omega)) bx_takes (by rfl) (xa_cons (xe_var 5) xa_nil)) (xa_cons (xe_var 8) xa_nil))))))))))))))), fun ds M Q E h => ?_⟩
  obtain ⟨a, ns, rfl, hs, h⟩ := h
  have sz : (16777216 : Nat) = sizeLine := sizeLine_eq.symm
  simp! []
  refine ⟨a, ns, rfl, hs, fun s b M1 _ _ hs1 k1 => ?_⟩
  simp! []
  refine ⟨by decide, ?_⟩
  refine loop_inv (fun i : Nat => D.int (0 + (i : Int))) (fun rest e M' => ∃ d2 d3 d4 d5 d6 : Option D, e = [some (.ob a), some (.ob s), d2, d3, d4, d5, d6, none, none, none] ∧ StAt M' s b) (fun _ _ _ _ => trivial) ?_ ?_ (List.range _) _ _ ⟨none, none, none, none, none, rfl, hs1⟩
  · rintro x rest e M2 N ⟨d2, d3, d4, d5, d6, rfl, hs2⟩ hN
    simp! []
    refine ⟨s, b, rfl, hs2, fun n M3 hn hs3 _ => ?_⟩
    have hn5 := Nat.lt_trans hn pow180
    have wl := W_len hn5
    simp! []
    refine ⟨n, rfl, trivial, hn5, fun M4 k4 => ?_⟩
    have hs4 := hs3.keep k4
    simp! []
    refine ⟨_, rfl, rfl, by simp [D.dp], fun M5 k5 => ?_⟩
    have hs5 := hs4.keep k5
    simp! []
    refine ⟨W n, rfl, by omega, fun v hv => ?_, fun z => by rw [readI_W] at z; cases z⟩
    rw [readI_W] at hv
    cases hv
    simp! []
    refine ⟨_, rfl, rfl, by simp [D.dp], fun M6 k6 => ?_⟩
    have hs6 := hs5.keep k6
    simp! []
    refine ⟨s, b, 6, rfl, by decide, by decide, hs6, fun d M7 hd hs7 _ => ?_⟩
    have hdp := hd.dp
    have dl : (wr d).length ≤ 1000000 := by
      have := hd.len
      simp only [mostL] at this
      omega
    simp! []
    refine ⟨d, rfl, by omega, hd.fine, by omega, fun M8 k8 => ?_⟩
    have hs8 := hs7.keep k8
    simp! []
    refine ⟨_, rfl, rfl, by simp [D.dp], fun M9 k9 => ?_⟩
    have hs9 := hs8.keep k9
    simp! []
    refine ⟨wr d, rfl, by omega, fun v M10 hv k10 => ?_, fun M' z _ => by rw [readD_wr hd.good (by omega)] at z; cases z⟩
    rw [readD_wr hd.good (by omega)] at hv
    cases hv
    have hs10 := hs9.keep k10
    simp! []
    refine ⟨d, rfl, hd.dat, by omega, fun M11 k11 => ?_⟩
    have hs11 := hs10.keep k11
    simp! []
    refine ⟨n, rfl, hn, fun ys r M12 hy hr hr12 k12 => ?_⟩
    have hs12 := hs11.keep k12
    have rs := (hs11.ne hr).1
    simp! []
    refine ⟨s, b, .ob r, ys.map D.str, rfl, hs12, by simp only [seqI, hr12], by simpa [ofA] using rs, by simpa using hy.2.1, by have := hy.2.2; rw [List.length_map]; omega, fun y M13 hm hs13 k13 => ?_⟩
    obtain ⟨y, hy2, rfl⟩ := List.mem_map.mp hm
    simp! []
    refine ref_int (hy.1 y hy2).1 (hy.1 y hy2).2 fun M14 k14 => ?_
    have hs14 := hs13.keep k14
    simp! []
    refine ⟨s, b, d, rfl, hs14, hd, fun ys r M15 hy hs15 hr15 hr k15 => ?_⟩
    have rs := (hs14.ne hr).1
    simp! []
    refine ⟨s, b, .ob r, ys.map D.str, rfl, hs15, by simp only [seqI, hr15], by simpa [ofA] using rs, by simpa using hy.2.1, by have := hy.2.2; rw [List.length_map]; omega, fun y M16 hm hs16 k16 => ?_⟩
    obtain ⟨y, hy2, rfl⟩ := List.mem_map.mp hm
    simp! []
    refine ref_data (hy.1 y hy2).1 (hy.1 y hy2).2 fun M17 k17 => ?_
    have hs17 := hs16.keep k17
    simp! []
    exact hN _ _ ⟨_, _, _, _, _, rfl, hs17⟩
  · rintro e M2 ⟨d2, d3, d4, d5, d6, rfl, hs2⟩
    simp! []
    refine ⟨s, b, 5, rfl, hs2, by decide, by decide, fun r M3 r0 r1 hs3 _ => ?_⟩
    obtain ⟨dp, hdp, dp1, dp2⟩ : ∃ dp : Nat, 98 + r = dp ∧ 98 ≤ dp ∧ dp ≤ 102 := ⟨(98 + r).toNat, by omega, by omega, by omega⟩
    simp! [hdp]
    refine ⟨s, b, rfl, hs3, fun n M4 hn hs4 _ => ?_⟩
    have hn5 := Nat.lt_trans hn pow180
    have wl := W_len hn5
    have o1 : (Str.ofString "(").length = 1 := by decide +kernel
    have o2 : (Str.ofString ")").length = 1 := by decide +kernel
    have o3 : (Str.ofString "(").cps.toList = [40] := by decide +kernel
    have o4 : (Str.ofString ")").cps.toList = [41] := by decide +kernel
    simp! [o1, o2, o3, o4, mul_sign, Int.toNat_natCast, S_cat, len_S, List.length_append, List.length_replicate]
    refine ⟨⟨by omega, by omega⟩, by omega, ⟨by omega, by omega⟩, by omega, bif_dec (fun z => ?_) fun z => ?_⟩
    · have deep : ∀ r : List Nat, readD (List.replicate dp 40 ++ r) = none := fun r => readD_deep (by omega)
      simp! []
      refine ref_data (by show readD (List.replicate dp 40 ++ W n ++ List.replicate dp 41) = none; rw [List.append_assoc]; exact deep _) (by rw [len_S, List.length_append, List.length_append, List.length_replicate, List.length_replicate]; omega) fun M5 k5 => ?_
      simp! [o1, o2, o3, o4, mul_sign, Int.toNat_natCast, S_cat, len_S, List.length_append, List.length_replicate]
      refine ⟨⟨by omega, by omega⟩, ⟨by omega, by omega⟩, by omega, ref_data (deep _) (by rw [len_S, List.length_append, List.length_replicate, List.length_replicate]; omega) fun M6 k6 => ?_⟩
      exact h _
    · have ew : List.replicate dp 40 ++ W n ++ List.replicate dp 41 = wr (nst dp (.int n)) := (wr_nst dp).symm
      rw [ew]
      have wl2 : (wr (nst dp (.int n))).length ≤ 4000000 := by
        rw [← ew, List.length_append, List.length_append, List.length_replicate, List.length_replicate]
        omega
      simp! []
      refine ⟨by omega, ?_⟩
      refine loop_inv (fun i : Nat => D.int (0 + (i : Int))) (fun rest e M' => ∃ (k : Nat) (d9 : Option D), k + rest.length = dp ∧ e = [some (.ob a), some (.ob s), d2, some (.int n), some (.str (S (W n))), some (nst k (.int n)), d6, some (.int (dp : Nat)), some (.str (S (wr (nst dp (.int n))))), d9]) (fun _ _ _ _ => trivial) ?_ ?_ (List.range _) _ _ ⟨0, _, by rw [List.length_range]; omega, rfl⟩
      · rintro x rest e M5 N ⟨k, d9, hk, rfl⟩ hN
        simp! []
        exact hN _ _ ⟨k + 1, _, by simp only [List.length_cons] at hk; omega, rfl⟩
      · rintro e M5 ⟨k, d9, hk, rfl⟩
        have hk : k = dp := by simpa using hk
        subst hk
        simp! []
        refine ⟨wr (nst k (.int n)), rfl, wl2, fun v M10 hv k10 => ?_, fun M' z _ => by rw [readD_wr (good_nst k) (by rw [dp_nst]; omega)] at z; cases z⟩
        rw [readD_wr (good_nst k) (by rw [dp_nst]; omega)] at hv
        cases hv
        simp! []
        refine ⟨_, rfl, dat_nst k, by rw [dp_nst]; omega, fun M11 k11 => ?_⟩
        simp! []
        refine ⟨_, rfl, by rw [dp_nst]; omega, fine_nst hn k, wl2, fun M12 k12 => ?_⟩
        simp! []
        exact ⟨_, rfl, rfl, by simp [D.dp], fun M11 k11 => h _⟩
end K33

set_option maxHeartbeats 4000000
namespace K33
open PySem PySem.Spec PyProof.Rows L2 PL
theorem law_script {K : PySem.W.Frag} {M : Mem} {a : Addr} {ns : List Int} (hl : ns.length ≤ 63) (h : Scr K M a ns) : sp_law K [.ob a] M (fun d _ => d = .bl true) fun _ _ _ => False := ⟨a, ns, rfl, h, fun _ => rfl⟩
theorem all_ok {P : Program} {w : World} {K : PySem.W.Frag} {mg : Str → Option Value} {base : Heap} {v1 v2 C1 C2 : Addr} {f : Addr} {fd : FuncData} (G : GF K mg C1 C2 v1 v2) (S1 : Src K mg "write_integer" s_write_integer ["n"]) (S2 : Src K mg "read_integer" s_read_integer ["text"]) (S3 : Src K mg "write_data" s_write_data ["datum"])
    (S4 : Src K mg "plain_text" s_plain_text ["text"]) (S5 : Src K mg "read_plain" s_read_plain ["text", "start"]) (S6 : Src K mg "read_data" s_read_data ["text"]) (S7 : Src K mg "_law_start" s__law_start ["script"]) (S8 : Src K mg "_law_draw" s__law_draw ["state", "most"]) (S9 : Src K mg "_law_one_of" s__law_one_of ["state", "items"])
    (S10 : Src K mg "_law_is_int" s__law_is_int ["x"]) (S11 : Src K mg "_law_same" s__law_same ["x", "y"]) (S12 : Src K mg "_law_integer_drawn" s__law_integer_drawn ["state"]) (S13 : Src K mg "_law_text_drawn" s__law_text_drawn ["state"]) (S14 : Src K mg "_law_datum_drawn" s__law_datum_drawn ["state", "depth"])
    (S15 : Src K mg "_law_is_refused" s__law_is_refused ["how", "text"]) (S16 : Src K mg "_law_bad_integers" s__law_bad_integers ["text"]) (S17 : Src K mg "_law_bad_data" s__law_bad_data ["state", "text"]) (F : Fun K "law" "law" s_law f fd) : FnOk P w K mg base (L2.CX P w) 104 f fd ["script"] (liftSp K (sp_law K)) :=
  have D := fn_draw S8 G
  have O := fn_one_of S9 G D
  have I := fn_idrawn S12 G D
  have RI := fn_rint S2 G
  have RD := fn_rd S6 G (fn_rp S5 G RI (fn_plain_text S4 G))
  have WI := fn_wint S1 G 2
  ok_law F G (fn_start S7 G) D O I (fn_ddrawn S14 G D I (fn_tdrawn S13 G D O) 7) (fn_same S11 G (fn_is_int S10 G) 101) WI RI (fn_wd S3 G WI 101) RD
    (S15.fn mono_two fun f fd F => ok_or (ok_ref G (one_how (RI.up (by omega)) G.V_read_integer) F) (ok_ref G (one_how RD G.V_read_data) F)) (fn_badI S16 G) (fn_badD S17 G D)
theorem exm_own {K : PySem.W.Frag} {C : Addr} (b : PySem.W.subIn K (.ref C) (.type "BaseException") = some true) (i : PySem.W.isClsIn K C = true) (t : PySem.W.typeIn K (.ref C) = some (.type "type")) (s : PySem.W.subIn K (.ref C) (.ref C) = some true) : PySem.W.exmOne K (.ref C) (.ref C) = some true := by
  have i : (PySem.W.clsIn K C).isSome = true := i
  show (if _ then (if _ then _ else _) else _) = _
  rw [b, i, t, s]
  rfl
theorem all_mk {l : PySem.W.OpenLaw} {w : World} {K : PySem.W.Frag} {h : Heap} {mg : Str → Option Value} {fa f1 f2 f3 f4 f5 f6 f7 f8 f9 f10 f11 f12 f13 f14 f15 f16 f17 f18 C_CellchainsError C_BadText : Addr} (X : K.In h) (G : h.Ns mainGlobals mg) (hfa : mg "law" = some (.ref fa))
    {od1 an1 od2 an2 od3 an3 od4 an4 od5 an5 od6 an6 od7 an7 od8 an8 od9 an9 od10 an10 od11 an11 od12 an12 od13 an13 od14 an14 od15 an15 od16 an16 od17 an17 od18 an18 : Option Addr} {sl1 sl2 sl3 sl4 sl5 sl6 sl7 sl8 sl9 sl10 sl11 sl12 sl13 sl14 sl15 sl16 sl17 sl18 : Array (Option Value)} {oc1 kV1 dc1 pm1 cd1 ct1 oc2 kV2 dc2 pm2 cd2 ct2 oc3 kV3 dc3 pm3 cd3 ct3 oc4 kV4 dc4 pm4 cd4 ct4 oc5 kV5 dc5 pm5 cd5 ct5 oc6 kV6 dc6 pm6 cd6 ct6 oc7 kV7 dc7 pm7 cd7 ct7 oc8 kV8 dc8 pm8 cd8 ct8 oc9 kV9 dc9 pm9 cd9 ct9 oc10 kV10 dc10 pm10 cd10 ct10 oc11 kV11 dc11 pm11 cd11 ct11 oc12 kV12 dc12 pm12 cd12 ct12 oc13 kV13 dc13 pm13 cd13 ct13 oc14 kV14 dc14 pm14 cd14 ct14 oc15 kV15 dc15 pm15 cd15 ct15 oc16 kV16 dc16 pm16 cd16 ct16 oc17 kV17 dc17 pm17 cd17 ct17 oc18 kV18 dc18 pm18 cd18 ct18 : Value}
    (a1 : PySem.W.nsIn K mainGlobals "write_integer" = some (some (.ref f1))) (l1 : K.lookup f1 = some ⟨oc1, od1, .func (PySem.W.fnOf "write_integer" "write_integer" (defArgs s_write_integer) (defBody s_write_integer) (defScope s_write_integer) .none kV1 dc1 pm1 an1 cd1 ct1), sl1⟩) (c1 : PySem.W.codeIn K cd1 "write_integer" = true) (k1 : PySem.W.keepIn K (.ref f1) = true)
    (a2 : PySem.W.nsIn K mainGlobals "read_integer" = some (some (.ref f2))) (l2 : K.lookup f2 = some ⟨oc2, od2, .func (PySem.W.fnOf "read_integer" "read_integer" (defArgs s_read_integer) (defBody s_read_integer) (defScope s_read_integer) .none kV2 dc2 pm2 an2 cd2 ct2), sl2⟩) (c2 : PySem.W.codeIn K cd2 "read_integer" = true) (k2 : PySem.W.keepIn K (.ref f2) = true)
    (a3 : PySem.W.nsIn K mainGlobals "write_data" = some (some (.ref f3))) (l3 : K.lookup f3 = some ⟨oc3, od3, .func (PySem.W.fnOf "write_data" "write_data" (defArgs s_write_data) (defBody s_write_data) (defScope s_write_data) .none kV3 dc3 pm3 an3 cd3 ct3), sl3⟩) (c3 : PySem.W.codeIn K cd3 "write_data" = true) (k3 : PySem.W.keepIn K (.ref f3) = true)
    (a4 : PySem.W.nsIn K mainGlobals "plain_text" = some (some (.ref f4))) (l4 : K.lookup f4 = some ⟨oc4, od4, .func (PySem.W.fnOf "plain_text" "plain_text" (defArgs s_plain_text) (defBody s_plain_text) (defScope s_plain_text) .none kV4 dc4 pm4 an4 cd4 ct4), sl4⟩) (c4 : PySem.W.codeIn K cd4 "plain_text" = true) (k4 : PySem.W.keepIn K (.ref f4) = true)
    (a5 : PySem.W.nsIn K mainGlobals "read_plain" = some (some (.ref f5))) (l5 : K.lookup f5 = some ⟨oc5, od5, .func (PySem.W.fnOf "read_plain" "read_plain" (defArgs s_read_plain) (defBody s_read_plain) (defScope s_read_plain) .none kV5 dc5 pm5 an5 cd5 ct5), sl5⟩) (c5 : PySem.W.codeIn K cd5 "read_plain" = true) (k5 : PySem.W.keepIn K (.ref f5) = true)
    (a6 : PySem.W.nsIn K mainGlobals "read_data" = some (some (.ref f6))) (l6 : K.lookup f6 = some ⟨oc6, od6, .func (PySem.W.fnOf "read_data" "read_data" (defArgs s_read_data) (defBody s_read_data) (defScope s_read_data) .none kV6 dc6 pm6 an6 cd6 ct6), sl6⟩) (c6 : PySem.W.codeIn K cd6 "read_data" = true) (k6 : PySem.W.keepIn K (.ref f6) = true)
    (a7 : PySem.W.nsIn K mainGlobals "_law_start" = some (some (.ref f7))) (l7 : K.lookup f7 = some ⟨oc7, od7, .func (PySem.W.fnOf "_law_start" "_law_start" (defArgs s__law_start) (defBody s__law_start) (defScope s__law_start) .none kV7 dc7 pm7 an7 cd7 ct7), sl7⟩) (c7 : PySem.W.codeIn K cd7 "_law_start" = true) (k7 : PySem.W.keepIn K (.ref f7) = true)
    (a8 : PySem.W.nsIn K mainGlobals "_law_draw" = some (some (.ref f8))) (l8 : K.lookup f8 = some ⟨oc8, od8, .func (PySem.W.fnOf "_law_draw" "_law_draw" (defArgs s__law_draw) (defBody s__law_draw) (defScope s__law_draw) .none kV8 dc8 pm8 an8 cd8 ct8), sl8⟩) (c8 : PySem.W.codeIn K cd8 "_law_draw" = true) (k8 : PySem.W.keepIn K (.ref f8) = true)
    (a9 : PySem.W.nsIn K mainGlobals "_law_one_of" = some (some (.ref f9))) (l9 : K.lookup f9 = some ⟨oc9, od9, .func (PySem.W.fnOf "_law_one_of" "_law_one_of" (defArgs s__law_one_of) (defBody s__law_one_of) (defScope s__law_one_of) .none kV9 dc9 pm9 an9 cd9 ct9), sl9⟩) (c9 : PySem.W.codeIn K cd9 "_law_one_of" = true) (k9 : PySem.W.keepIn K (.ref f9) = true)
    (a10 : PySem.W.nsIn K mainGlobals "_law_is_int" = some (some (.ref f10))) (l10 : K.lookup f10 = some ⟨oc10, od10, .func (PySem.W.fnOf "_law_is_int" "_law_is_int" (defArgs s__law_is_int) (defBody s__law_is_int) (defScope s__law_is_int) .none kV10 dc10 pm10 an10 cd10 ct10), sl10⟩) (c10 : PySem.W.codeIn K cd10 "_law_is_int" = true) (k10 : PySem.W.keepIn K (.ref f10) = true)
    (a11 : PySem.W.nsIn K mainGlobals "_law_same" = some (some (.ref f11))) (l11 : K.lookup f11 = some ⟨oc11, od11, .func (PySem.W.fnOf "_law_same" "_law_same" (defArgs s__law_same) (defBody s__law_same) (defScope s__law_same) .none kV11 dc11 pm11 an11 cd11 ct11), sl11⟩) (c11 : PySem.W.codeIn K cd11 "_law_same" = true) (k11 : PySem.W.keepIn K (.ref f11) = true)
    (a12 : PySem.W.nsIn K mainGlobals "_law_integer_drawn" = some (some (.ref f12))) (l12 : K.lookup f12 = some ⟨oc12, od12, .func (PySem.W.fnOf "_law_integer_drawn" "_law_integer_drawn" (defArgs s__law_integer_drawn) (defBody s__law_integer_drawn) (defScope s__law_integer_drawn) .none kV12 dc12 pm12 an12 cd12 ct12), sl12⟩) (c12 : PySem.W.codeIn K cd12 "_law_integer_drawn" = true) (k12 : PySem.W.keepIn K (.ref f12) = true)
    (a13 : PySem.W.nsIn K mainGlobals "_law_text_drawn" = some (some (.ref f13))) (l13 : K.lookup f13 = some ⟨oc13, od13, .func (PySem.W.fnOf "_law_text_drawn" "_law_text_drawn" (defArgs s__law_text_drawn) (defBody s__law_text_drawn) (defScope s__law_text_drawn) .none kV13 dc13 pm13 an13 cd13 ct13), sl13⟩) (c13 : PySem.W.codeIn K cd13 "_law_text_drawn" = true) (k13 : PySem.W.keepIn K (.ref f13) = true)
    (a14 : PySem.W.nsIn K mainGlobals "_law_datum_drawn" = some (some (.ref f14))) (l14 : K.lookup f14 = some ⟨oc14, od14, .func (PySem.W.fnOf "_law_datum_drawn" "_law_datum_drawn" (defArgs s__law_datum_drawn) (defBody s__law_datum_drawn) (defScope s__law_datum_drawn) .none kV14 dc14 pm14 an14 cd14 ct14), sl14⟩) (c14 : PySem.W.codeIn K cd14 "_law_datum_drawn" = true) (k14 : PySem.W.keepIn K (.ref f14) = true)
    (a15 : PySem.W.nsIn K mainGlobals "_law_is_refused" = some (some (.ref f15))) (l15 : K.lookup f15 = some ⟨oc15, od15, .func (PySem.W.fnOf "_law_is_refused" "_law_is_refused" (defArgs s__law_is_refused) (defBody s__law_is_refused) (defScope s__law_is_refused) .none kV15 dc15 pm15 an15 cd15 ct15), sl15⟩) (c15 : PySem.W.codeIn K cd15 "_law_is_refused" = true) (k15 : PySem.W.keepIn K (.ref f15) = true)
    (a16 : PySem.W.nsIn K mainGlobals "_law_bad_integers" = some (some (.ref f16))) (l16 : K.lookup f16 = some ⟨oc16, od16, .func (PySem.W.fnOf "_law_bad_integers" "_law_bad_integers" (defArgs s__law_bad_integers) (defBody s__law_bad_integers) (defScope s__law_bad_integers) .none kV16 dc16 pm16 an16 cd16 ct16), sl16⟩) (c16 : PySem.W.codeIn K cd16 "_law_bad_integers" = true) (k16 : PySem.W.keepIn K (.ref f16) = true)
    (a17 : PySem.W.nsIn K mainGlobals "_law_bad_data" = some (some (.ref f17))) (l17 : K.lookup f17 = some ⟨oc17, od17, .func (PySem.W.fnOf "_law_bad_data" "_law_bad_data" (defArgs s__law_bad_data) (defBody s__law_bad_data) (defScope s__law_bad_data) .none kV17 dc17 pm17 an17 cd17 ct17), sl17⟩) (c17 : PySem.W.codeIn K cd17 "_law_bad_data" = true) (k17 : PySem.W.keepIn K (.ref f17) = true)
    (a18 : PySem.W.nsIn K mainGlobals "law" = some (some (.ref f18))) (l18 : K.lookup f18 = some ⟨oc18, od18, .func (PySem.W.fnOf "law" "law" (defArgs s_law) (defBody s_law) (defScope s_law) .none kV18 dc18 pm18 an18 cd18 ct18), sl18⟩) (c18 : PySem.W.codeIn K cd18 "law" = true) (k18 : PySem.W.keepIn K (.ref f18) = true)
    (ca_CellchainsError : PySem.W.nsIn K mainGlobals "CellchainsError" = some (some (.ref C_CellchainsError))) (cn_CellchainsError : PySem.W.excIn K C_CellchainsError [.type "ValueError", .type "Exception", .type "BaseException", .type "object"] "ValueError.__new__" = true) (ck_CellchainsError : PySem.W.keepIn K (.ref C_CellchainsError) = true) (cb_CellchainsError : PySem.W.subIn K (.ref C_CellchainsError) (.type "BaseException") = some true) (ct_CellchainsError : PySem.W.typeIn K (.ref C_CellchainsError) = some (.type "type")) (ci_CellchainsError : PySem.W.isClsIn K C_CellchainsError = true) (cs_CellchainsError : PySem.W.subIn K (.ref C_CellchainsError) (.ref C_CellchainsError) = some true)
    (c1_CellchainsError : PySem.W.findIn K (.ref C_CellchainsError) "__getattribute__" = some (some (.builtin "BaseException.__getattribute__"))) (c2_CellchainsError : PySem.W.findIn K (.ref C_CellchainsError) "__getattr__" = some none) (c4_CellchainsError : PySem.W.hasDictIn K C_CellchainsError = true) (c5_CellchainsError : PySem.W.findIn K (.ref C_CellchainsError) "__class__" = some (some (.builtin "object.__class__"))) (c6_CellchainsError : PySem.W.specialIn K (.builtin "object.__class__") "__get__" = some (some (.builtin "getset_descriptor.__get__"))) (c7_CellchainsError : PySem.W.takesIn K (.builtin "object.__class__") = some true) (c8_CellchainsError : PySem.W.mroIn K C_CellchainsError (.type "object") = some true)
    (S_CellchainsError_ValueError : PySem.W.kitOne K (.ref C_CellchainsError) (.type "ValueError") = some true)
    (ca_BadText : PySem.W.nsIn K mainGlobals "BadText" = some (some (.ref C_BadText))) (cn_BadText : PySem.W.excIn K C_BadText [.type "ValueError", .type "Exception", .type "BaseException", .type "object"] "ValueError.__new__" = true) (ck_BadText : PySem.W.keepIn K (.ref C_BadText) = true) (cb_BadText : PySem.W.subIn K (.ref C_BadText) (.type "BaseException") = some true) (ct_BadText : PySem.W.typeIn K (.ref C_BadText) = some (.type "type")) (ci_BadText : PySem.W.isClsIn K C_BadText = true) (cs_BadText : PySem.W.subIn K (.ref C_BadText) (.ref C_BadText) = some true)
    (c1_BadText : PySem.W.findIn K (.ref C_BadText) "__getattribute__" = some (some (.builtin "BaseException.__getattribute__"))) (c2_BadText : PySem.W.findIn K (.ref C_BadText) "__getattr__" = some none) (c4_BadText : PySem.W.hasDictIn K C_BadText = true) (c5_BadText : PySem.W.findIn K (.ref C_BadText) "__class__" = some (some (.builtin "object.__class__"))) (c6_BadText : PySem.W.specialIn K (.builtin "object.__class__") "__get__" = some (some (.builtin "getset_descriptor.__get__"))) (c7_BadText : PySem.W.takesIn K (.builtin "object.__class__") = some true) (c8_BadText : PySem.W.mroIn K C_BadText (.type "object") = some true)
    (S_BadText_CellchainsError : PySem.W.kitOne K (.ref C_BadText) (.ref C_CellchainsError) = some true)
    (S_BadText_ValueError : PySem.W.kitOne K (.ref C_BadText) (.type "ValueError") = some true)
    (z_range : PySem.W.nsIn K mainGlobals "range" = some none)
    (z_isinstance : PySem.W.nsIn K mainGlobals "isinstance" = some none)
    (z_tuple : PySem.W.nsIn K mainGlobals "tuple" = some none)
    (z_str : PySem.W.nsIn K mainGlobals "str" = some none)
    (z_divmod : PySem.W.nsIn K mainGlobals "divmod" = some none)
    (z_len : PySem.W.nsIn K mainGlobals "len" = some none)
    (z_int : PySem.W.nsIn K mainGlobals "int" = some none)
    (z_list : PySem.W.nsIn K mainGlobals "list" = some none)
    (z_abs : PySem.W.nsIn K mainGlobals "abs" = some none)
    (z_all : PySem.W.nsIn K mainGlobals "all" = some none)
    (z_bool : PySem.W.nsIn K mainGlobals "bool" = some none)
    (z_ord : PySem.W.nsIn K mainGlobals "ord" = some none)
    {u_BASE : Value} (z_BASE : PySem.W.nsIn K mainGlobals "BASE" = some (some u_BASE)) (r_BASE : RelV (.int 10000000000000000000000000000000000000000000000000000000000000000) u_BASE)
    {u_DIGITS : Value} (z_DIGITS : PySem.W.nsIn K mainGlobals "DIGITS" = some (some u_DIGITS)) (r_DIGITS : RelV (.str "0123456789") u_DIGITS)
    {u_DEPTH : Value} (z_DEPTH : PySem.W.nsIn K mainGlobals "DEPTH" = some (some u_DEPTH)) (r_DEPTH : RelV (.int 100) u_DEPTH)
    {u_SIGNS : Value} (z_SIGNS : PySem.W.nsIn K mainGlobals "SIGNS" = some (some u_SIGNS)) (r_SIGNS : RelV (.str "-0123456789") u_SIGNS)
    : ∃ fd : FuncData, (∀ (s : Shared) (v : Value), BindsTo s fd ⟨[v], []⟩ [("script", v)]) ∧ ∀ base : Heap, K.In base → base.Ns mainGlobals mg → FnOk l.prog w K mg base (L2.CX l.prog w) 104 fa fd ["script"] (liftSp K (sp_law K)) := by
  have e := hfa.symm.trans (PySem.W.mg_of X G a18)
  cases e
  have GG : GF K mg C_CellchainsError C_BadText f2 f6 := ⟨PySem.W.mg_none_of X G z_range, PySem.W.mg_none_of X G z_isinstance, PySem.W.mg_none_of X G z_tuple, PySem.W.mg_none_of X G z_str, PySem.W.mg_none_of X G z_divmod, PySem.W.mg_none_of X G z_len, PySem.W.mg_none_of X G z_int, PySem.W.mg_none_of X G z_list, PySem.W.mg_none_of X G z_abs, PySem.W.mg_none_of X G z_all, PySem.W.mg_none_of X G z_bool, PySem.W.mg_none_of X G z_ord, ⟨_, PySem.W.mg_of X G z_BASE, r_BASE⟩, ⟨_, PySem.W.mg_of X G z_DIGITS, r_DIGITS⟩, ⟨_, PySem.W.mg_of X G z_DEPTH, r_DEPTH⟩, ⟨_, PySem.W.mg_of X G z_SIGNS, r_SIGNS⟩, ⟨PySem.W.mg_of X G ca_CellchainsError, cn_CellchainsError, ck_CellchainsError, cb_CellchainsError, ct_CellchainsError, exm_own cb_CellchainsError ci_CellchainsError ct_CellchainsError cs_CellchainsError, ⟨c1_CellchainsError, c2_CellchainsError, cb_CellchainsError, c4_CellchainsError, c5_CellchainsError, c6_CellchainsError, c7_CellchainsError, c8_CellchainsError⟩⟩, ⟨PySem.W.mg_of X G ca_BadText, cn_BadText, ck_BadText, cb_BadText, ct_BadText, exm_own cb_BadText ci_BadText ct_BadText cs_BadText, ⟨c1_BadText, c2_BadText, cb_BadText, c4_BadText, c5_BadText, c6_BadText, c7_BadText, c8_BadText⟩⟩, S_CellchainsError_ValueError, S_BadText_CellchainsError, S_BadText_ValueError, PySem.W.mg_of X G a2, PySem.W.mg_of X G a6⟩
  have F1 := fun_mk (st := s_write_integer) l1 c1 k1
  have b1 := F1.binds (ps := ["n"]) fun _ _ _ _ _ _ us hl => match us, hl with | [_], _ => rfl
  have F2 := fun_mk (st := s_read_integer) l2 c2 k2
  have b2 := F2.binds (ps := ["text"]) fun _ _ _ _ _ _ us hl => match us, hl with | [_], _ => rfl
  have F3 := fun_mk (st := s_write_data) l3 c3 k3
  have b3 := F3.binds (ps := ["datum"]) fun _ _ _ _ _ _ us hl => match us, hl with | [_], _ => rfl
  have F4 := fun_mk (st := s_plain_text) l4 c4 k4
  have b4 := F4.binds (ps := ["text"]) fun _ _ _ _ _ _ us hl => match us, hl with | [_], _ => rfl
  have F5 := fun_mk (st := s_read_plain) l5 c5 k5
  have b5 := F5.binds (ps := ["text", "start"]) fun _ _ _ _ _ _ us hl => match us, hl with | [_, _], _ => rfl
  have F6 := fun_mk (st := s_read_data) l6 c6 k6
  have b6 := F6.binds (ps := ["text"]) fun _ _ _ _ _ _ us hl => match us, hl with | [_], _ => rfl
  have F7 := fun_mk (st := s__law_start) l7 c7 k7
  have b7 := F7.binds (ps := ["script"]) fun _ _ _ _ _ _ us hl => match us, hl with | [_], _ => rfl
  have F8 := fun_mk (st := s__law_draw) l8 c8 k8
  have b8 := F8.binds (ps := ["state", "most"]) fun _ _ _ _ _ _ us hl => match us, hl with | [_, _], _ => rfl
  have F9 := fun_mk (st := s__law_one_of) l9 c9 k9
  have b9 := F9.binds (ps := ["state", "items"]) fun _ _ _ _ _ _ us hl => match us, hl with | [_, _], _ => rfl
  have F10 := fun_mk (st := s__law_is_int) l10 c10 k10
  have b10 := F10.binds (ps := ["x"]) fun _ _ _ _ _ _ us hl => match us, hl with | [_], _ => rfl
  have F11 := fun_mk (st := s__law_same) l11 c11 k11
  have b11 := F11.binds (ps := ["x", "y"]) fun _ _ _ _ _ _ us hl => match us, hl with | [_, _], _ => rfl
  have F12 := fun_mk (st := s__law_integer_drawn) l12 c12 k12
  have b12 := F12.binds (ps := ["state"]) fun _ _ _ _ _ _ us hl => match us, hl with | [_], _ => rfl
  have F13 := fun_mk (st := s__law_text_drawn) l13 c13 k13
  have b13 := F13.binds (ps := ["state"]) fun _ _ _ _ _ _ us hl => match us, hl with | [_], _ => rfl
  have F14 := fun_mk (st := s__law_datum_drawn) l14 c14 k14
  have b14 := F14.binds (ps := ["state", "depth"]) fun _ _ _ _ _ _ us hl => match us, hl with | [_, _], _ => rfl
  have F15 := fun_mk (st := s__law_is_refused) l15 c15 k15
  have b15 := F15.binds (ps := ["how", "text"]) fun _ _ _ _ _ _ us hl => match us, hl with | [_, _], _ => rfl
  have F16 := fun_mk (st := s__law_bad_integers) l16 c16 k16
  have b16 := F16.binds (ps := ["text"]) fun _ _ _ _ _ _ us hl => match us, hl with | [_], _ => rfl
  have F17 := fun_mk (st := s__law_bad_data) l17 c17 k17
  have b17 := F17.binds (ps := ["state", "text"]) fun _ _ _ _ _ _ us hl => match us, hl with | [_, _], _ => rfl
  have F18 := fun_mk (st := s_law) l18 c18 k18
  have b18 := F18.binds (ps := ["script"]) fun _ _ _ _ _ _ us hl => match us, hl with | [_], _ => rfl
  refine ⟨PySem.W.fnOf "law" "law" (defArgs s_law) (defBody s_law) (defScope s_law) .none kV18 dc18 pm18 an18 cd18 ct18, fun s v => .of_eq rfl, fun base _ _ => ?_⟩
  exact all_ok GG ⟨⟨_, _, F1, PySem.W.mg_of X G a1, k1, b1⟩⟩ ⟨⟨_, _, F2, PySem.W.mg_of X G a2, k2, b2⟩⟩ ⟨⟨_, _, F3, PySem.W.mg_of X G a3, k3, b3⟩⟩ ⟨⟨_, _, F4, PySem.W.mg_of X G a4, k4, b4⟩⟩ ⟨⟨_, _, F5, PySem.W.mg_of X G a5, k5, b5⟩⟩ ⟨⟨_, _, F6, PySem.W.mg_of X G a6, k6, b6⟩⟩ ⟨⟨_, _, F7, PySem.W.mg_of X G a7, k7, b7⟩⟩ ⟨⟨_, _, F8, PySem.W.mg_of X G a8, k8, b8⟩⟩ ⟨⟨_, _, F9, PySem.W.mg_of X G a9, k9, b9⟩⟩ ⟨⟨_, _, F10, PySem.W.mg_of X G a10, k10, b10⟩⟩ ⟨⟨_, _, F11, PySem.W.mg_of X G a11, k11, b11⟩⟩ ⟨⟨_, _, F12, PySem.W.mg_of X G a12, k12, b12⟩⟩ ⟨⟨_, _, F13, PySem.W.mg_of X G a13, k13, b13⟩⟩ ⟨⟨_, _, F14, PySem.W.mg_of X G a14, k14, b14⟩⟩ ⟨⟨_, _, F15, PySem.W.mg_of X G a15, k15, b15⟩⟩ ⟨⟨_, _, F16, PySem.W.mg_of X G a16, k16, b16⟩⟩ ⟨⟨_, _, F17, PySem.W.mg_of X G a17, k17, b17⟩⟩ F18
end K33
open PySem PySem.W PyProof.Rows
set_option maxHeartbeats 0 in
theorem PySem.Challenge.cw_cellchains_k33_integers_and_data_holds : PySem.Challenge.rw_cellchains_k33_integers_and_data.Holds := by
  w_on; o_law; k_head; (case hw => w_witness2)
  k_fill
  refine L2.walk_of (l := PySem.Challenge.rw_cellchains_k33_integers_and_data) (n := 63) (k := 104) (x := "script") (CX := fun w => L2.CX PySem.Challenge.rw_cellchains_k33_integers_and_data.prog w) (sp := fun w => PL.liftSp _ (K33.sp_law _)) rfl (by decide) rfl ⟨rfl, by decide, by decide⟩ (fun w h Y => PySem.W.kIn_of Y) ?F (fun _ H a ns hl ho hS => PL.script_rep ho hS (fun M h => K33.law_script hl h) K33.mono_law) (fun _ _ _ _ _ h => PL.cx_none h)
  case F =>
    intro w mg fa h KX G hmg
    refine' K33.all_mk KX G hmg ?a1 ?l1 ?c1 ?k1 ?a2 ?l2 ?c2 ?k2 ?a3 ?l3 ?c3 ?k3 ?a4 ?l4 ?c4 ?k4 ?a5 ?l5 ?c5 ?k5 ?a6 ?l6 ?c6 ?k6 ?a7 ?l7 ?c7 ?k7 ?a8 ?l8 ?c8 ?k8 ?a9 ?l9 ?c9 ?k9 ?a10 ?l10 ?c10 ?k10 ?a11 ?l11 ?c11 ?k11 ?a12 ?l12 ?c12 ?k12 ?a13 ?l13 ?c13 ?k13 ?a14 ?l14 ?c14 ?k14 ?a15 ?l15 ?c15 ?k15 ?a16 ?l16 ?c16 ?k16 ?a17 ?l17 ?c17 ?k17 ?a18 ?l18 ?c18 ?k18 ?ca_CellchainsError ?cn_CellchainsError ?ck_CellchainsError ?cb_CellchainsError ?ct_CellchainsError ?ci_CellchainsError ?cs_CellchainsError ?c1_CellchainsError ?c2_CellchainsError ?c4_CellchainsError ?c5_CellchainsError ?c6_CellchainsError ?c7_CellchainsError ?c8_CellchainsError ?S_CellchainsError_ValueError ?ca_BadText ?cn_BadText ?ck_BadText ?cb_BadText ?ct_BadText ?ci_BadText ?cs_BadText ?c1_BadText ?c2_BadText ?c4_BadText ?c5_BadText ?c6_BadText ?c7_BadText ?c8_BadText ?S_BadText_CellchainsError ?S_BadText_ValueError ?z_range ?z_isinstance ?z_tuple ?z_str ?z_divmod ?z_len ?z_int ?z_list ?z_abs ?z_all ?z_bool ?z_ord ?z_BASE ?r_BASE ?z_DIGITS ?r_DIGITS ?z_DEPTH ?r_DEPTH ?z_SIGNS ?r_SIGNS
    (case a1 => k_is)
    (case l1 => k_is)
    (case c1 => k_is)
    (case k1 => k_is)
    (case a2 => k_is)
    (case l2 => k_is)
    (case c2 => k_is)
    (case k2 => k_is)
    (case a3 => k_is)
    (case l3 => k_is)
    (case c3 => k_is)
    (case k3 => k_is)
    (case a4 => k_is)
    (case l4 => k_is)
    (case c4 => k_is)
    (case k4 => k_is)
    (case a5 => k_is)
    (case l5 => k_is)
    (case c5 => k_is)
    (case k5 => k_is)
    (case a6 => k_is)
    (case l6 => k_is)
    (case c6 => k_is)
    (case k6 => k_is)
    (case a7 => k_is)
    (case l7 => k_is)
    (case c7 => k_is)
    (case k7 => k_is)
    (case a8 => k_is)
    (case l8 => k_is)
    (case c8 => k_is)
    (case k8 => k_is)
    (case a9 => k_is)
    (case l9 => k_is)
    (case c9 => k_is)
    (case k9 => k_is)
    (case a10 => k_is)
    (case l10 => k_is)
    (case c10 => k_is)
    (case k10 => k_is)
    (case a11 => k_is)
    (case l11 => k_is)
    (case c11 => k_is)
    (case k11 => k_is)
    (case a12 => k_is)
    (case l12 => k_is)
    (case c12 => k_is)
    (case k12 => k_is)
    (case a13 => k_is)
    (case l13 => k_is)
    (case c13 => k_is)
    (case k13 => k_is)
    (case a14 => k_is)
    (case l14 => k_is)
    (case c14 => k_is)
    (case k14 => k_is)
    (case a15 => k_is)
    (case l15 => k_is)
    (case c15 => k_is)
    (case k15 => k_is)
    (case a16 => k_is)
    (case l16 => k_is)
    (case c16 => k_is)
    (case k16 => k_is)
    (case a17 => k_is)
    (case l17 => k_is)
    (case c17 => k_is)
    (case k17 => k_is)
    (case a18 => k_is)
    (case l18 => k_is)
    (case c18 => k_is)
    (case k18 => k_is)
    (case ca_CellchainsError => k_is)
    (case cn_CellchainsError => k_exc)
    (case ck_CellchainsError => k_is)
    (case cb_CellchainsError => k_is)
    (case ct_CellchainsError => k_is)
    (case ci_CellchainsError => k_is)
    (case cs_CellchainsError => first | rfl | k_is)
    (case c1_CellchainsError => k_is)
    (case c2_CellchainsError => k_is)
    (case c4_CellchainsError => k_is)
    (case c5_CellchainsError => k_is)
    (case c6_CellchainsError => k_is)
    (case c7_CellchainsError => k_is)
    (case c8_CellchainsError => k_is)
    (case S_CellchainsError_ValueError => kit_is)
    (case ca_BadText => k_is)
    (case cn_BadText => k_exc)
    (case ck_BadText => k_is)
    (case cb_BadText => k_is)
    (case ct_BadText => k_is)
    (case ci_BadText => k_is)
    (case cs_BadText => first | rfl | k_is)
    (case c1_BadText => k_is)
    (case c2_BadText => k_is)
    (case c4_BadText => k_is)
    (case c5_BadText => k_is)
    (case c6_BadText => k_is)
    (case c7_BadText => k_is)
    (case c8_BadText => k_is)
    (case S_BadText_CellchainsError => kit_is)
    (case S_BadText_ValueError => kit_is)
    (case z_range => k_is)
    (case z_isinstance => k_is)
    (case z_tuple => k_is)
    (case z_str => k_is)
    (case z_divmod => k_is)
    (case z_len => k_is)
    (case z_int => k_is)
    (case z_list => k_is)
    (case z_abs => k_is)
    (case z_all => k_is)
    (case z_bool => k_is)
    (case z_ord => k_is)
    (case z_BASE => k_is)
    (case r_BASE => exact ⟨_, rfl⟩)
    (case z_DIGITS => k_is)
    (case r_DIGITS => exact ⟨_, rfl⟩)
    (case z_DEPTH => k_is)
    (case r_DEPTH => exact ⟨_, rfl⟩)
    (case z_SIGNS => k_is)
    (case r_SIGNS => exact ⟨_, rfl⟩)
