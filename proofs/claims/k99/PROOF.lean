import PyProof.Rows.All
import Wide.All
import OpenK.AllK
import Wide.FinOn
import KE.KStateDown
import KE.KExcSuper
import KE.KOwnIter
import HandS.ForMost
import HandS.WordsExc
import HandS.Defaults
import HandS.IsInst
import HandS.More
import HandS.Conv
import HandS.Flow
import HandS.Property
import HandS.TryOnly
import HandS.TryMany
import HandS.TryElse
import HandS.ExcCtx
import HandS.HotCalls
import HandS.SuiteRaise
import HandS.ExcIs
import HandS.RaiseMore
import HandS.Small
import HandS.Codes
import HandS.CallLocal
import HandS.CallSlots
import HandS.TupAny
import HandS.SortInts
import HandS.SetFor
import HandS.Wide
import HandS.Walk
import HandS.FStr
import HandS.HeadHook1
import HandS.HeadHook2
import HandS.HeadHook3
import HandS.Head0
import HandS.Head1
import HandS.Head2
import HandS.HeadEnd
import HandS.Evl
import HandS.Style
import HandS.IterVal
import KE.GoesRaise
import KE.KAsSuite
import KE.IntTextLaws
import KE.KTryMore
import HandS.WideBits
import PyProof.StrLawsRepr
import PySem.Challenge.RW_pupilpairs_k99_whole_desk_line_by_line
set_option Elab.async false
set_option linter.all false
/-! own steps -/
set_option hygiene false in
local macro_rules | `(tactic| walk_at "tx") => `(tactic| focus ((repeat (first | assumption | (apply ex_tup; assumption) | (apply ext_tup; assumption))); done))
set_option hygiene false in
local macro_rules | `(tactic| walk_at "ox") => `(tactic| focus ((repeat (first | assumption | (apply ex_to; assumption))); done))
set_option hygiene false in
local macro_rules | `(tactic| walk_at "st") => `(tactic| first | (apply SqT.of; (focus ((repeat (first | assumption | (apply ex_tup; assumption) | (apply ext_tup; assumption))); done))) | exact T.t_BY_NUMBER _ | exact T.t_ALONE _ | exact T.t_WITH_ONE _)
set_option hygiene false in
local macro_rules | `(tactic| walk_at "lk") => `(tactic| focus ((repeat (first | assumption | (apply ex_to; assumption) | (apply ext_to; assumption; rotate_left; focus (first | assumption | (simp; done))))); done))
set_option hygiene false in
local macro_rules | `(tactic| walk_at "sl") => `(tactic| (apply SqL.of; (focus ((repeat (first | assumption | (apply ex_to; assumption) | (apply ext_to; assumption; rotate_left; focus (first | assumption | (simp; done))))); done))))
set_option hygiene false in
local macro_rules | `(tactic| walk_at "al") => `(tactic| (intro p hp; generalize hU : upd _ p _ = H2; have e := al_e hp hU; have g := al_g hU; clear hU))
set_option hygiene false in
local macro_rules | `(tactic| walk_at "ix") => `(tactic| first | rfl | assumption | exact atI_zero)
set_option hygiene false in
local macro_rules | `(tactic| walk_at "ex") => `(tactic| focus ((repeat (first | exact Ex.refl _ | assumption | refine Ex.trans ?_ (by assumption))); done))
set_option hygiene false in
local macro_rules | `(tactic| walk_at "xt") => `(tactic| focus ((repeat (first | exact Ext.refl _ | assumption | (refine exExt ?_; walk_at "ex") | refine Ext.trans ?_ (by assumption) | refine Ext.xl ?_ (by assumption))); done))
set_option hygiene false in
local macro_rules | `(tactic| walk_at "len") => `(tactic| repeat' (first | (obtain ⟨rfl, _⟩ := h; rfl) | (obtain ⟨_, h⟩ := h)))
set_option hygiene false in
local macro_rules | `(tactic| walk_at "cn") => `(tactic| focus (first | assumption | (simp [inV, eqV, cutV, HT.sIx]; done) | (simp [inV, eqV, cutV, HT.sIx]; omega) | (simp [inV, eqV, cutV, HT.sIx, *]; done)))
set_option hygiene false in
local macro_rules | `(tactic| walk_at "b") => `(tactic| first | ((with_reducible refine i_t ?_ ?_); (decide +kernel)) | ((with_reducible refine i_f ?_ ?_); (decide +kernel)) | ((with_reducible refine i_t ?_ ?_); ((focus (first | assumption | (simp [inV, eqV, cutV, HT.sIx]; done) | (simp [inV, eqV, cutV, HT.sIx]; omega) | (simp [inV, eqV, cutV, HT.sIx, *]; done))))) | ((with_reducible refine i_f ?_ ?_); ((focus (first | assumption | (simp [inV, eqV, cutV, HT.sIx]; done) | (simp [inV, eqV, cutV, HT.sIx]; omega) | (simp [inV, eqV, cutV, HT.sIx, *]; done))))))
set_option hygiene false in
local macro_rules | `(tactic| walk_at "sd") => `(tactic| first | assumption | decide | omega | (show CMul _ _; unfold CMul; omega) | (show CDiv _ _; unfold CDiv; omega) | (show 0 < _; omega))
set_option hygiene false in
local macro_rules | `(tactic| walk_at "go") => `(tactic| repeat (first | (with_reducible (first | refine St.imp ?_ | refine i_var rfl ?_ | refine i_eq rfl ?_ | refine i_ne rfl ?_ | refine i_aug rfl ?_)) | (first   | ((with_reducible apply i_ixT); (first | (apply SqT.of; (focus ((repeat (first | assumption | (apply ex_tup; assumption) | (apply ext_tup; assumption))); done))) | exact T.t_BY_NUMBER _ | exact T.t_ALONE _ | exact T.t_WITH_ONE _); (first | rfl | assumption | exact atI_zero)) | ((with_reducible apply i_ixL); ((apply SqL.of; (focus ((repeat (first | assumption | (apply ex_to; assumption) | (apply ext_to; assumption; rotate_left; focus (first | assumption | (simp; done))))); done)))); (first | rfl | assumption | exact atI_zero)) | ((with_reducible apply i_gtup); (first | (apply SqT.of; (focus ((repeat (first | assumption | (apply ex_tup; assumption) | (apply ext_tup; assumption))); done))) | exact T.t_BY_NUMBER _ | exact T.t_ALONE _ | exact T.t_WITH_ONE _); rfl)   | ((with_reducible apply i_slA); (focus ((repeat (first | assumption | (apply ex_tup; assumption) | (apply ext_tup; assumption))); done)); intro p H2 e g) | ((with_reducible apply i_inT); (first | (apply SqT.of; (focus ((repeat (first | assumption | (apply ex_tup; assumption) | (apply ext_tup; assumption))); done))) | exact T.t_BY_NUMBER _ | exact T.t_ALONE _ | exact T.t_WITH_ONE _); rfl; rfl) | ((with_reducible apply i_ninT); (first | (apply SqT.of; (focus ((repeat (first | assumption | (apply ex_tup; assumption) | (apply ext_tup; assumption))); done))) | exact T.t_BY_NUMBER _ | exact T.t_ALONE _ | exact T.t_WITH_ONE _); rfl; rfl)   | ((with_reducible apply i_itT); (focus ((repeat (first | assumption | (apply ex_tup; assumption) | (apply ext_tup; assumption))); done))) | ((with_reducible apply i_itL); (focus ((repeat (first | assumption | (apply ex_to; assumption) | (apply ext_to; assumption; rotate_left; focus (first | assumption | (simp; done))))); done))) | ((with_reducible apply i_isiTup); (focus ((repeat (first | assumption | (apply ex_tup; assumption) | (apply ext_tup; assumption))); done))) | ((with_reducible apply i_lenT); (focus ((repeat (first | assumption | (apply ex_tup; assumption) | (apply ext_tup; assumption))); done))) | ((with_reducible apply i_lenL); (focus ((repeat (first | assumption | (apply ex_to; assumption) | (apply ext_to; assumption; rotate_left; focus (first | assumption | (simp; done))))); done)))   | ((with_reducible apply i_all); (focus ((repeat (first | assumption | (apply ex_to; assumption) | (apply ext_to; assumption; rotate_left; focus (first | assumption | (simp; done))))); done))) | ((with_reducible apply i_listL); (focus ((repeat (first | assumption | (apply ex_to; assumption) | (apply ext_to; assumption; rotate_left; focus (first | assumption | (simp; done))))); done)); intro p H2 hp e g) | ((with_reducible apply i_listT); (focus ((repeat (first | assumption | (apply ex_tup; assumption) | (apply ext_tup; assumption))); done)); intro p H2 hp e g) | ((with_reducible apply i_tupL); (focus ((repeat (first | assumption | (apply ex_to; assumption) | (apply ext_to; assumption; rotate_left; focus (first | assumption | (simp; done))))); done)); intro p H2 hp e g)   | ((with_reducible apply i_slL); ((apply SqL.of; (focus ((repeat (first | assumption | (apply ex_to; assumption) | (apply ext_to; assumption; rotate_left; focus (first | assumption | (simp; done))))); done)))); intro p H2 hp e g) | ((with_reducible apply i_catA); (focus ((repeat (first | assumption | (apply ex_tup; assumption) | (apply ext_tup; assumption))); done)); (focus ((repeat (first | assumption | (apply ex_tup; assumption) | (apply ext_tup; assumption))); done)); (focus (first | exact Nat.le_of_ble_eq_true rfl | (simp; done) | (simp; omega))); intro p H2 e g)   | ((with_reducible apply i_inL); ((apply SqL.of; (focus ((repeat (first | assumption | (apply ex_to; assumption) | (apply ext_to; assumption; rotate_left; focus (first | assumption | (simp; done))))); done)))); rfl; rfl) | ((with_reducible apply i_ninL); ((apply SqL.of; (focus ((repeat (first | assumption | (apply ex_to; assumption) | (apply ext_to; assumption; rotate_left; focus (first | assumption | (simp; done))))); done)))); rfl; rfl)   | (with_reducible refine ⟨_, rfl, rfl, ?_⟩) | ((with_reducible refine i_tabIx ?_ ?_); (first | assumption | rfl)) | ((with_reducible apply i_tabIx); (first | assumption | rfl))   | ((with_reducible apply i_fld1); (focus ((repeat (first | assumption | (apply ex_to; assumption) | (apply ext_to; assumption; rotate_left; focus (first | assumption | (simp; done))))); done)); (first | exact T.c_Script | exact T.c_Line | exact T.c_Parade | exact T.c_Desk); (first | exact T.n_Script_width | exact T.n_Script_steps | exact T.n_Line_width | exact T.n_Line_deep | exact T.n_Line_standing | exact T.n_Parade_troop | exact T.n_Parade_calls_done | exact T.n_Parade_calls_undone | exact T.n_Parade_stands | exact T.n_Parade_missing | exact T.n_Desk_parade); rfl) | ((with_reducible apply i_met2); (focus ((repeat (first | assumption | (apply ex_to; assumption) | (apply ext_to; assumption; rotate_left; focus (first | assumption | (simp; done))))); done)); rfl) | ((with_reducible apply i_prp1); (focus ((repeat (first | assumption | (apply ex_to; assumption) | (apply ext_to; assumption; rotate_left; focus (first | assumption | (simp; done))))); done))) | ((with_reducible apply i_own1); (focus ((repeat (first | assumption | (apply ex_to; assumption) | (apply ext_to; assumption; rotate_left; focus (first | assumption | (simp; done))))); done)); rfl; (focus ((repeat (first | assumption | (apply ex_to; assumption) | (apply ext_to; assumption; rotate_left; focus (first | assumption | (simp; done))))); done)))  | ((with_reducible refine i_sz ?_ ?_); (focus (first | exact Nat.le_of_ble_eq_true rfl | (simp; done) | (simp; omega)))) | ((intro p hp; generalize hU : upd _ p _ = H2; have e := al_e hp hU; have g := al_g hU; clear hU))) | ((with_reducible refine i_rI ?_ ?_); ((first | assumption | decide | omega | (show CMul _ _; unfold CMul; omega) | (show CDiv _ _; unfold CDiv; omega) | (show 0 < _; omega)))) | (first | ((with_reducible (first | refine u_is_integer ?_ | refine u_is_files ?_ | refine u_is_rows ?_ | refine u_is_index ?_)); intro H2 e) | ((with_reducible apply u_Script_files); (focus ((repeat (first | assumption | (apply ex_to; assumption) | (apply ext_to; assumption; rotate_left; focus (first | assumption | (simp; done))))); done))) | ((with_reducible apply u_is_place); (focus ((repeat (first | assumption | (apply ex_to; assumption) | (apply ext_to; assumption; rotate_left; focus (first | assumption | (simp; done))))); done)); assumption; intro H2 e) | ((with_reducible apply i_tyL); (focus ((repeat (first | assumption | (apply ex_to; assumption) | (apply ext_to; assumption; rotate_left; focus (first | assumption | (simp; done))))); done))) | ((with_reducible apply u_getp); (focus ((repeat (first | assumption | (apply ex_to; assumption) | (apply ext_to; assumption; rotate_left; focus (first | assumption | (simp; done))))); done)); rfl) | ((with_reducible apply i_enum1); (focus ((repeat (first | assumption | (apply ex_to; assumption) | (apply ext_to; assumption; rotate_left; focus (first | assumption | (simp; done))))); done))) | ((with_reducible apply u_Parade_files); (focus ((repeat (first | assumption | (apply ex_to; assumption) | (apply ext_to; assumption; rotate_left; focus (first | assumption | (simp; done))))); done)); rfl; (focus ((repeat (first | assumption | (apply ex_to; assumption) | (apply ext_to; assumption; rotate_left; focus (first | assumption | (simp; done))))); done)); rfl) | ((with_reducible apply u_Parade_rows); (focus ((repeat (first | assumption | (apply ex_to; assumption) | (apply ext_to; assumption; rotate_left; focus (first | assumption | (simp; done))))); done)); rfl; (focus ((repeat (first | assumption | (apply ex_to; assumption) | (apply ext_to; assumption; rotate_left; focus (first | assumption | (simp; done))))); done)); rfl) | ((with_reducible apply i_lenO); (focus ((repeat (first | assumption | (apply ex_to; assumption) | (apply ext_to; assumption; rotate_left; focus (first | assumption | (simp; done))))); done)); rfl; (focus ((repeat (first | assumption | (apply ex_to; assumption) | (apply ext_to; assumption; rotate_left; focus (first | assumption | (simp; done))))); done))) | ((with_reducible apply i_dinV); (focus ((repeat (first | assumption | (apply ex_to; assumption) | (apply ext_to; assumption; rotate_left; focus (first | assumption | (simp; done))))); done))) | ((with_reducible apply i_dnotinV); (focus ((repeat (first | assumption | (apply ex_to; assumption) | (apply ext_to; assumption; rotate_left; focus (first | assumption | (simp; done))))); done))) | ((with_reducible apply i_dpop); (focus ((repeat (first | assumption | (apply ex_to; assumption) | (apply ext_to; assumption; rotate_left; focus (first | assumption | (simp; done))))); done))) | ((with_reducible apply i_lenS); omega) | ((with_reducible apply i_slS); omega)) | (first | ((with_reducible refine i_t ?_ ?_); (decide +kernel)) | ((with_reducible refine i_f ?_ ?_); (decide +kernel)) | ((with_reducible refine i_t ?_ ?_); ((focus (first | assumption | (simp [inV, eqV, cutV, HT.sIx]; done) | (simp [inV, eqV, cutV, HT.sIx]; omega) | (simp [inV, eqV, cutV, HT.sIx, *]; done))))) | ((with_reducible refine i_f ?_ ?_); ((focus (first | assumption | (simp [inV, eqV, cutV, HT.sIx]; done) | (simp [inV, eqV, cutV, HT.sIx]; omega) | (simp [inV, eqV, cutV, HT.sIx, *]; done))))))))
set_option hygiene false in
local macro_rules | `(tactic| walk_at "nm") => `(tactic| (intro z; first | (rw [List.mem_singleton.mp z] at hnd; simp at hnd; done) | (rw [z] at hnd; simp at hnd; done)))
-- PpA
set_option maxRecDepth 100000
set_option maxHeartbeats 4000000
/-! The text by places; callable things; what the top has written. -/
namespace Pp
open PySem PySem.Spec PyProof.Rows L2
def top (i : Nat) : Stmt := PySem.Challenge.pw_pupilpairs_k99_whole_desk_line_by_line.main.body.getD i (.Pass ⟨0, 0, 0, 0⟩)
/-- a def of the text, wherever it stands: its text, its address -/
abbrev DefAt (K : PySem.W.Frag) (x q : Str) (st : Stmt) (f : Addr) (fd : FuncData) : Prop := FunD K x q (defArgs st) (defBody st) (defScope st) [] [] f fd
/-- a def of the module that keeps sp -/
structure Cal (P : Program) (w : World) (K : PySem.W.Frag) (mg : Str → Option Value) (base : Heap) (C : CXT) (k : Nat) (x : Str) (sp : Sp) : Prop where
  ex : ∃ (f : Addr) (fd : FuncData) (ps : List Str), FnOk P w K mg base C k f fd ps sp ∧ mg x = some (.ref f) ∧ PySem.W.keepIn K (.ref f) = true ∧ Binds K fd ps []
/-- a method of the class at D -/
structure Met (P : Program) (w : World) (K : PySem.W.Frag) (mg : Str → Option Value) (base : Heap) (C : CXT) (k : Nat) (D : Addr) (m : Str) (sp : Sp) : Prop where
  ex : ∃ (f : Addr) (fd : FuncData) (ps : List Str), FnOk P w K mg base C k f fd ps sp ∧ Cls K D ∧ Meth K D m f ∧ Binds K fd ps []
/-- a class's maker -/
structure Mak (P : Program) (w : World) (K : PySem.W.Frag) (mg : Str → Option Value) (base : Heap) (C : CXT) (k : Nat) (x : Str) (D : Addr) (sp : Sp) : Prop where
  ex : ∃ (f : Addr) (fd : FuncData) (ps : List Str), FnOk P w K mg base C k f fd ps sp ∧ Mk K D f ∧ mg x = some (.ref D) ∧ Binds K fd ps []
section
variable {X : Cx} {C : CXT} {k j : Nat} {x m : Str} {sp : Sp} {E : L2.St → XK} {E1 : XK} {p pos apos : Pos} {e o : Expr} {es : List Expr} {t : TA} {to : TE} {D : Addr}
/-- what nothing lets out is let out nowhere -/
theorem px0 {X : Cx} : ∀ σ, PassesAt CX0 X σ (fun _ _ _ => False) := fun _ _ _ _ _ _ _ h => h.elim
theorem pxE {X : Cx} (h : Passes C X E1) : ∀ σ, PassesAt C X σ E1 := fun σ pins H s e s' I c => h pins σ H s e s' I c
/-- f(e, ..) -/
def rCal (sp : Sp) (E : L2.St → XK) (t : TA) : TE := fun σ H Q => t σ H fun vs H1 => sp vs H1 Q (E σ)
theorem pe_cal (c : Cal X.prog X.w X.K X.mg X.base C k x sp) (hr : Room j X.A) (hx : ∀ σ, PassesAt C X σ (E σ)) (ha : PA X (e :: es) t) (hk : k ≤ j := by decide) (hg : Gl X x := by rfl) (hdb : (x == ("__debug__" : Str)) = false := by decide)
    (he : starEach (e :: es) X.env = (false, eval e X.env) :: starEach es X.env := by rfl) (hpl : (backTo pos (starEach es X.env)).any (·.1) = false := by rfl) : PE X (.Call (.Name x p) (e :: es) [] pos) (rCal sp E t) := by
  obtain ⟨f, fd, ps, F, hm, hkp, hb⟩ := c.ex
  exact pe_callS F (hr.mono hk) hg hm hkp hb hx ha hdb he hpl
/-- o.m(..) -/
def rMet (D : Addr) (m : Str) (sp : Sp) (E : L2.St → XK) (to : TE) (t : TA) : TE := fun σ H Q => to σ H fun v H1 => ∃ a dx fs, v = .ref a ∧ H1 a = some (.ins D dx fs) ∧ fs.lookup m = none ∧ t σ H1 fun vs H2 => sp (v :: vs) H2 Q (E σ)
theorem pe_met {pl : Sem Bool} (c : Met X.prog X.w X.K X.mg X.base C k D m sp) (hr : Room j X.A) (hx : ∀ σ, PassesAt C X σ (E σ)) (ho : PE X o to) (ha : PA X (e :: es) t) (hk : k ≤ j := by decide)
    (hst : starEach (e :: es) X.env = (false, eval e X.env) :: starEach es X.env := by rfl) (hpl : (backTo pos (starEach es X.env)).any (·.1) = false := by rfl)
    (ht : eval (.Call (.Attribute o m apos) (e :: es) [] pos) X.env = (do
      let v ← eval o X.env
      standAt apos.atName
      let (f, first) ← holding [v] (getMethod v m pl)
      callWith pos f first (backTo pos (starEach (e :: es) X.env)) (backToKw pos (keywordEach [] X.env))) := by rfl) :
    PE X (.Call (.Attribute o m apos) (e :: es) [] pos) (rMet D m sp E to t) := by
  obtain ⟨f, fd, ps, F, cl, hm, hb⟩ := c.ex
  refine ⟨fun pins s σ H Q I h => ?_⟩
  refine PySem.W.methodCall_KW (pl := pl) (thn (ho.run pins s σ H _ I h) fun u s1 hu => ?_) ht
  obtain ⟨v, H1, I1, rx, a, dx, fs, ev, ea, l, q⟩ := hu
  subst ev
  cases (show u = Value.ref a from rx)
  refine getmeth_ok I1 ea cl hm l (PySem.W.callWith_K (first := [.ref a]) (h₀ := X.base) I.ok.mod.kin hm.kp (thn (ha.run pos pins s1 σ H1 _ I1 q) fun us s2 hs2 => ?_) hst hpl)
  obtain ⟨vs, H2, I2, r, q2⟩ := hs2
  exact ⟨I2.kIn, run_fnS (us := .ref a :: us) (vs := .ref a :: vs) F (hr.mono hk) hb (hx σ) I2 (.cons rfl r) q2⟩
def rMet0 (D : Addr) (m : Str) (sp : Sp) (E : L2.St → XK) (to : TE) : TE := fun σ H Q => to σ H fun v H1 => ∃ a dx fs, v = .ref a ∧ H1 a = some (.ins D dx fs) ∧ fs.lookup m = none ∧ sp [v] H1 Q (E σ)
theorem pe_met0 {pl : Sem Bool} (c : Met X.prog X.w X.K X.mg X.base C k D m sp) (hr : Room j X.A) (hx : ∀ σ, PassesAt C X σ (E σ)) (ho : PE X o to) (hk : k ≤ j := by decide)
    (ht : eval (.Call (.Attribute o m apos) [] [] pos) X.env = (do
      let v ← eval o X.env
      standAt apos.atName
      let (f, first) ← holding [v] (getMethod v m pl)
      callWith pos f first (backTo pos (starEach [] X.env)) (backToKw pos (keywordEach [] X.env))) := by rfl) :
    PE X (.Call (.Attribute o m apos) [] [] pos) (rMet0 D m sp E to) := by
  obtain ⟨f, fd, ps, F, cl, hm, hb⟩ := c.ex
  refine ⟨fun pins s σ H Q I h => ?_⟩
  refine PySem.W.methodCall_KW (pl := pl) (thn (ho.run pins s σ H _ I h) fun u s1 hu => ?_) ht
  obtain ⟨v, H1, I1, rx, a, dx, fs, ev, ea, l, q⟩ := hu
  subst ev
  cases (show u = Value.ref a from rx)
  exact getmeth_ok I1 ea cl hm l (PySem.W.callWith_K0 (first := [.ref a]) I1.kIn hm.kp (run_fnS (us := [.ref a]) (vs := [.ref a]) F (hr.mono hk) hb (hx σ) I1 (.cons rfl .nil) q))
/-- C(e, ..) -/
def rMak (D : Addr) (sp : Sp) (E : XK) (t : TA) : TE := fun σ H Q => t σ H fun vs H1 => ∀ x dx, H1 x = none → H1 dx = none → dx ≠ x → sp (.ref x :: vs) (upd (upd H1 dx (.own x)) x (.ins D dx [])) (fun v H2 => v = .non ∧ Q (.ref x) H2) E
theorem pe_mak (c : Mak X.prog X.w X.K X.mg X.base C k x D sp) (hr : Room j X.A) (hx : Passes C X E1) (ha : PA X (e :: es) t) (hk : k + 1 ≤ j := by decide) (hg : Gl X x := by rfl) (hdb : (x == ("__debug__" : Str)) = false := by decide)
    (he : starEach (e :: es) X.env = (false, eval e X.env) :: starEach es X.env := by rfl) (hpl : (backTo pos (starEach es X.env)).any (·.1) = false := by rfl) : PE X (.Call (.Name x p) (e :: es) [] pos) (rMak D sp E1 t) := by
  obtain ⟨f, fd, ps, F, M, hm, hb⟩ := c.ex
  refine ⟨fun pins s σ H Q I h => ?_⟩
  refine (pe_make (dvs := []) M F (hr.mono hk) hg hm hb .nil hx ha hdb he hpl).run pins s σ H Q I ?_
  have e1 : (fun (vs : List V) (H1 : Hp) => ∀ x dx, H1 x = none → H1 dx = none → dx ≠ x → sp (.ref x :: (vs ++ [])) (upd (upd H1 dx (.own x)) x (.ins D dx [])) (fun v H2 => v = .non ∧ Q (.ref x) H2) E1)
      = fun vs H1 => ∀ x dx, H1 x = none → H1 dx = none → dx ≠ x → sp (.ref x :: vs) (upd (upd H1 dx (.own x)) x (.ins D dx [])) (fun v H2 => v = .non ∧ Q (.ref x) H2) E1 := by
    funext vs H1
    rw [List.append_nil]
  show t σ H _
  rw [e1]
  exact h
def rMak0 (D : Addr) (sp : Sp) (E : XK) : TE := fun σ H Q => ∀ x dx, H x = none → H dx = none → dx ≠ x → sp [.ref x] (upd (upd H dx (.own x)) x (.ins D dx [])) (fun v H2 => v = .non ∧ Q (.ref x) H2) E
theorem pe_mak0 (c : Mak X.prog X.w X.K X.mg X.base C k x D sp) (hr : Room j X.A) (hx : Passes C X E1) (hk : k + 1 ≤ j := by decide) (hg : Gl X x := by rfl) (hdb : (x == ("__debug__" : Str)) = false := by decide) :
    PE X (.Call (.Name x p) [] [] pos) (rMak0 D sp E1) := by
  obtain ⟨f, fd, ps, F, M, hm, hb⟩ := c.ex
  exact pe_make0 (dvs := []) M F (hr.mono hk) hg hm hb .nil hx hdb
end
/-! ### a def keeps its promise -/
section
variable {P : Program} {w : World} {K : PySem.W.Frag} {mg : Str → Option Value} {base : Heap} {x q : Str} {st : Stmt} {f : Addr} {fd : FuncData} {N ps : List Str} {k : Nat} {sp : Sp}
theorem ok0 (F : DefAt K x q st f fd) (S : FnScope N ps (defScope st)) (len : ∀ vs H Q E, sp vs H Q E → vs.length = ps.length)
    (hbody : ∀ (cdv : Value) (A : Around) (outer : List Env) (s : Shared) (H : Hp) (vs : List V) (Q : VK) (E : XK), Room k (A.deeper (envOfC q (defScope st) s.heap.objs.size f cdv)) → sp vs H Q E →
      ∃ t, PSs (cxOf CX0 P w K mg base N q (defScope st) f cdv A outer s H E).nox (defBody st) t ∧ t { nx := fun _ H' => Q .non H', rt := Q } (start N vs) H) : FnOk P w K mg base CX0 (k + 1) f fd ps sp :=
  FunD.ok F S len fun cdv A outer s H vs Q E hr hsp => by
    obtain ⟨t, h, q⟩ := hbody cdv A outer s H vs Q E hr hsp
    exact ⟨t, h.nox, q⟩
theorem okX (F : DefAt K x q st f fd) (S : FnScope N ps (defScope st)) (len : ∀ vs H Q E, sp vs H Q E → vs.length = ps.length)
    (hbody : ∀ (cdv : Value) (A : Around) (outer : List Env) (s : Shared) (H : Hp) (vs : List V) (Q : VK) (E : XK), Room k (A.deeper (envOfC q (defScope st) s.heap.objs.size f cdv)) → sp vs H Q E →
      ∃ t, PSs (cxOf (L2.CX P w) P w K mg base N q (defScope st) f cdv A outer s H E) (defBody st) t ∧ t { nx := fun _ H' => Q .non H', rt := Q } (start N vs) H) : FnOk P w K mg base (L2.CX P w) (k + 1) f fd ps sp :=
  FunD.ok F S len fun cdv A outer s H vs Q E hr hsp => hbody cdv A outer s H vs Q E hr hsp
end
end Pp
-- PpHa
set_option maxRecDepth 100000
set_option maxHeartbeats 4000000
/-! The head: what is looked at. -/
namespace Pp
open PySem PySem.Spec PyProof.Rows L2
abbrev P0 : Program := PySem.Challenge.pw_pupilpairs_k99_whole_desk_line_by_line
abbrev R : PySem.W.OpenRow := PySem.W.OpenLaw.row PySem.Challenge.rw_pupilpairs_k99_whole_desk_line_by_line
/-! ### the part of the heap that is looked at -/
/-- only classes', functions', properties' own -/
def kDef (g : Addr → Option Obj) (a : Addr) : List Addr := match g a with
  | some ⟨_, _, .func fd, _⟩ => He.refV fd.code ++ fd.closure.map (·.2)
  | some ⟨_, _, .cls cd, _⟩ => [cd.ns]
  | some ⟨.type c, _, .fields vs, _⟩ => (match decide (c = "property") with
    | true => vs.toList.flatMap He.refV
    | false => [])
  | _ => []
def kNs (g : Addr → Option Obj) (a : Addr) : List Addr := match g a with
  | some ⟨_, _, .dict es _, _⟩ => es.toList.flatMap fun e => He.refV e.val
  | _ => []
def kRoots (g : Addr → Option Obj) (xs : List Str) : List Addr := xs.map fun x => He.ga (He.frG g [mainGlobals]) x
def asP (g : Addr → Option Obj) (xs : List Str) (cs : List Str) : List Addr :=
  let l1 := kRoots g xs
  let l2 := l1.flatMap (kDef g)
  let c1 := kRoots g cs
  let l3 := (c1.flatMap (kDef g)).flatMap (kNs g)
  let l4 := l3.flatMap (kDef g)
  let l5 := l4.flatMap (kDef g)
  mainGlobals :: cStatics :: (l1 ++ l2 ++ l3 ++ l4 ++ l5)
/-! ### where a def stands -/
inductive Ad where
  | glo (x : Str) | met (C m : Str) | get (C m : Str)
/-- a property's getter -/
def getA (K : PySem.W.Frag) (C m : Str) : Addr := match PySem.W.recIn K (He.ma K (He.ga K C) m) "property" with
  | some (.ref g :: _) => g
  | _ => 0
def Ad.at (K : PySem.W.Frag) : Ad → Addr
  | .glo x => He.ga K x
  | .met C m => He.ma K (He.ga K C) m
  | .get C m => getA K C m
abbrev FnT : Type := Option (Str × Str × Arguments × FuncBody × Scope × Addr × List Str × Addr)
def fnAt (K : PySem.W.Frag) (a : Addr) : FnT := match K.lookup a with
  | some ⟨_, _, .func fd, _⟩ => some (fd.name, fd.qualname, fd.params, fd.body, fd.scope, fd.globals, fd.closure.map (·.1), fd.builtins)
  | _ => none
structure Df where
  at_ : Ad
  name : Str
  qual : Str
  st : Stmt
def fnVal (name qual : Str) (st : Stmt) (cl : List Str) : FnT := some (name, qual, defArgs st, .stmts (defBody st), defScope st, mainGlobals, cl, builtinsNs)
def fnOkB (K : PySem.W.Frag) (a : Addr) (q : Str) : Bool := PySem.W.keepIn K (.ref a) && (match K.lookup a with
  | some ⟨_, _, .func fd, _⟩ => PySem.W.codeIn K fd.code q && (He.dflB K fd.defaults [] && He.kwdB K fd.kwdefaults [])
  | _ => false)
/-! ### properties -/
def propB (K : PySem.W.Frag) (C m : Str) : Bool := He.eqO (PySem.W.findIn K (.ref (He.ga K C)) m) (some (some (.ref (He.ma K (He.ga K C) m)))) && (He.eqO (PySem.W.specialIn K (.ref (He.ma K (He.ga K C) m)) "__get__") (some (some (.builtin "property.__get__"))) &&
  (decide (PySem.W.takesIn K (.ref (He.ma K (He.ga K C) m)) = some true) && (match PySem.W.recIn K (He.ma K (He.ga K C) m) "property" with
    | some (.ref _ :: _) => true
    | _ => false)))
/-! ### error classes with an __init__ of their own -/
def clsB (K : PySem.W.Frag) (C : Addr) : Bool := match K.lookup C with
  | some ⟨.type "type", _, .cls cd, sl⟩ => (match cd.mro, sl.toList with
    | .ref C' :: bm, [_, _, _, _, some (.builtin n), _] => decide (C' = C) && (decide (n = "ValueError.__new__") && (!cd.hasDel && (cd.hasDict && PySem.HandSPX.refsVE bm)))
    | _, _ => false)
  | _ => false
def iniB (K : PySem.W.Frag) (C fI : Addr) (q : Str) : Bool := match K.lookup fI with
  | some ⟨_, _, .func fd, _⟩ => (match fd.defaults, fd.kwdefaults, fd.code, fd.closure with
    | .none, .none, .ref cda, [(_, cc)] => PySem.W.codeIn K (.ref cda) q && ((match K.lookup cda with
      | some ⟨_, _, .fields vs, _⟩ => (match (vs[2]? : Option Value) with
        | some (Value.str file _) => ((P0.main.file : Str) == file)
        | _ => false)
      | _ => false) && (match K.lookup cc with
      | some ⟨_, _, .cell (some (.ref C')), _⟩ => decide (C' = C)
      | _ => false))
    | _, _, _, _ => false)
  | _ => false
def supB (K : PySem.W.Frag) (x fld : Str) : Bool := clsB K (He.ga K x) && (iniB K (He.ga K x) (He.ma K (He.ga K x) "__init__") (x ++ ".__init__") &&
  (He.eqO (PySem.W.findIn K (.ref (He.ga K x)) "__setattr__") (some (some (.builtin "object.__setattr__"))) && (He.eqO (PySem.W.findIn K (.ref (He.ga K x)) fld) (some none) &&
  (He.eqO (PySem.W.findIn K (.ref (He.ga K x)) "__init__") (some (some (.ref (He.ma K (He.ga K x) "__init__")))) && (decide (PySem.W.typeIn K (.ref (He.ma K (He.ga K x) "__init__")) = some (.type "function")) &&
  (PySem.W.keepIn K (.ref (He.ga K x)) && (decide (PySem.W.subIn K (.ref (He.ga K x)) (.type "BaseException") = some true) && (decide (PySem.W.subIn K (.ref (He.ga K x)) (.type "ValueError") = some true) &&
  (decide (PySem.W.typeIn K (.ref (He.ga K x)) = some (.type "type")) && (decide (PySem.W.mroIn K (He.ga K x) (.ref (He.ga K x)) = some true) && (He.eqO (PySem.W.ks_superIn K (He.ga K x) (He.ga K x) "__init__") (some (some (.builtin "ValueError.__init__"))) &&
  He.eqO (PySem.W.nsIn K cStatics "thirdparty.any") (some none))))))))))))
/-- the error classes -/
def errN : List Str := ["PupilError", "Wrong", "NoCall", "NoPupil", "Full", "Away", "There", "Nothing", "NoText", "NoCommand"]
def roots0 : List Str := ["is_integer", "is_files", "is_rows", "is_index", "in_blanks", "in_stops", "show_call", "show_script", "show_place", "is_call", "size_of", "turned", "on_wheel", "on_open", "moved_by", "is_place", "number_of", "place_of", "passed", "moved"]
def roots1 : List Str := ["moves_of", "parts_of", "integer_in", "call_in", "read_call", "in_one", "read_by", "_law_bag", "_law_take", "_law_one", "_law_mixed", "_law_alike", "_law_call", "_law_open", "_law_goes", "_law_words", "_law_call_text", "_law_script_text", "_law_stand", "_law_shown"]
def roots2 : List Str := ["_law_told_line", "_law_joined", "_law_desk_said", "_law_called", "_law_undone", "_law_gone", "_law_begun", "_law_line", "_law_full", "law", "Script", "Line", "Parade", "Desk", "Wrong", "NoCall", "NoPupil", "Full", "Away", "There"]
def roots3 : List Str := ["Nothing", "NoText", "NoCommand", "PupilError", "BY_NUMBER", "ALONE", "WITH_ONE", "BY_FILES", "OPEN_CALLS"]
def roots : List Str := roots0 ++ roots1 ++ roots2 ++ roots3
def rootC0 : List Str := ["Script", "Line", "Parade", "Desk", "Wrong", "NoCall", "NoPupil", "Full", "Away", "There"]
def rootC : List Str := rootC0
def fa0 : List He.Fa := [.free "len", .free "isinstance", .free "int", .free "str", .free "bool", .free "tuple", .free "list", .free "all", .free "abs", .free "sorted", .free "range", .free "enumerate", .free "iter", .free "repr", .free "super", .int "MOST_ROWS_lines" 400, .int "MOST_CALLS" 200, .int "MOST_ROWS_parade" 100, .int "MOST_SIZE" 16, .int "MOST_DIGITS" 40, .int "MOST_FILES" 3, .str "FIGURES" "0123456789", .glo "BY_NUMBER", .glo "ALONE"]
def fa1 : List He.Fa := [.glo "WITH_ONE", .glo "BY_FILES", .glo "OPEN_CALLS", .glo "is_integer", .glo "is_files", .glo "is_rows", .glo "is_index", .glo "in_blanks", .glo "in_stops", .glo "show_call", .glo "show_script", .glo "show_place", .glo "is_call", .glo "size_of", .glo "turned", .glo "on_wheel", .glo "on_open", .glo "moved_by", .glo "is_place", .glo "number_of", .glo "place_of", .glo "passed", .glo "moved", .glo "moves_of"]
def fa2 : List He.Fa := [.glo "parts_of", .glo "integer_in", .glo "call_in", .glo "read_call", .glo "in_one", .glo "read_by", .glo "_law_bag", .glo "_law_take", .glo "_law_one", .glo "_law_mixed", .glo "_law_alike", .glo "_law_call", .glo "_law_open", .glo "_law_goes", .glo "_law_words", .glo "_law_call_text", .glo "_law_script_text", .glo "_law_stand", .glo "_law_shown", .glo "_law_told_line", .glo "_law_joined", .glo "_law_desk_said", .glo "_law_called", .glo "_law_undone"]
def fa3 : List He.Fa := [.glo "_law_gone", .glo "_law_begun", .glo "_law_line", .glo "_law_full", .glo "law", .glo "Script", .cls "Script", .mkr "Script", .noat "Script" "width", .noat "Script" "steps", .meth "Script" "__init__", .meth "Script" "__iter__", .glo "Line", .cls "Line", .mkr "Line", .noat "Line" "width", .noat "Line" "deep", .noat "Line" "standing", .meth "Line" "__init__", .meth "Line" "__len__", .meth "Line" "order", .meth "Line" "place_of", .meth "Line" "row_of", .meth "Line" "is_home"]
def fa4 : List He.Fa := [.meth "Line" "follow", .meth "Line" "do", .glo "Parade", .cls "Parade", .mkr "Parade", .noat "Parade" "troop", .noat "Parade" "calls_done", .noat "Parade" "calls_undone", .noat "Parade" "stands", .noat "Parade" "missing", .meth "Parade" "__init__", .meth "Parade" "check_call", .meth "Parade" "check_pupil", .meth "Parade" "advance", .meth "Parade" "do", .meth "Parade" "back", .meth "Parade" "again", .meth "Parade" "done", .meth "Parade" "shown", .meth "Parade" "leave", .meth "Parade" "come", .meth "Parade" "away", .meth "Parade" "line", .meth "Parade" "place_of"]
def fa5 : List He.Fa := [.meth "Parade" "mates", .glo "Desk", .cls "Desk", .mkr "Desk", .noat "Desk" "parade", .meth "Desk" "__init__", .meth "Desk" "begun", .meth "Desk" "answer_alone", .meth "Desk" "answer_one", .meth "Desk" "answered", .meth "Desk" "execute", .glo "Wrong", .glo "NoCall", .glo "NoPupil", .glo "Full", .glo "Away", .glo "There", .glo "Nothing", .exc "Nothing", .glo "NoText", .exc "NoText", .glo "NoCommand", .exc "NoCommand", .glo "PupilError"]
def fa : List He.Fa := fa0 ++ fa1 ++ fa2 ++ fa3 ++ fa4 ++ fa5
def defs0 : List Df := [⟨.glo "is_integer", "is_integer", "is_integer", top 15⟩, ⟨.glo "is_files", "is_files", "is_files", top 16⟩, ⟨.glo "is_rows", "is_rows", "is_rows", top 17⟩, ⟨.glo "is_index", "is_index", "is_index", top 18⟩, ⟨.glo "in_blanks", "in_blanks", "in_blanks", top 20⟩, ⟨.glo "in_stops", "in_stops", "in_stops", top 21⟩, ⟨.glo "show_call", "show_call", "show_call", top 22⟩, ⟨.glo "show_script", "show_script", "show_script", top 23⟩, ⟨.glo "show_place", "show_place", "show_place", top 24⟩, ⟨.glo "is_call", "is_call", "is_call", top 29⟩, ⟨.glo "size_of", "size_of", "size_of", top 30⟩, ⟨.glo "turned", "turned", "turned", top 31⟩]
def defs1 : List Df := [⟨.glo "on_wheel", "on_wheel", "on_wheel", top 32⟩, ⟨.glo "on_open", "on_open", "on_open", top 33⟩, ⟨.glo "moved_by", "moved_by", "moved_by", top 34⟩, ⟨.glo "is_place", "is_place", "is_place", top 36⟩, ⟨.glo "number_of", "number_of", "number_of", top 37⟩, ⟨.glo "place_of", "place_of", "place_of", top 38⟩, ⟨.glo "passed", "passed", "passed", top 40⟩, ⟨.glo "moved", "moved", "moved", top 41⟩, ⟨.glo "moves_of", "moves_of", "moves_of", top 46⟩, ⟨.glo "parts_of", "parts_of", "parts_of", top 57⟩, ⟨.glo "integer_in", "integer_in", "integer_in", top 58⟩, ⟨.glo "call_in", "call_in", "call_in", top 59⟩]
def defs2 : List Df := [⟨.glo "read_call", "read_call", "read_call", top 60⟩, ⟨.glo "in_one", "in_one", "in_one", top 64⟩, ⟨.glo "read_by", "read_by", "read_by", top 65⟩, ⟨.glo "_law_bag", "_law_bag", "_law_bag", top 68⟩, ⟨.glo "_law_take", "_law_take", "_law_take", top 69⟩, ⟨.glo "_law_one", "_law_one", "_law_one", top 70⟩, ⟨.glo "_law_mixed", "_law_mixed", "_law_mixed", top 71⟩, ⟨.glo "_law_alike", "_law_alike", "_law_alike", top 72⟩, ⟨.glo "_law_call", "_law_call", "_law_call", top 73⟩, ⟨.glo "_law_open", "_law_open", "_law_open", top 74⟩, ⟨.glo "_law_goes", "_law_goes", "_law_goes", top 75⟩, ⟨.glo "_law_words", "_law_words", "_law_words", top 76⟩]
def defs3 : List Df := [⟨.glo "_law_call_text", "_law_call_text", "_law_call_text", top 77⟩, ⟨.glo "_law_script_text", "_law_script_text", "_law_script_text", top 78⟩, ⟨.glo "_law_stand", "_law_stand", "_law_stand", top 79⟩, ⟨.glo "_law_shown", "_law_shown", "_law_shown", top 80⟩, ⟨.glo "_law_told_line", "_law_told_line", "_law_told_line", top 81⟩, ⟨.glo "_law_joined", "_law_joined", "_law_joined", top 82⟩, ⟨.glo "_law_desk_said", "_law_desk_said", "_law_desk_said", top 83⟩, ⟨.glo "_law_called", "_law_called", "_law_called", top 84⟩, ⟨.glo "_law_undone", "_law_undone", "_law_undone", top 85⟩, ⟨.glo "_law_gone", "_law_gone", "_law_gone", top 86⟩, ⟨.glo "_law_begun", "_law_begun", "_law_begun", top 87⟩, ⟨.glo "_law_line", "_law_line", "_law_line", top 88⟩]
def defs4 : List Df := [⟨.glo "_law_full", "_law_full", "_law_full", top 89⟩, ⟨.glo "law", "law", "law", top 90⟩, ⟨.met "Script" "__init__", "__init__", "Script.__init__", inClass (top 43) 0⟩, ⟨.met "Script" "__iter__", "__iter__", "Script.__iter__", inClass (top 43) 3⟩, ⟨.get "Script" "files", "files", "Script.files", inClass (top 43) 4⟩, ⟨.met "Line" "__init__", "__init__", "Line.__init__", inClass (top 47) 0⟩, ⟨.met "Line" "__len__", "__len__", "Line.__len__", inClass (top 47) 2⟩, ⟨.get "Line" "files", "files", "Line.files", inClass (top 47) 4⟩, ⟨.get "Line" "rows", "rows", "Line.rows", inClass (top 47) 5⟩, ⟨.met "Line" "order", "order", "Line.order", inClass (top 47) 6⟩, ⟨.met "Line" "place_of", "place_of", "Line.place_of", inClass (top 47) 8⟩, ⟨.met "Line" "row_of", "row_of", "Line.row_of", inClass (top 47) 9⟩]
def defs5 : List Df := [⟨.met "Line" "is_home", "is_home", "Line.is_home", inClass (top 47) 11⟩, ⟨.met "Line" "follow", "follow", "Line.follow", inClass (top 47) 12⟩, ⟨.met "Line" "do", "do", "Line.do", inClass (top 47) 13⟩, ⟨.met "Parade" "__init__", "__init__", "Parade.__init__", inClass (top 52) 0⟩, ⟨.get "Parade" "files", "files", "Parade.files", inClass (top 52) 2⟩, ⟨.get "Parade" "rows", "rows", "Parade.rows", inClass (top 52) 3⟩, ⟨.met "Parade" "check_call", "check_call", "Parade.check_call", inClass (top 52) 4⟩, ⟨.met "Parade" "check_pupil", "check_pupil", "Parade.check_pupil", inClass (top 52) 5⟩, ⟨.met "Parade" "advance", "advance", "Parade.advance", inClass (top 52) 6⟩, ⟨.met "Parade" "do", "do", "Parade.do", inClass (top 52) 7⟩, ⟨.met "Parade" "back", "back", "Parade.back", inClass (top 52) 8⟩, ⟨.met "Parade" "again", "again", "Parade.again", inClass (top 52) 9⟩]
def defs6 : List Df := [⟨.met "Parade" "done", "done", "Parade.done", inClass (top 52) 10⟩, ⟨.met "Parade" "shown", "shown", "Parade.shown", inClass (top 52) 11⟩, ⟨.met "Parade" "leave", "leave", "Parade.leave", inClass (top 52) 13⟩, ⟨.met "Parade" "come", "come", "Parade.come", inClass (top 52) 14⟩, ⟨.met "Parade" "away", "away", "Parade.away", inClass (top 52) 15⟩, ⟨.met "Parade" "line", "line", "Parade.line", inClass (top 52) 16⟩, ⟨.met "Parade" "place_of", "place_of", "Parade.place_of", inClass (top 52) 17⟩, ⟨.met "Parade" "mates", "mates", "Parade.mates", inClass (top 52) 18⟩, ⟨.met "Desk" "__init__", "__init__", "Desk.__init__", inClass (top 66) 0⟩, ⟨.met "Desk" "begun", "begun", "Desk.begun", inClass (top 66) 1⟩, ⟨.met "Desk" "answer_alone", "answer_alone", "Desk.answer_alone", inClass (top 66) 2⟩, ⟨.met "Desk" "answer_one", "answer_one", "Desk.answer_one", inClass (top 66) 3⟩]
def defs7 : List Df := [⟨.met "Desk" "answered", "answered", "Desk.answered", inClass (top 66) 4⟩, ⟨.met "Desk" "execute", "execute", "Desk.execute", inClass (top 66) 5⟩]
def defs : List Df := defs0 ++ defs1 ++ defs2 ++ defs3 ++ defs4 ++ defs5 ++ defs6 ++ defs7
def props : List (Str × Str) := [("Script", "files"), ("Line", "files"), ("Line", "rows"), ("Parade", "files"), ("Parade", "rows")]
def sups : List (Str × Str × Stmt) := [("Wrong", "place", inClass (top 3) 0), ("NoCall", "thing", inClass (top 4) 0), ("NoPupil", "pupil", inClass (top 7) 0), ("Full", "limit", inClass (top 8) 0), ("Away", "pupil", inClass (top 10) 0), ("There", "pupil", inClass (top 11) 0)]
def dvF : List (Str × He.Dv) := [("all", .int 0), ("up", .int 1), ("swap", .int 2), ("wheel", .int 2), ("about", .int 0), ("front", .int 2), ("halve", .int 0), ("pair", .int 0), ("others", .int 0), ("fill", .int 0)]
def dvO : List (Str × He.Dv) := [("halve", .str "pair"), ("pair", .str "halve"), ("others", .str "fill"), ("fill", .str "others")]
def tabs : List (Str × List Str) := [("BY_FILES", dvF.map (·.1)), ("OPEN_CALLS", dvO.map (·.1))]
def exL (K : PySem.W.Frag) : List Bool := [He.tupB K "BY_NUMBER" [.str "all", .str "up", .str "wheel"],
  He.tupB K "ALONE" [.str "back", .str "again", .str "away", .str "script", .str "home"],
  He.tupB K "WITH_ONE" [.str "leave", .str "come", .str "where", .str "mates", .str "met", .str "row"],
  He.valsB K (He.ga K "BY_FILES") dvF,
  He.valsB K (He.ga K "OPEN_CALLS") dvO,
  He.eqO (PySem.W.nsIn K mainGlobals "place_of_moves") (some (some (.ref (He.ga K "place_of")))),
  decide (PySem.W.kitOne K (.type "tuple") (.ref (He.ga K "Script")) = some false),
  errN.all fun x => errN.all fun y => decide (PySem.W.exmOne K (.ref (He.ga K x)) (.ref (He.ga K y)) = some (decide (x = y) || decide (y = "PupilError"))),
  He.eqO (PySem.W.findIn K (.ref (He.ga K "NoCommand")) "__getattribute__") (some (some (.builtin "BaseException.__getattribute__"))),
  He.eqO (PySem.W.findIn K (.ref (He.ga K "NoCommand")) "__getattr__") (some none),
  decide (PySem.W.subIn K (.ref (He.ga K "NoCommand")) (.type "BaseException") = some true),
  PySem.W.hasDictIn K (He.ga K "NoCommand"),
  He.eqO (PySem.W.findIn K (.ref (He.ga K "NoCommand")) "__class__") (some (some (.builtin "object.__class__"))),
  He.eqO (PySem.W.specialIn K (.builtin "object.__class__") "__get__") (some (some (.builtin "getset_descriptor.__get__"))),
  decide (PySem.W.takesIn K (.builtin "object.__class__") = some true),
  decide (PySem.W.mroIn K (He.ga K "NoCommand") (.type "object") = some true),
  decide (PySem.W.kitOne K (.ref (He.ga K "NoCommand")) (.ref (He.ga K "NoCommand")) = some true),
  decide (PySem.W.kitOne K (.ref (He.ga K "NoCommand")) (.ref (He.ga K "NoText")) = some false)]
def ckB (K : PySem.W.Frag) : Bool := (fa.all fun f => f.ok K) && ((defs.all fun d => fnOkB K (d.at_.at K) d.qual) && ((props.all fun p => propB K p.1 p.2) && ((sups.all fun s => supB K s.1 s.2.1) && (exL K).all id)))
abbrev Al : Type := (Bool × List FnT) × (List FnT × List (Option (List (Option (Str × Int)))))
def obK (K : PySem.W.Frag) : Al := ((ckB K, defs.map fun d => fnAt K (d.at_.at K)), (sups.map fun s => fnAt K (He.ma K (He.ga K s.1) "__init__"), tabs.map fun t => He.dicW K (He.ga K t.1)))
def valK (w : World) : Al := ((true, defs.map fun d => fnVal d.name d.qual d.st []), (sups.map fun s => fnVal "__init__" (s.1 ++ ".__init__") s.2.2 ["__class__"], tabs.map fun t => some (He.keysIn w.params t.2)))
def obG (g : Addr → Option Obj) : Al := obK (He.frG g (asP g roots rootC))
structure Says (w : World) (K : PySem.W.Frag) : Prop where
  e : obK K = valK w
def hk : PySem.W.Hook where
  α := Al
  obs := fun s => obG s.heap.get?
  val := fun w => valK w
  says := fun w h => ∃ K : PySem.W.Frag, K.In h ∧ Says w K
  of := fun _ _ e => ⟨_, He.frG_in, ⟨e⟩⟩
  keeps := fun _ _ _ ⟨K, hK, c⟩ k => ⟨K, PySem.W.Frag.In.keeps hK k, c⟩
def ob (s : PySem.W.SharedT) : Al := obG (HandSHeadRun.getT s)
theorem ob_eq (s : PySem.W.SharedT) : ob s = hk.obs s.abs := by
  have e : HandSHeadRun.getT s = s.abs.heap.get? := funext (HandSHeadRun.getT_eq s)
  show obG (HandSHeadRun.getT s) = obG s.abs.heap.get?
  rw [e]
abbrev loose : List Str := (["_wall", "PupilError", "Wrong", "NoCall", "Unlike", "NoPlace", "NoPupil", "Full", "Nothing", "Away", "There", "NoText", "NoCommand", "is_integer", "is_files", "is_rows", "is_index", "in_blanks", "in_stops", "show_call"] : List Str) ++ (["show_script", "show_place", "BY_NUMBER", "BY_FILES", "OPEN_CALLS", "is_call", "size_of", "turned", "on_wheel", "on_open", "moved_by", "is_place", "number_of", "place_of", "place_of_moves", "passed", "moved", "Script", "MOST_ROWS_lines", "moves_of"] : List Str) ++ (["Line", "MOST_CALLS", "MOST_ROWS_parade", "MOST_SIZE", "Parade", "FIGURES", "MOST_DIGITS", "MOST_FILES", "parts_of", "integer_in", "call_in", "read_call", "ALONE", "WITH_ONE", "in_one", "read_by", "Desk", "_law_bag", "_law_take", "_law_one"] : List Str) ++ (["_law_mixed", "_law_alike", "_law_call", "_law_open", "_law_goes", "_law_words", "_law_call_text", "_law_script_text", "_law_stand", "_law_shown", "_law_told_line", "_law_joined", "_law_desk_said", "_law_called", "_law_undone", "_law_gone", "_law_begun", "_law_line", "_law_full"] : List Str)
end Pp
-- PpHr_false
set_option maxRecDepth 100000
set_option maxHeartbeats 0
namespace Pp
open PySem PySem.Spec PyProof.Rows L2
theorem run_false (w : World) : HandSHeadRun.RunEq R (PySem.W.view R.prog [90]) hk ob 9000 loose (w.withFollow "special-get-raises" false) := by
  intro os
  kernel_rfl
end Pp
-- PpHr_true
set_option maxRecDepth 100000
set_option maxHeartbeats 0
namespace Pp
open PySem PySem.Spec PyProof.Rows L2
theorem run_true (w : World) : HandSHeadRun.RunEq R (PySem.W.view R.prog [90]) hk ob 9000 loose (w.withFollow "special-get-raises" true) := by
  intro os
  kernel_rfl
end Pp
-- PpB
set_option maxRecDepth 100000
set_option maxHeartbeats 4000000
/-! What the top has written, as the walks ask it. -/
namespace Pp
open PySem PySem.Spec PyProof.Rows L2
/-! ### a dict of the top, asked by texts -/
def tabV (kvs : List (Str × V)) (z : Str) : Option V := (kvs.find? fun q => decide (q.1 = z)).map (·.2)
structure KTab (K : PySem.W.Frag) (w : World) (a : Addr) (kvs : List (Str × V)) : Prop where
  kd : ∃ es n, KDict K w a es n
  at_ : ∀ z : Str, ∃ r, PySem.W.nsIn K a z = some r ∧ RelO (tabV kvs z) r
section
variable {X : Cx} {a : Addr} {kvs : List (Str × V)}
theorem relO_some {o : Option V} {r : Option Value} (h : RelO o r) : o.isSome = r.isSome := by
  cases o <;> cases r <;> first | rfl | exact h.elim
theorem op_in_tab (T : KTab X.K X.w a kvs) : OpR X (compareOp .In) (fun x y H Q => ∃ z : Str, x = .str z ∧ y = .ref a ∧ Q (.bl (tabV kvs z).isSome) H) := by
  obtain ⟨es, n, D⟩ := T.kd
  intro pins s σ H x y v u Q I rx ry h
  obtain ⟨z, ex, ey, q⟩ := h
  obtain ⟨r, e, hr⟩ := T.at_ z
  refine op_in_kd D pins s σ H x y v u Q I rx ry ⟨z, r, ex, ey, e, ?_⟩
  rw [← relO_some hr]
  exact q
theorem op_notIn_tab (T : KTab X.K X.w a kvs) : OpR X (compareOp .NotIn) (fun x y H Q => ∃ z : Str, x = .str z ∧ y = .ref a ∧ Q (.bl (!(tabV kvs z).isSome)) H) := by
  obtain ⟨es, n, D⟩ := T.kd
  intro pins s σ H x y v u Q I rx ry h
  obtain ⟨z, ex, ey, q⟩ := h
  obtain ⟨r, e, hr⟩ := T.at_ z
  refine op_notIn_kd D pins s σ H x y v u Q I rx ry ⟨z, r, ex, ey, e, ?_⟩
  rw [← relO_some hr]
  exact q
theorem ix_tab (T : KTab X.K X.w a kvs) : IxR X (fun x y H Q => ∃ (z : Str) (v : V), x = .ref a ∧ y = .str z ∧ tabV kvs z = some v ∧ Q v H) := by
  obtain ⟨es, n, D⟩ := T.kd
  intro value slice pins s σ H x y v u Q I rx ry h hs
  obtain ⟨z, v0, ex, ey, e0, q⟩ := h
  obtain ⟨r, e, hr⟩ := T.at_ z
  rw [e0] at hr
  cases r with
  | none => exact hr.elim
  | some u0 => exact ix_kdict value slice pins s σ H x y v u Q I rx ry ⟨a, z, v0, ex, ey, ⟨es, n, u0, D.at_, D.lit, e, hr⟩, q⟩ hs
end
def tabF : List (Str × V) := [("all", .int 0), ("up", .int 1), ("swap", .int 2), ("wheel", .int 2), ("about", .int 0), ("front", .int 2), ("halve", .int 0), ("pair", .int 0), ("others", .int 0), ("fill", .int 0)]
def tabO : List (Str × V) := [("halve", .str "pair"), ("pair", .str "halve"), ("others", .str "fill"), ("fill", .str "others")]
structure Txt (K : PySem.W.Frag) (mg : Str → Option Value) (w : World) : Prop where
  b_len : mg "len" = none
  b_isinstance : mg "isinstance" = none
  b_int : mg "int" = none
  b_str : mg "str" = none
  b_bool : mg "bool" = none
  b_tuple : mg "tuple" = none
  b_list : mg "list" = none
  b_all : mg "all" = none
  b_abs : mg "abs" = none
  b_sorted : mg "sorted" = none
  b_range : mg "range" = none
  b_enumerate : mg "enumerate" = none
  b_iter : mg "iter" = none
  b_repr : mg "repr" = none
  b_super : mg "super" = none
  i_MOST_ROWS_lines : ∃ u, mg "MOST_ROWS_lines" = some u ∧ RelV (.int 400) u
  i_MOST_CALLS : ∃ u, mg "MOST_CALLS" = some u ∧ RelV (.int 200) u
  i_MOST_ROWS_parade : ∃ u, mg "MOST_ROWS_parade" = some u ∧ RelV (.int 100) u
  i_MOST_SIZE : ∃ u, mg "MOST_SIZE" = some u ∧ RelV (.int 16) u
  i_MOST_DIGITS : ∃ u, mg "MOST_DIGITS" = some u ∧ RelV (.int 40) u
  i_MOST_FILES : ∃ u, mg "MOST_FILES" = some u ∧ RelV (.int 3) u
  s_FIGURES : ∃ u, mg "FIGURES" = some u ∧ RelV (.str "0123456789") u
  g_BY_NUMBER : mg "BY_NUMBER" = some (.ref (He.ga K "BY_NUMBER"))
  g_ALONE : mg "ALONE" = some (.ref (He.ga K "ALONE"))
  g_WITH_ONE : mg "WITH_ONE" = some (.ref (He.ga K "WITH_ONE"))
  t_BY_NUMBER : ∀ H : Hp, SqT K H (He.ga K "BY_NUMBER") [V.str "all", V.str "up", V.str "wheel"]
  t_ALONE : ∀ H : Hp, SqT K H (He.ga K "ALONE") [V.str "back", V.str "again", V.str "away", V.str "script", V.str "home"]
  t_WITH_ONE : ∀ H : Hp, SqT K H (He.ga K "WITH_ONE") [V.str "leave", V.str "come", V.str "where", V.str "mates", V.str "met", V.str "row"]
  g_BY_FILES : mg "BY_FILES" = some (.ref (He.ga K "BY_FILES"))
  g_OPEN_CALLS : mg "OPEN_CALLS" = some (.ref (He.ga K "OPEN_CALLS"))
  k_BY_FILES : KTab K w (He.ga K "BY_FILES") tabF
  k_OPEN_CALLS : KTab K w (He.ga K "OPEN_CALLS") tabO
  g_place_of_moves : mg "place_of_moves" = some (.ref (He.ga K "place_of"))
  g_is_integer : mg "is_integer" = some (.ref (He.ga K "is_integer"))
  d_is_integer : ∃ fd, DefAt K "is_integer" "is_integer" (top 15) (He.ga K "is_integer") fd
  g_is_files : mg "is_files" = some (.ref (He.ga K "is_files"))
  d_is_files : ∃ fd, DefAt K "is_files" "is_files" (top 16) (He.ga K "is_files") fd
  g_is_rows : mg "is_rows" = some (.ref (He.ga K "is_rows"))
  d_is_rows : ∃ fd, DefAt K "is_rows" "is_rows" (top 17) (He.ga K "is_rows") fd
  g_is_index : mg "is_index" = some (.ref (He.ga K "is_index"))
  d_is_index : ∃ fd, DefAt K "is_index" "is_index" (top 18) (He.ga K "is_index") fd
  g_in_blanks : mg "in_blanks" = some (.ref (He.ga K "in_blanks"))
  d_in_blanks : ∃ fd, DefAt K "in_blanks" "in_blanks" (top 20) (He.ga K "in_blanks") fd
  g_in_stops : mg "in_stops" = some (.ref (He.ga K "in_stops"))
  d_in_stops : ∃ fd, DefAt K "in_stops" "in_stops" (top 21) (He.ga K "in_stops") fd
  g_show_call : mg "show_call" = some (.ref (He.ga K "show_call"))
  d_show_call : ∃ fd, DefAt K "show_call" "show_call" (top 22) (He.ga K "show_call") fd
  g_show_script : mg "show_script" = some (.ref (He.ga K "show_script"))
  d_show_script : ∃ fd, DefAt K "show_script" "show_script" (top 23) (He.ga K "show_script") fd
  g_show_place : mg "show_place" = some (.ref (He.ga K "show_place"))
  d_show_place : ∃ fd, DefAt K "show_place" "show_place" (top 24) (He.ga K "show_place") fd
  g_is_call : mg "is_call" = some (.ref (He.ga K "is_call"))
  d_is_call : ∃ fd, DefAt K "is_call" "is_call" (top 29) (He.ga K "is_call") fd
  g_size_of : mg "size_of" = some (.ref (He.ga K "size_of"))
  d_size_of : ∃ fd, DefAt K "size_of" "size_of" (top 30) (He.ga K "size_of") fd
  g_turned : mg "turned" = some (.ref (He.ga K "turned"))
  d_turned : ∃ fd, DefAt K "turned" "turned" (top 31) (He.ga K "turned") fd
  g_on_wheel : mg "on_wheel" = some (.ref (He.ga K "on_wheel"))
  d_on_wheel : ∃ fd, DefAt K "on_wheel" "on_wheel" (top 32) (He.ga K "on_wheel") fd
  g_on_open : mg "on_open" = some (.ref (He.ga K "on_open"))
  d_on_open : ∃ fd, DefAt K "on_open" "on_open" (top 33) (He.ga K "on_open") fd
  g_moved_by : mg "moved_by" = some (.ref (He.ga K "moved_by"))
  d_moved_by : ∃ fd, DefAt K "moved_by" "moved_by" (top 34) (He.ga K "moved_by") fd
  g_is_place : mg "is_place" = some (.ref (He.ga K "is_place"))
  d_is_place : ∃ fd, DefAt K "is_place" "is_place" (top 36) (He.ga K "is_place") fd
  g_number_of : mg "number_of" = some (.ref (He.ga K "number_of"))
  d_number_of : ∃ fd, DefAt K "number_of" "number_of" (top 37) (He.ga K "number_of") fd
  g_place_of : mg "place_of" = some (.ref (He.ga K "place_of"))
  d_place_of : ∃ fd, DefAt K "place_of" "place_of" (top 38) (He.ga K "place_of") fd
  g_passed : mg "passed" = some (.ref (He.ga K "passed"))
  d_passed : ∃ fd, DefAt K "passed" "passed" (top 40) (He.ga K "passed") fd
  g_moved : mg "moved" = some (.ref (He.ga K "moved"))
  d_moved : ∃ fd, DefAt K "moved" "moved" (top 41) (He.ga K "moved") fd
  g_moves_of : mg "moves_of" = some (.ref (He.ga K "moves_of"))
  d_moves_of : ∃ fd, DefAt K "moves_of" "moves_of" (top 46) (He.ga K "moves_of") fd
  g_parts_of : mg "parts_of" = some (.ref (He.ga K "parts_of"))
  d_parts_of : ∃ fd, DefAt K "parts_of" "parts_of" (top 57) (He.ga K "parts_of") fd
  g_integer_in : mg "integer_in" = some (.ref (He.ga K "integer_in"))
  d_integer_in : ∃ fd, DefAt K "integer_in" "integer_in" (top 58) (He.ga K "integer_in") fd
  g_call_in : mg "call_in" = some (.ref (He.ga K "call_in"))
  d_call_in : ∃ fd, DefAt K "call_in" "call_in" (top 59) (He.ga K "call_in") fd
  g_read_call : mg "read_call" = some (.ref (He.ga K "read_call"))
  d_read_call : ∃ fd, DefAt K "read_call" "read_call" (top 60) (He.ga K "read_call") fd
  g_in_one : mg "in_one" = some (.ref (He.ga K "in_one"))
  d_in_one : ∃ fd, DefAt K "in_one" "in_one" (top 64) (He.ga K "in_one") fd
  g_read_by : mg "read_by" = some (.ref (He.ga K "read_by"))
  d_read_by : ∃ fd, DefAt K "read_by" "read_by" (top 65) (He.ga K "read_by") fd
  g__law_bag : mg "_law_bag" = some (.ref (He.ga K "_law_bag"))
  d__law_bag : ∃ fd, DefAt K "_law_bag" "_law_bag" (top 68) (He.ga K "_law_bag") fd
  g__law_take : mg "_law_take" = some (.ref (He.ga K "_law_take"))
  d__law_take : ∃ fd, DefAt K "_law_take" "_law_take" (top 69) (He.ga K "_law_take") fd
  g__law_one : mg "_law_one" = some (.ref (He.ga K "_law_one"))
  d__law_one : ∃ fd, DefAt K "_law_one" "_law_one" (top 70) (He.ga K "_law_one") fd
  g__law_mixed : mg "_law_mixed" = some (.ref (He.ga K "_law_mixed"))
  d__law_mixed : ∃ fd, DefAt K "_law_mixed" "_law_mixed" (top 71) (He.ga K "_law_mixed") fd
  g__law_alike : mg "_law_alike" = some (.ref (He.ga K "_law_alike"))
  d__law_alike : ∃ fd, DefAt K "_law_alike" "_law_alike" (top 72) (He.ga K "_law_alike") fd
  g__law_call : mg "_law_call" = some (.ref (He.ga K "_law_call"))
  d__law_call : ∃ fd, DefAt K "_law_call" "_law_call" (top 73) (He.ga K "_law_call") fd
  g__law_open : mg "_law_open" = some (.ref (He.ga K "_law_open"))
  d__law_open : ∃ fd, DefAt K "_law_open" "_law_open" (top 74) (He.ga K "_law_open") fd
  g__law_goes : mg "_law_goes" = some (.ref (He.ga K "_law_goes"))
  d__law_goes : ∃ fd, DefAt K "_law_goes" "_law_goes" (top 75) (He.ga K "_law_goes") fd
  g__law_words : mg "_law_words" = some (.ref (He.ga K "_law_words"))
  d__law_words : ∃ fd, DefAt K "_law_words" "_law_words" (top 76) (He.ga K "_law_words") fd
  g__law_call_text : mg "_law_call_text" = some (.ref (He.ga K "_law_call_text"))
  d__law_call_text : ∃ fd, DefAt K "_law_call_text" "_law_call_text" (top 77) (He.ga K "_law_call_text") fd
  g__law_script_text : mg "_law_script_text" = some (.ref (He.ga K "_law_script_text"))
  d__law_script_text : ∃ fd, DefAt K "_law_script_text" "_law_script_text" (top 78) (He.ga K "_law_script_text") fd
  g__law_stand : mg "_law_stand" = some (.ref (He.ga K "_law_stand"))
  d__law_stand : ∃ fd, DefAt K "_law_stand" "_law_stand" (top 79) (He.ga K "_law_stand") fd
  g__law_shown : mg "_law_shown" = some (.ref (He.ga K "_law_shown"))
  d__law_shown : ∃ fd, DefAt K "_law_shown" "_law_shown" (top 80) (He.ga K "_law_shown") fd
  g__law_told_line : mg "_law_told_line" = some (.ref (He.ga K "_law_told_line"))
  d__law_told_line : ∃ fd, DefAt K "_law_told_line" "_law_told_line" (top 81) (He.ga K "_law_told_line") fd
  g__law_joined : mg "_law_joined" = some (.ref (He.ga K "_law_joined"))
  d__law_joined : ∃ fd, DefAt K "_law_joined" "_law_joined" (top 82) (He.ga K "_law_joined") fd
  g__law_desk_said : mg "_law_desk_said" = some (.ref (He.ga K "_law_desk_said"))
  d__law_desk_said : ∃ fd, DefAt K "_law_desk_said" "_law_desk_said" (top 83) (He.ga K "_law_desk_said") fd
  g__law_called : mg "_law_called" = some (.ref (He.ga K "_law_called"))
  d__law_called : ∃ fd, DefAt K "_law_called" "_law_called" (top 84) (He.ga K "_law_called") fd
  g__law_undone : mg "_law_undone" = some (.ref (He.ga K "_law_undone"))
  d__law_undone : ∃ fd, DefAt K "_law_undone" "_law_undone" (top 85) (He.ga K "_law_undone") fd
  g__law_gone : mg "_law_gone" = some (.ref (He.ga K "_law_gone"))
  d__law_gone : ∃ fd, DefAt K "_law_gone" "_law_gone" (top 86) (He.ga K "_law_gone") fd
  g__law_begun : mg "_law_begun" = some (.ref (He.ga K "_law_begun"))
  d__law_begun : ∃ fd, DefAt K "_law_begun" "_law_begun" (top 87) (He.ga K "_law_begun") fd
  g__law_line : mg "_law_line" = some (.ref (He.ga K "_law_line"))
  d__law_line : ∃ fd, DefAt K "_law_line" "_law_line" (top 88) (He.ga K "_law_line") fd
  g__law_full : mg "_law_full" = some (.ref (He.ga K "_law_full"))
  d__law_full : ∃ fd, DefAt K "_law_full" "_law_full" (top 89) (He.ga K "_law_full") fd
  g_law : mg "law" = some (.ref (He.ga K "law"))
  d_law : ∃ fd, DefAt K "law" "law" (top 90) (He.ga K "law") fd
  g_Script : mg "Script" = some (.ref (He.ga K "Script"))
  c_Script : Cls K (He.ga K "Script")
  mk_Script : Mk K (He.ga K "Script") (He.ma K (He.ga K "Script") "__init__")
  n_Script_width : NoAttr K (He.ga K "Script") "width"
  n_Script_steps : NoAttr K (He.ga K "Script") "steps"
  d_Script___init__ : ∃ fd, DefAt K "__init__" "Script.__init__" (inClass (top 43) 0) (He.ma K (He.ga K "Script") "__init__") fd
  a_Script___init__ : Meth K (He.ga K "Script") "__init__" (He.ma K (He.ga K "Script") "__init__")
  d_Script___iter__ : ∃ fd, DefAt K "__iter__" "Script.__iter__" (inClass (top 43) 3) (He.ma K (He.ga K "Script") "__iter__") fd
  a_Script___iter__ : Meth K (He.ga K "Script") "__iter__" (He.ma K (He.ga K "Script") "__iter__")
  p_Script_files : ∃ p g fd, PropOf K (He.ga K "Script") "files" p g ∧ DefAt K "files" "Script.files" (inClass (top 43) 4) g fd
  g_Line : mg "Line" = some (.ref (He.ga K "Line"))
  c_Line : Cls K (He.ga K "Line")
  mk_Line : Mk K (He.ga K "Line") (He.ma K (He.ga K "Line") "__init__")
  n_Line_width : NoAttr K (He.ga K "Line") "width"
  n_Line_deep : NoAttr K (He.ga K "Line") "deep"
  n_Line_standing : NoAttr K (He.ga K "Line") "standing"
  d_Line___init__ : ∃ fd, DefAt K "__init__" "Line.__init__" (inClass (top 47) 0) (He.ma K (He.ga K "Line") "__init__") fd
  a_Line___init__ : Meth K (He.ga K "Line") "__init__" (He.ma K (He.ga K "Line") "__init__")
  d_Line___len__ : ∃ fd, DefAt K "__len__" "Line.__len__" (inClass (top 47) 2) (He.ma K (He.ga K "Line") "__len__") fd
  a_Line___len__ : Meth K (He.ga K "Line") "__len__" (He.ma K (He.ga K "Line") "__len__")
  p_Line_files : ∃ p g fd, PropOf K (He.ga K "Line") "files" p g ∧ DefAt K "files" "Line.files" (inClass (top 47) 4) g fd
  p_Line_rows : ∃ p g fd, PropOf K (He.ga K "Line") "rows" p g ∧ DefAt K "rows" "Line.rows" (inClass (top 47) 5) g fd
  d_Line_order : ∃ fd, DefAt K "order" "Line.order" (inClass (top 47) 6) (He.ma K (He.ga K "Line") "order") fd
  a_Line_order : Meth K (He.ga K "Line") "order" (He.ma K (He.ga K "Line") "order")
  d_Line_place_of : ∃ fd, DefAt K "place_of" "Line.place_of" (inClass (top 47) 8) (He.ma K (He.ga K "Line") "place_of") fd
  a_Line_place_of : Meth K (He.ga K "Line") "place_of" (He.ma K (He.ga K "Line") "place_of")
  d_Line_row_of : ∃ fd, DefAt K "row_of" "Line.row_of" (inClass (top 47) 9) (He.ma K (He.ga K "Line") "row_of") fd
  a_Line_row_of : Meth K (He.ga K "Line") "row_of" (He.ma K (He.ga K "Line") "row_of")
  d_Line_is_home : ∃ fd, DefAt K "is_home" "Line.is_home" (inClass (top 47) 11) (He.ma K (He.ga K "Line") "is_home") fd
  a_Line_is_home : Meth K (He.ga K "Line") "is_home" (He.ma K (He.ga K "Line") "is_home")
  d_Line_follow : ∃ fd, DefAt K "follow" "Line.follow" (inClass (top 47) 12) (He.ma K (He.ga K "Line") "follow") fd
  a_Line_follow : Meth K (He.ga K "Line") "follow" (He.ma K (He.ga K "Line") "follow")
  d_Line_do : ∃ fd, DefAt K "do" "Line.do" (inClass (top 47) 13) (He.ma K (He.ga K "Line") "do") fd
  a_Line_do : Meth K (He.ga K "Line") "do" (He.ma K (He.ga K "Line") "do")
  g_Parade : mg "Parade" = some (.ref (He.ga K "Parade"))
  c_Parade : Cls K (He.ga K "Parade")
  mk_Parade : Mk K (He.ga K "Parade") (He.ma K (He.ga K "Parade") "__init__")
  n_Parade_troop : NoAttr K (He.ga K "Parade") "troop"
  n_Parade_calls_done : NoAttr K (He.ga K "Parade") "calls_done"
  n_Parade_calls_undone : NoAttr K (He.ga K "Parade") "calls_undone"
  n_Parade_stands : NoAttr K (He.ga K "Parade") "stands"
  n_Parade_missing : NoAttr K (He.ga K "Parade") "missing"
  d_Parade___init__ : ∃ fd, DefAt K "__init__" "Parade.__init__" (inClass (top 52) 0) (He.ma K (He.ga K "Parade") "__init__") fd
  a_Parade___init__ : Meth K (He.ga K "Parade") "__init__" (He.ma K (He.ga K "Parade") "__init__")
  p_Parade_files : ∃ p g fd, PropOf K (He.ga K "Parade") "files" p g ∧ DefAt K "files" "Parade.files" (inClass (top 52) 2) g fd
  p_Parade_rows : ∃ p g fd, PropOf K (He.ga K "Parade") "rows" p g ∧ DefAt K "rows" "Parade.rows" (inClass (top 52) 3) g fd
  d_Parade_check_call : ∃ fd, DefAt K "check_call" "Parade.check_call" (inClass (top 52) 4) (He.ma K (He.ga K "Parade") "check_call") fd
  a_Parade_check_call : Meth K (He.ga K "Parade") "check_call" (He.ma K (He.ga K "Parade") "check_call")
  d_Parade_check_pupil : ∃ fd, DefAt K "check_pupil" "Parade.check_pupil" (inClass (top 52) 5) (He.ma K (He.ga K "Parade") "check_pupil") fd
  a_Parade_check_pupil : Meth K (He.ga K "Parade") "check_pupil" (He.ma K (He.ga K "Parade") "check_pupil")
  d_Parade_advance : ∃ fd, DefAt K "advance" "Parade.advance" (inClass (top 52) 6) (He.ma K (He.ga K "Parade") "advance") fd
  a_Parade_advance : Meth K (He.ga K "Parade") "advance" (He.ma K (He.ga K "Parade") "advance")
  d_Parade_do : ∃ fd, DefAt K "do" "Parade.do" (inClass (top 52) 7) (He.ma K (He.ga K "Parade") "do") fd
  a_Parade_do : Meth K (He.ga K "Parade") "do" (He.ma K (He.ga K "Parade") "do")
  d_Parade_back : ∃ fd, DefAt K "back" "Parade.back" (inClass (top 52) 8) (He.ma K (He.ga K "Parade") "back") fd
  a_Parade_back : Meth K (He.ga K "Parade") "back" (He.ma K (He.ga K "Parade") "back")
  d_Parade_again : ∃ fd, DefAt K "again" "Parade.again" (inClass (top 52) 9) (He.ma K (He.ga K "Parade") "again") fd
  a_Parade_again : Meth K (He.ga K "Parade") "again" (He.ma K (He.ga K "Parade") "again")
  d_Parade_done : ∃ fd, DefAt K "done" "Parade.done" (inClass (top 52) 10) (He.ma K (He.ga K "Parade") "done") fd
  a_Parade_done : Meth K (He.ga K "Parade") "done" (He.ma K (He.ga K "Parade") "done")
  d_Parade_shown : ∃ fd, DefAt K "shown" "Parade.shown" (inClass (top 52) 11) (He.ma K (He.ga K "Parade") "shown") fd
  a_Parade_shown : Meth K (He.ga K "Parade") "shown" (He.ma K (He.ga K "Parade") "shown")
  d_Parade_leave : ∃ fd, DefAt K "leave" "Parade.leave" (inClass (top 52) 13) (He.ma K (He.ga K "Parade") "leave") fd
  a_Parade_leave : Meth K (He.ga K "Parade") "leave" (He.ma K (He.ga K "Parade") "leave")
  d_Parade_come : ∃ fd, DefAt K "come" "Parade.come" (inClass (top 52) 14) (He.ma K (He.ga K "Parade") "come") fd
  a_Parade_come : Meth K (He.ga K "Parade") "come" (He.ma K (He.ga K "Parade") "come")
  d_Parade_away : ∃ fd, DefAt K "away" "Parade.away" (inClass (top 52) 15) (He.ma K (He.ga K "Parade") "away") fd
  a_Parade_away : Meth K (He.ga K "Parade") "away" (He.ma K (He.ga K "Parade") "away")
  d_Parade_line : ∃ fd, DefAt K "line" "Parade.line" (inClass (top 52) 16) (He.ma K (He.ga K "Parade") "line") fd
  a_Parade_line : Meth K (He.ga K "Parade") "line" (He.ma K (He.ga K "Parade") "line")
  d_Parade_place_of : ∃ fd, DefAt K "place_of" "Parade.place_of" (inClass (top 52) 17) (He.ma K (He.ga K "Parade") "place_of") fd
  a_Parade_place_of : Meth K (He.ga K "Parade") "place_of" (He.ma K (He.ga K "Parade") "place_of")
  d_Parade_mates : ∃ fd, DefAt K "mates" "Parade.mates" (inClass (top 52) 18) (He.ma K (He.ga K "Parade") "mates") fd
  a_Parade_mates : Meth K (He.ga K "Parade") "mates" (He.ma K (He.ga K "Parade") "mates")
  g_Desk : mg "Desk" = some (.ref (He.ga K "Desk"))
  c_Desk : Cls K (He.ga K "Desk")
  mk_Desk : Mk K (He.ga K "Desk") (He.ma K (He.ga K "Desk") "__init__")
  n_Desk_parade : NoAttr K (He.ga K "Desk") "parade"
  d_Desk___init__ : ∃ fd, DefAt K "__init__" "Desk.__init__" (inClass (top 66) 0) (He.ma K (He.ga K "Desk") "__init__") fd
  a_Desk___init__ : Meth K (He.ga K "Desk") "__init__" (He.ma K (He.ga K "Desk") "__init__")
  d_Desk_begun : ∃ fd, DefAt K "begun" "Desk.begun" (inClass (top 66) 1) (He.ma K (He.ga K "Desk") "begun") fd
  a_Desk_begun : Meth K (He.ga K "Desk") "begun" (He.ma K (He.ga K "Desk") "begun")
  d_Desk_answer_alone : ∃ fd, DefAt K "answer_alone" "Desk.answer_alone" (inClass (top 66) 2) (He.ma K (He.ga K "Desk") "answer_alone") fd
  a_Desk_answer_alone : Meth K (He.ga K "Desk") "answer_alone" (He.ma K (He.ga K "Desk") "answer_alone")
  d_Desk_answer_one : ∃ fd, DefAt K "answer_one" "Desk.answer_one" (inClass (top 66) 3) (He.ma K (He.ga K "Desk") "answer_one") fd
  a_Desk_answer_one : Meth K (He.ga K "Desk") "answer_one" (He.ma K (He.ga K "Desk") "answer_one")
  d_Desk_answered : ∃ fd, DefAt K "answered" "Desk.answered" (inClass (top 66) 4) (He.ma K (He.ga K "Desk") "answered") fd
  a_Desk_answered : Meth K (He.ga K "Desk") "answered" (He.ma K (He.ga K "Desk") "answered")
  d_Desk_execute : ∃ fd, DefAt K "execute" "Desk.execute" (inClass (top 66) 5) (He.ma K (He.ga K "Desk") "execute") fd
  a_Desk_execute : Meth K (He.ga K "Desk") "execute" (He.ma K (He.ga K "Desk") "execute")
  y_Script : PySem.W.kitOne K (.type "tuple") (.ref (He.ga K "Script")) = some false
end Pp
-- PpC
set_option maxRecDepth 100000
set_option maxHeartbeats 4000000
/-! Readings, step by step: each head with what stands behind it; heaps only by what they keep. -/
namespace Pp
open PySem PySem.Spec PyProof.Rows L2 Evl
/-- the addresses of G may change; the rest stands, and tuples stand; what is known stays known -/
structure Ext (G : List Addr) (H H' : Hp) : Prop where
  keep : ∀ b o, H b = some o → b ∉ G → H' b = some o
  tup : ∀ b xs, H b = some (.tup xs) → H' b = some (.tup xs)
  live : ∀ b, H' b = none → H b = none
section
variable {G G' : List Addr} {H H' H1 H2 : Hp} {a b p : Addr} {o u : HO} {xs : List V}
theorem exExt (e : Ex H H') : Ext G H H' := ⟨fun b o h _ => e b o h, fun b xs h => e b _ h, fun _ h => fresh_back e h⟩
theorem Ext.refl (H : Hp) : Ext G H H := ⟨fun _ _ h _ => h, fun _ _ h => h, fun _ h => h⟩
theorem Ext.trans (e : Ext G H H1) (f : Ext G H1 H2) : Ext G H H2 := ⟨fun b o h n => f.keep b o (e.keep b o h n) n, fun b xs h => f.tup b xs (e.tup b xs h), fun b h => e.live b (f.live b h)⟩
theorem Ext.mono (e : Ext G H H') (s : ∀ b, b ∈ G → b ∈ G') : Ext G' H H' := ⟨fun b o h n => e.keep b o h fun z => n (s b z), e.tup, e.live⟩
theorem Ext.ex (e : Ext [] H H') : Ex H H' := fun b o h => e.keep b o h (fun z => nomatch z)
theorem Ext.xl (e : Ext G H H1) (f : Ex H1 H2) : Ext G H H2 := e.trans (exExt f)
theorem Ext.xr (e : Ex H H1) (f : Ext G H1 H2) : Ext G H H2 := (exExt e).trans f
/-- an object of G that is no tuple is put -/
theorem Ext.put (h : H a = some u) (nt : ∀ xs, u ≠ .tup xs) (m : a ∈ G) : Ext G H (upd H a o) := ⟨fun b x e n => by
    have hb : b ≠ a := fun z => n (z ▸ m)
    rw [upd_ne hb]
    exact e, fun b xs e => by
    have hb : b ≠ a := fun z => by
      subst z
      rw [h] at e
      exact nt xs (Option.some.inj e)
    rw [upd_ne hb]
    exact e, fun b e => by
    by_cases hb : b = a
    · subst hb; rw [upd_same] at e; cases e
    · rw [upd_ne hb] at e; exact e⟩
theorem ex_tup (e : Ex H H') (h : H a = some (.tup xs)) : H' a = some (.tup xs) := e a _ h
theorem ext_tup (e : Ext G H H') (h : H a = some (.tup xs)) : H' a = some (.tup xs) := e.tup a _ h
theorem ex_to (e : Ex H H') (h : H a = some o) : H' a = some o := e a _ h
theorem ext_to (e : Ext G H H') (h : H a = some o) (n : a ∉ G) : H' a = some o := e.keep a _ h n
theorem ex_none (e : Ex H H') (h : H' a = none) : H a = none := fresh_back e h
end
class St (P : Prop) (P1 : outParam Prop) : Prop where
  imp : P1 → P
/-! ### the heads -/
section
variable {K : PySem.W.Frag} {σ σ' : L2.St} {H : Hp} {Q : VK} {ta tb tc te : TE} {tt : TT} {t u : TS} {x y z v : V} {r r' : R2} {ar ar' : TA} {i j : Nat} {nx bk ct : L2.St → Hp → Prop} {rt : VK} {g : TG} {gs : TGs} {a : Addr} {xs : List V}
theorem i_var (h : σ[i]? = some (some v)) (k : Q v H) : tVar i σ H Q := ⟨v, h, k⟩
theorem i_c (k : Q v H) : tC v σ H Q := k
theorem i_op (k : ta σ H fun x H1 => tb σ H1 fun y H2 => r x y H2 Q) : tOp r ta tb σ H Q := k
theorem i_un {r : V → Hp → VK → Prop} (k : ta σ H fun x H1 => r x H1 Q) : tUn r ta σ H Q := k
theorem i_rI0 {g : Int → Int → V} {m n : Int} (k : Q (g m n) H) : rI0 g (.int m) (.int n) H Q := ⟨m, n, rfl, rfl, k⟩
theorem i_rI {C : Int → Int → Prop} {g : Int → Int → V} {m n : Int} (c : C m n) (k : Q (g m n) H) : rI C g (.int m) (.int n) H Q := ⟨m, n, rfl, rfl, c, k⟩
theorem i_rU {g : Int → V} {m : Int} (k : Q (g m) H) : rU g (.int m) H Q := ⟨m, rfl, k⟩
theorem i_eq (c : scal x y = true) (k : Q (.bl (decide (x = y))) H) : rEq x y H Q := ⟨c, k⟩
theorem i_ne (c : scal x y = true) (k : Q (.bl (!decide (x = y))) H) : rNe x y H Q := ⟨c, k⟩
theorem i_test {Qb : Bool → Hp → Prop} (k : te σ H fun x H' => ∃ b, x = .bl b ∧ Qb b H') : tTest te σ H Qb := k
theorem i_tB {Qb : Bool → Hp → Prop} (k : te σ H fun x H' => ∃ b, x = .bl b ∧ Qb b H') : tB te σ H Qb := k
theorem i_tt {A B : Prop} (k : A) : if true = true then A else B := k
theorem i_ff {A B : Prop} (k : B) : if false = true then A else B := by
  rw [if_neg Bool.false_ne_true]
  exact k
theorem i_nf {A B : Prop} (k : A) : if (!false) = true then A else B := k
theorem i_nt {A B : Prop} (k : B) : if (!true) = true then A else B := by
  rw [if_neg (by decide)]
  exact k
theorem i_bl {Qb : Bool → Prop} {b : Bool} (k : Qb b) : ∃ c, V.bl b = .bl c ∧ Qb c := ⟨b, rfl, k⟩
theorem i_not {Qb : Bool → Hp → Prop} (k : tt σ H fun c H1 => Qb (!c) H1) : tNot tt σ H Qb := k
theorem i_andT {t u : TT} {Qb : Bool → Hp → Prop} (k : t σ H fun c H1 => if c = true then u σ H1 Qb else Qb false H1) : tAnd t u σ H Qb := k
theorem i_orT {t u : TT} {Qb : Bool → Hp → Prop} (k : t σ H fun c H1 => if c = true then Qb true H1 else u σ H1 Qb) : tOr t u σ H Qb := k
theorem i_andV (k : ta σ H fun x H1 => ∃ c, x = .bl c ∧ if c = true then tb σ H1 Q else Q (.bl false) H1) : tAndV ta tb σ H Q := k
theorem i_orV (k : ta σ H fun x H1 => ∃ c, x = .bl c ∧ if c = true then Q (.bl true) H1 else tb σ H1 Q) : tOrV ta tb σ H Q := k
theorem i_notV (k : ta σ H fun x H1 => ∃ c, x = .bl c ∧ Q (.bl (!c)) H1) : tNotV ta σ H Q := k
theorem i_chain (k : ta σ H fun x H1 => tb σ H1 fun y H2 => r x y H2 fun z H3 => ∃ k, z = .bl k ∧ if k = true then tc σ H3 fun w H4 => r' y w H4 Q else Q (.bl false) H3) : tChain r r' ta tb tc σ H Q := k
theorem i_ifE (k : tt σ H fun c H1 => if c = true then ta σ H1 Q else tb σ H1 Q) : tIf tt ta tb σ H Q := k
theorem i_nil {Qa : List V → Hp → Prop} (k : Qa [] H) : tNil σ H Qa := k
theorem i_cons {Qa : List V → Hp → Prop} (k : ta σ H fun x H1 => ar σ H1 fun xs H2 => Qa (x :: xs) H2) : tCons ta ar σ H Qa := k
theorem i_tup (k : ar σ H fun xs H1 => xs.length ≤ sizeLine ∧ ∀ p, H1 p = none → Q (.ref p) (upd H1 p (.tup xs))) : tTup ar σ H Q := k
theorem i_lst (k : ar σ H fun xs H1 => xs.length ≤ sizeLine ∧ ∀ p, H1 p = none → Q (.ref p) (upd H1 p (.lst xs))) : tLst ar σ H Q := k
theorem i_dnew (k : ∀ p, H p = none → Q (.ref p) (upd H p (.dK []))) : tDNewK σ H Q := k
theorem i_sz {P : Prop} {n : Nat} (h : n ≤ 100000) (k : P) : n ≤ sizeLine ∧ P := ⟨sz_of h, k⟩
theorem i_slz {P : Prop} {n : Nat} (h : n < 100000) (k : P) : n < sizeLine ∧ P := ⟨sz_lt h, k⟩
theorem i_sl {r : V → Option Int → Option Int → Hp → VK → Prop} {tl th : TO} (k : te σ H fun x H1 => tl σ H1 fun l H2 => th σ H2 fun u H3 => r x l u H3 Q) : tSl r te tl th σ H Q := k
theorem i_part {Qo : Option Int → Hp → Prop} (k : te σ H fun x H1 => ∃ i, x = .int i ∧ Qo (some i) H1) : tPart te σ H Qo := k
theorem i_nopart {Qo : Option Int → Hp → Prop} (k : Qo none H) : tNoPart σ H Qo := k
theorem i_int {Qi : Int → Prop} {m : Int} (k : Qi m) : ∃ i, V.int m = .int i ∧ Qi i := ⟨m, rfl, k⟩
theorem cutV_whole {lo hi : Option Int} (h : HT.sIx xs.length 0 lo = 0 ∧ HT.sIx xs.length xs.length hi = xs.length) : cutV xs lo hi = xs := by
  unfold cutV
  rw [h.1, h.2, Nat.sub_zero, List.drop_zero, List.take_length]
theorem i_slA {lo hi : Option Int} (h : H a = some (.tup xs)) (k : ∀ p H2, Ex H H2 → H2 p = some (.tup (cutV xs lo hi)) → Q (.ref p) H2) : rSlA K (.ref a) lo hi H Q :=
  ⟨a, xs, rfl, SqT.of h, fun w => k a H (Ex.refl H) (by rw [cutV_whole w]; exact h), fun _ p hp => k p _ (Ex.new hp) upd_same⟩
theorem i_catA {b : Addr} {ys : List V} (h : H a = some (.tup xs)) (h' : H b = some (.tup ys)) (n : xs.length + ys.length ≤ 100000) (k : ∀ p H2, Ex H H2 → H2 p = some (.tup (xs ++ ys)) → Q (.ref p) H2) : rCatA K (.ref a) (.ref b) H Q :=
  ⟨a, b, xs, ys, rfl, rfl, SqT.of h, SqT.of h', sz_of n, fun e => k b H (Ex.refl H) (by rw [e, List.nil_append]; exact h'), fun _ e => k a H (Ex.refl H) (by rw [e, List.append_nil]; exact h), fun _ _ p hp => k p _ (Ex.new hp) upd_same⟩
theorem i_slL {lo hi : Option Int} (h : SqL K H a xs) (k : ∀ p H2, H p = none → Ex H H2 → H2 p = some (.lst (cutV xs lo hi)) → Q (.ref p) H2) : rSlL K (.ref a) lo hi H Q := ⟨a, xs, rfl, h, fun p hp => k p _ hp (Ex.new hp) upd_same⟩
theorem i_slS {z : Str} {lo hi : Option Int} (h : z.length ≤ 100000) (k : Q (.str (cutS z lo hi)) H) : rSlS (.str z) lo hi H Q := ⟨z, rfl, sz_of h, k⟩
theorem i_ixT {n : Int} (h : SqT K H a xs) (e : atI xs n = some v) (k : Q v H) : rIxT K (.ref a) (.int n) H Q := ⟨a, xs, n, v, rfl, rfl, h, e, k⟩
theorem i_ixL {n : Int} (h : SqL K H a xs) (e : atI xs n = some v) (k : Q v H) : rIxL K (.ref a) (.int n) H Q := ⟨a, xs, n, v, rfl, rfl, h, e, k⟩
theorem i_ixS {z : Str} {n : Int} {c : Nat} (h : z.length ≤ 100000) (e : atI z.cps.toList n = some c) (k : Q (.str ⟨#[c]⟩) H) : rIxS (.str z) (.int n) H Q := ⟨z, n, c, rfl, rfl, sz_of h, e, k⟩
theorem i_inT (h : SqT K H a xs) (fx : flatV x = true) (fs : xs.all flatV = true) (k : Q (.bl (inV x xs)) H) : rIn K false x (.ref a) H Q := ⟨a, xs, rfl, .inr h, fx, fs, k⟩
theorem i_ninT (h : SqT K H a xs) (fx : flatV x = true) (fs : xs.all flatV = true) (k : Q (.bl (!inV x xs)) H) : rIn K true x (.ref a) H Q := ⟨a, xs, rfl, .inr h, fx, fs, k⟩
theorem i_inL (h : SqL K H a xs) (fx : flatV x = true) (fs : xs.all flatV = true) (k : Q (.bl (inV x xs)) H) : rIn K false x (.ref a) H Q := ⟨a, xs, rfl, .inl h, fx, fs, k⟩
theorem i_ninL (h : SqL K H a xs) (fx : flatV x = true) (fs : xs.all flatV = true) (k : Q (.bl (!inV x xs)) H) : rIn K true x (.ref a) H Q := ⟨a, xs, rfl, .inl h, fx, fs, k⟩
theorem i_fld {C dx : Addr} {fs : List (Str × V)} {f : Str} (h : te σ H fun x H1 => ∃ a C dx fs v, x = .ref a ∧ H1 a = some (.ins C dx fs) ∧ Cls K C ∧ NoAttr K C f ∧ fs.lookup f = some v ∧ Q v H1) : tFld K te f σ H Q := h
theorem i_cb {r : List V → Hp → VK → Prop} (k : ar σ H fun vs H1 => r vs H1 Q) : tCB r ar σ H Q := k
theorem i_bm0 {T : String} {r : V → List V → Hp → VK → Prop} (k : te σ H fun x H1 => tyV K T x H1 ∧ r x [] H1 Q) : tBM0 K T r te σ H Q := k
theorem i_bm {T : String} {r : V → List V → Hp → VK → Prop} (k : te σ H fun x H1 => tyV K T x H1 ∧ ar σ H1 fun xs H2 => r x xs H2 Q) : tBM K T r te ar σ H Q := k
theorem i_cal {sp : Sp} {E : L2.St → XK} (k : ar σ H fun vs H1 => sp vs H1 Q (E σ)) : rCal sp E ar σ H Q := k
theorem i_seq (k : t ⟨u ⟨nx, rt, bk, ct⟩, rt, bk, ct⟩ σ H) : tSeq t u ⟨nx, rt, bk, ct⟩ σ H := k
theorem i_next (k : nx σ H) : tNext ⟨nx, rt, bk, ct⟩ σ H := k
theorem i_break (k : bk σ H) : tBreak ⟨nx, rt, bk, ct⟩ σ H := k
theorem i_cont (k : ct σ H) : tCont ⟨nx, rt, bk, ct⟩ σ H := k
theorem i_drop (k : te σ H fun _ H1 => nx σ H1) : tDrop te ⟨nx, rt, bk, ct⟩ σ H := k
theorem i_ret (k : te σ H rt) : tRet te ⟨nx, rt, bk, ct⟩ σ H := k
theorem i_retN (k : rt .non H) : tRetN ⟨nx, rt, bk, ct⟩ σ H := k
theorem i_ifS (k : tt σ H fun b H1 => if b = true then t ⟨nx, rt, bk, ct⟩ σ H1 else u ⟨nx, rt, bk, ct⟩ σ H1) : tIfS tt t u ⟨nx, rt, bk, ct⟩ σ H := k
theorem i_asg (k : te σ H fun x H1 => g x σ H1 nx) : tAsg te g ⟨nx, rt, bk, ct⟩ σ H := k
theorem i_name {Qg : L2.St → Hp → Prop} (k : Qg (σ.set i (some v)) H) : gName i v σ H Qg := k
theorem i_gtup {Qg : L2.St → Hp → Prop} {n : Nat} (h : SqT K H a xs) (l : xs.length = n) (k : gs xs σ H Qg) : gTup K n gs (.ref a) σ H Qg := ⟨a, xs, rfl, h, l, k⟩
theorem i_gcons {Qg : L2.St → Hp → Prop} (k : g v σ H fun σ' H' => gs xs σ' H' Qg) : gCons g gs (v :: xs) σ H Qg := ⟨v, xs, rfl, k⟩
theorem i_gnil {Qg : L2.St → Hp → Prop} (k : Qg σ H) : gNil [] σ H Qg := ⟨rfl, k⟩
theorem i_par (k : ar σ H fun vs H1 => ∃ v w, vs = [v, w] ∧ nx ((σ.set i (some v)).set j (some w)) H1) : tPar i j ar ⟨nx, rt, bk, ct⟩ σ H := k
theorem i_par2 {Qp : V → V → Prop} (k : Qp x y) : ∃ v w, [x, y] = [v, w] ∧ Qp v w := ⟨x, y, rfl, k⟩
theorem i_aug {ti : TIp} (h : σ[i]? = some (some x)) (k : te σ H fun y H1 => ti x y H1 fun z H2 => nx (σ.set i (some z)) H2) : tAug i te ti ⟨nx, rt, bk, ct⟩ σ H := ⟨x, h, k⟩
theorem i_ipI {f : Int → Int → Int} {m n : Int} (k : Q (.int (f m n)) H) : ipI f (.int m) (.int n) H Q := ⟨m, n, rfl, rfl, k⟩
theorem i_cat {l b : Addr} {xs zs : List V} (h : H l = some (.lst xs)) (h' : H b = some (.lst zs)) (n : xs.length + zs.length ≤ 100000) (k : ∀ p H2, H p = none → Ex H H2 → H2 p = some (.lst (xs ++ zs)) → Q (.ref p) H2) : rCat (.ref l) (.ref b) H Q := ⟨l, b, xs, zs, rfl, rfl, h, h', sz_of n, fun p hp => k p _ hp (Ex.new hp) upd_same⟩
theorem i_ite {A B : Prop} {b : Bool} (h1 : b = true → A) (h2 : b = false → B) : if b = true then A else B := by
  cases b with
  | true => exact h1 rfl
  | false => exact h2 rfl
theorem i_t {A B : Prop} {b : Bool} (h : b = true) (k : A) : if b = true then A else B := by
  subst h
  exact k
theorem i_f {A B : Prop} {b : Bool} (h : b = false) (k : B) : if b = true then A else B := by
  subst h
  exact k
theorem i_dec {A B : Prop} {p : Prop} [Decidable p] (h1 : p → A) (h2 : ¬p → B) : if decide p = true then A else B := i_ite (fun h => h1 (of_decide_eq_true h)) (fun h => h2 (of_decide_eq_false h))
theorem i_dect {A B : Prop} {p : Prop} [Decidable p] (h : p) (k : A) : if decide p = true then A else B := i_t (decide_eq_true h) k
theorem i_decf {A B : Prop} {p : Prop} [Decidable p] (h : ¬p) (k : B) : if decide p = true then A else B := i_f (decide_eq_false h) k
instance a_seq : St (tSeq t u ⟨nx, rt, bk, ct⟩ σ H) (t ⟨u ⟨nx, rt, bk, ct⟩, rt, bk, ct⟩ σ H) := ⟨fun k => i_seq k⟩
instance a_asg : St (tAsg te g ⟨nx, rt, bk, ct⟩ σ H) (te σ H fun x H1 => g x σ H1 nx) := ⟨fun k => i_asg k⟩
instance a_name {Qg : L2.St → Hp → Prop} : St (gName i v σ H Qg) (Qg (σ.set i (some v)) H) := ⟨fun k => i_name k⟩
instance a_c : St (tC v σ H Q) (Q v H) := ⟨fun k => i_c k⟩
instance a_op : St (tOp r ta tb σ H Q) (ta σ H fun x H1 => tb σ H1 fun y H2 => r x y H2 Q) := ⟨fun k => i_op k⟩
instance a_rI0 {g : Int → Int → V} {m n : Int} : St (rI0 g (.int m) (.int n) H Q) (Q (g m n) H) := ⟨fun k => i_rI0 k⟩
instance a_bl {Qb : Bool → Prop} {b : Bool} : St (∃ c, V.bl b = .bl c ∧ Qb c) (Qb b) := ⟨fun k => i_bl k⟩
instance a_test {Qb : Bool → Hp → Prop} : St (tTest te σ H Qb) (te σ H fun x H' => ∃ b, x = .bl b ∧ Qb b H') := ⟨fun k => i_test k⟩
instance a_tB {Qb : Bool → Hp → Prop} : St (tB te σ H Qb) (te σ H fun x H' => ∃ b, x = .bl b ∧ Qb b H') := ⟨fun k => i_tB k⟩
instance a_tt {A B : Prop} : St (if true = true then A else B) (A) := ⟨fun k => i_tt k⟩
instance a_ff {A B : Prop} : St (if false = true then A else B) (B) := ⟨fun k => i_ff k⟩
instance a_nf {A B : Prop} : St (if (!false) = true then A else B) (A) := ⟨fun k => i_nf k⟩
instance a_nt {A B : Prop} : St (if (!true) = true then A else B) (B) := ⟨fun k => i_nt k⟩
instance a_ifS : St (tIfS tt t u ⟨nx, rt, bk, ct⟩ σ H) (tt σ H fun b H1 => if b = true then t ⟨nx, rt, bk, ct⟩ σ H1 else u ⟨nx, rt, bk, ct⟩ σ H1) := ⟨fun k => i_ifS k⟩
instance a_cons {Qa : List V → Hp → Prop} : St (tCons ta ar σ H Qa) (ta σ H fun x H1 => ar σ H1 fun xs H2 => Qa (x :: xs) H2) := ⟨fun k => i_cons k⟩
instance a_nil {Qa : List V → Hp → Prop} : St (tNil σ H Qa) (Qa [] H) := ⟨fun k => i_nil k⟩
instance a_ret : St (tRet te ⟨nx, rt, bk, ct⟩ σ H) (te σ H rt) := ⟨fun k => i_ret k⟩
instance a_next : St (tNext ⟨nx, rt, bk, ct⟩ σ H) (nx σ H) := ⟨fun k => i_next k⟩
instance a_cal {sp : Sp} {E : L2.St → XK} : St (rCal sp E ar σ H Q) (ar σ H fun vs H1 => sp vs H1 Q (E σ)) := ⟨fun k => i_cal k⟩
instance a_cb {r : List V → Hp → VK → Prop} : St (tCB r ar σ H Q) (ar σ H fun vs H1 => r vs H1 Q) := ⟨fun k => i_cb k⟩
instance a_int {Qi : Int → Prop} {m : Int} : St (∃ i, V.int m = .int i ∧ Qi i) (Qi m) := ⟨fun k => i_int k⟩
instance a_un {r : V → Hp → VK → Prop} : St (tUn r ta σ H Q) (ta σ H fun x H1 => r x H1 Q) := ⟨fun k => i_un k⟩
instance a_rU {g : Int → V} {m : Int} : St (rU g (.int m) H Q) (Q (g m) H) := ⟨fun k => i_rU k⟩
instance a_not {Qb : Bool → Hp → Prop} : St (tNot tt σ H Qb) (tt σ H fun c H1 => Qb (!c) H1) := ⟨fun k => i_not k⟩
instance a_andT {t u : TT} {Qb : Bool → Hp → Prop} : St (tAnd t u σ H Qb) (t σ H fun c H1 => if c = true then u σ H1 Qb else Qb false H1) := ⟨fun k => i_andT k⟩
instance a_orT {t u : TT} {Qb : Bool → Hp → Prop} : St (tOr t u σ H Qb) (t σ H fun c H1 => if c = true then Qb true H1 else u σ H1 Qb) := ⟨fun k => i_orT k⟩
instance a_andV : St (tAndV ta tb σ H Q) (ta σ H fun x H1 => ∃ c, x = .bl c ∧ if c = true then tb σ H1 Q else Q (.bl false) H1) := ⟨fun k => i_andV k⟩
instance a_orV : St (tOrV ta tb σ H Q) (ta σ H fun x H1 => ∃ c, x = .bl c ∧ if c = true then Q (.bl true) H1 else tb σ H1 Q) := ⟨fun k => i_orV k⟩
instance a_notV : St (tNotV ta σ H Q) (ta σ H fun x H1 => ∃ c, x = .bl c ∧ Q (.bl (!c)) H1) := ⟨fun k => i_notV k⟩
instance a_chain : St (tChain r r' ta tb tc σ H Q) (ta σ H fun x H1 => tb σ H1 fun y H2 => r x y H2 fun z H3 => ∃ k, z = .bl k ∧ if k = true then tc σ H3 fun w H4 => r' y w H4 Q else Q (.bl false) H3) := ⟨fun k => i_chain k⟩
instance a_ifE : St (tIf tt ta tb σ H Q) (tt σ H fun c H1 => if c = true then ta σ H1 Q else tb σ H1 Q) := ⟨fun k => i_ifE k⟩
instance a_tup : St (tTup ar σ H Q) (ar σ H fun xs H1 => xs.length ≤ sizeLine ∧ ∀ p, H1 p = none → Q (.ref p) (upd H1 p (.tup xs))) := ⟨fun k => i_tup k⟩
instance a_lst : St (tLst ar σ H Q) (ar σ H fun xs H1 => xs.length ≤ sizeLine ∧ ∀ p, H1 p = none → Q (.ref p) (upd H1 p (.lst xs))) := ⟨fun k => i_lst k⟩
instance a_dnew : St (tDNewK σ H Q) (∀ p, H p = none → Q (.ref p) (upd H p (.dK []))) := ⟨fun k => i_dnew k⟩
instance a_sl {r : V → Option Int → Option Int → Hp → VK → Prop} {tl th : TO} : St (tSl r te tl th σ H Q) (te σ H fun x H1 => tl σ H1 fun l H2 => th σ H2 fun u H3 => r x l u H3 Q) := ⟨fun k => i_sl k⟩
instance a_part {Qo : Option Int → Hp → Prop} : St (tPart te σ H Qo) (te σ H fun x H1 => ∃ i, x = .int i ∧ Qo (some i) H1) := ⟨fun k => i_part k⟩
instance a_nopart {Qo : Option Int → Hp → Prop} : St (tNoPart σ H Qo) (Qo none H) := ⟨fun k => i_nopart k⟩
instance a_gcons {Qg : L2.St → Hp → Prop} : St (gCons g gs (v :: xs) σ H Qg) (g v σ H fun σ' H' => gs xs σ' H' Qg) := ⟨fun k => i_gcons k⟩
instance a_gnil {Qg : L2.St → Hp → Prop} : St (gNil [] σ H Qg) (Qg σ H) := ⟨fun k => i_gnil k⟩
instance a_par : St (tPar i j ar ⟨nx, rt, bk, ct⟩ σ H) (ar σ H fun vs H1 => ∃ v w, vs = [v, w] ∧ nx ((σ.set i (some v)).set j (some w)) H1) := ⟨fun k => i_par k⟩
instance a_par2 {Qp : V → V → Prop} : St (∃ v w, [x, y] = [v, w] ∧ Qp v w) (Qp x y) := ⟨fun k => i_par2 k⟩
instance a_drop : St (tDrop te ⟨nx, rt, bk, ct⟩ σ H) (te σ H fun _ H1 => nx σ H1) := ⟨fun k => i_drop k⟩
instance a_retN : St (tRetN ⟨nx, rt, bk, ct⟩ σ H) (rt .non H) := ⟨fun k => i_retN k⟩
instance a_bm {T : String} {r : V → List V → Hp → VK → Prop} : St (tBM K T r te ar σ H Q) (te σ H fun x H1 => tyV K T x H1 ∧ ar σ H1 fun xs H2 => r x xs H2 Q) := ⟨fun k => i_bm k⟩
instance a_bm0 {T : String} {r : V → List V → Hp → VK → Prop} : St (tBM0 K T r te σ H Q) (te σ H fun x H1 => tyV K T x H1 ∧ r x [] H1 Q) := ⟨fun k => i_bm0 k⟩
instance a_ipI {f : Int → Int → Int} {m n : Int} : St (ipI f (.int m) (.int n) H Q) (Q (.int (f m n)) H) := ⟨fun k => i_ipI k⟩
instance a_break : St (tBreak ⟨nx, rt, bk, ct⟩ σ H) (bk σ H) := ⟨fun k => i_break k⟩
instance a_cont : St (tCont ⟨nx, rt, bk, ct⟩ σ H) (ct σ H) := ⟨fun k => i_cont k⟩
end
theorem al_e {H H2 : Hp} {p : Addr} {o : HO} (hp : H p = none) (h : upd H p o = H2) : Ex H H2 := h ▸ Ex.new hp
theorem al_g {H H2 : Hp} {p : Addr} {o : HO} (h : upd H p o = H2) : H2 p = some o := h ▸ upd_same
theorem cv {Q : VK} {H : Hp} {v v' : V} (k : Q v H) (e : v = v') : Q v' H := e ▸ k
theorem cvb {Q : VK} {H : Hp} {b b' : Bool} (k : Q (.bl b) H) (e : b = b') : Q (.bl b') H := e ▸ k
theorem cvt {Q : VK} {q : Addr} {H H2 : Hp} {xs ys : List V} (k : ∀ q H', Ex H H' → H' q = some (.tup xs) → Q (.ref q) H') (e : Ex H H2) (g : H2 q = some (.tup ys)) (h : ys = xs) : Q (.ref q) H2 := k q H2 e (h ▸ g)
section
variable {P : Program} {w : World} {K : PySem.W.Frag} {mg : Str → Option Value} {base : Heap} {x n m q : Str} {st : Stmt} {f D : Addr} {ps : List Str} {k : Nat} {sp : Sp} {C : CXT}
theorem calOf (g : mg x = some (.ref f)) (d : ∃ fd, DefAt K n q st f fd) (ok : ∀ fd, DefAt K n q st f fd → FnOk P w K mg base C k f fd ps sp)
    (b : ∀ (kV doc pm : Value) (an : Option Addr) (cdv ct : Value) (us : List Value), us.length = ps.length → bindArgs (PySem.W.fnOf n q (defArgs st) (defBody st) (defScope st) .none kV doc pm an cdv ct) ⟨us, []⟩ = pure (ps.zip us)) : Cal P w K mg base C k x sp := by
  obtain ⟨fd, F⟩ := d
  exact ⟨f, fd, ps, ok fd F, g, F.kp, F.bindsN b⟩
theorem metOf (c : Cls K D) (a : Meth K D m f) (d : ∃ fd, DefAt K m q st f fd) (ok : ∀ fd, DefAt K m q st f fd → FnOk P w K mg base C k f fd ps sp)
    (b : ∀ (kV doc pm : Value) (an : Option Addr) (cdv ct : Value) (us : List Value), us.length = ps.length → bindArgs (PySem.W.fnOf m q (defArgs st) (defBody st) (defScope st) .none kV doc pm an cdv ct) ⟨us, []⟩ = pure (ps.zip us)) : Met P w K mg base C k D m sp := by
  obtain ⟨fd, F⟩ := d
  exact ⟨f, fd, ps, ok fd F, c, a, F.bindsN b⟩
theorem makOf (g : mg x = some (.ref D)) (mk : Mk K D f) (d : ∃ fd, DefAt K "__init__" q st f fd) (ok : ∀ fd, DefAt K "__init__" q st f fd → FnOk P w K mg base C k f fd ps sp)
    (b : ∀ (kV doc pm : Value) (an : Option Addr) (cdv ct : Value) (us : List Value), us.length = ps.length → bindArgs (PySem.W.fnOf "__init__" q (defArgs st) (defBody st) (defScope st) .none kV doc pm an cdv ct) ⟨us, []⟩ = pure (ps.zip us)) : Mak P w K mg base C k x D sp := by
  obtain ⟨fd, F⟩ := d
  exact ⟨f, fd, ps, ok fd F, mk, g, F.bindsN b⟩
end
/-! ### calls -/
inductive Cl where
  | all (k : Int) | up (f k : Int) | swap (f g : Int) | wheel (f g k : Int) | about | front (f g : Int) | halve | pair | others | fill
def Cl.word : Cl → Str
  | .all _ => "all" | .up _ _ => "up" | .swap _ _ => "swap" | .wheel _ _ _ => "wheel" | .about => "about" | .front _ _ => "front" | .halve => "halve" | .pair => "pair" | .others => "others" | .fill => "fill"
def Cl.ns : Cl → List Int
  | .all k => [k] | .up f k => [f, k] | .swap f g => [f, g] | .wheel f g k => [f, g, k] | .about => [] | .front f g => [f, g] | .halve => [] | .pair => [] | .others => [] | .fill => []
def wv (wd : Str) (ns : List Int) : List V := V.str wd :: ns.map V.int
def Cl.vs : Cl → List V
  | .all k => [.str "all", .int k] | .up f k => [.str "up", .int f, .int k] | .swap f g => [.str "swap", .int f, .int g] | .wheel f g k => [.str "wheel", .int f, .int g, .int k] | .about => [.str "about"]
  | .front f g => [.str "front", .int f, .int g] | .halve => [.str "halve"] | .pair => [.str "pair"] | .others => [.str "others"] | .fill => [.str "fill"]
theorem Cl.vs_wv (c : Cl) : c.vs = wv c.word c.ns := by cases c <;> rfl
/-- where the wheel takes a place -/
def onWheel (f g k rows r fl : Int) : Int × Int :=
  if fl = f ∨ fl = g then
    let s := ((if fl = f then rows - 1 - r else rows + r) + k) % (2 * rows)
    if s < rows then (rows - 1 - s, f) else (s - rows, g)
  else (r, fl)
/-- where a call takes a place -/
def mv : Cl → Int → Int → Int → Int → Int × Int
  | .all k, _, rows, r, fl => ((r - k) % rows, fl)
  | .up f k, _, rows, r, fl => if fl = f then ((r - k) % rows, fl) else (r, fl)
  | .about, files, rows, r, fl => (rows - 1 - r, files - 1 - fl)
  | .wheel f g k, _, rows, r, fl => onWheel f g k rows r fl
  | .swap f g, _, _, r, fl => if fl = f ∨ fl = g then (r, if fl = f then g else f) else (r, fl)
  | .front f g, _, _, r, fl => if (fl = f ∨ fl = g) ∧ ¬ 0 < r then (r, if fl = f then g else f) else (r, fl)
  | .halve, files, rows, r, fl => ((r * files + fl) % rows, (r * files + fl) / rows)
  | .pair, files, rows, r, fl => ((fl * rows + r) / files, (fl * rows + r) % files)
  | .others, _, rows, r, fl => (if r % 2 = 0 then r / 2 else (rows + 1) / 2 + r / 2, fl)
  | .fill, _, rows, r, fl => (if r < (rows + 1) / 2 then 2 * r else 2 * (r - (rows + 1) / 2) + 1, fl)
def plV (p : Int × Int) : List V := [.int p.1, .int p.2]
end Pp
-- PpE
set_option maxRecDepth 100000
set_option maxHeartbeats 4000000
/-! Comprehensions and loops as goals; instances; texts; lists. -/
namespace Pp
open PySem PySem.Spec PyProof.Rows L2 Evl
structure lcR (g : TG) (tt : TT) (te : TE) (vs : List Nat) (σ : L2.St) (Q : VK) (J : It) (H1 : Hp) : Prop where
  run : ∀ D, H1 D = none → ∃ W : Nat → Nat → Hp → Prop, (∃ m, W 0 m (upd H1 D (.lst []))) ∧ ∀ i m H, W i m H →
  (J.stop i H ∧ Q (.ref D) H) ∨ (J.go i H ∧ ∃ Nx : Hp → Prop, (∀ H', Nx H' → ∃ m', m' < m ∧ W (i + 1) m' H') ∧ ∀ x H', J.yld i H x H' → g x (wipe σ vs) H' fun σ2 H2 => wipe σ2 vs = wipe σ vs ∧ tt σ2 H2 fun b H3 =>
    if b = true then te σ2 H3 fun y H4 => ∃ acc, H4 D = some (.lst acc) ∧ acc.length < sizeLine ∧ Nx (upd H4 D (.lst (acc ++ [y]))) else Nx H3)
structure forR (g : TG) (tb : TS) (D : Ends) (σ : L2.St) (J : It) (H1 : Hp) : Prop where
  run : ∃ W : Nat → Nat → L2.St → Hp → Prop, (∃ m, W 0 m σ H1) ∧ ∀ i m σ H, W i m σ H →
  (J.stop i H ∧ D.nx σ H) ∨ (J.go i H ∧ ∃ N : L2.St → Hp → Prop, (∀ σ' H', N σ' H' → ∃ m', m' < m ∧ W (i + 1) m' σ' H') ∧ ∀ x H', J.yld i H x H' → g x σ H' fun σ2 H2 => tb { D with nx := N, ct := N, bk := D.nx } σ2 H2)
section
variable {K : PySem.W.Frag} {σ : L2.St} {H : Hp} {Q : VK} {te tl : TE} {tt : TT} {wi : TI} {g : TG} {tb : TS} {vs : List Nat} {D : Ends} {ar : TA} {R : It → Hp → Prop} {a : Addr} {xs : List V} {j : Nat}
theorem lcR_eq : lcR g tt te vs σ Q = fun J H1 => ∀ D, H1 D = none → ∃ W : Nat → Nat → Hp → Prop, (∃ m, W 0 m (upd H1 D (.lst []))) ∧ ∀ i m H, W i m H →
  (J.stop i H ∧ Q (.ref D) H) ∨ (J.go i H ∧ ∃ Nx : Hp → Prop, (∀ H', Nx H' → ∃ m', m' < m ∧ W (i + 1) m' H') ∧ ∀ x H', J.yld i H x H' → g x (wipe σ vs) H' fun σ2 H2 => wipe σ2 vs = wipe σ vs ∧ tt σ2 H2 fun b H3 =>
    if b = true then te σ2 H3 fun y H4 => ∃ acc, H4 D = some (.lst acc) ∧ acc.length < sizeLine ∧ Nx (upd H4 D (.lst (acc ++ [y]))) else Nx H3) := by
  funext J H1
  exact propext ⟨fun h => h.run, fun h => ⟨h⟩⟩
theorem forR_eq : forR g tb D σ = fun J H1 => ∃ W : Nat → Nat → L2.St → Hp → Prop, (∃ m, W 0 m σ H1) ∧ ∀ i m σ H, W i m σ H →
  (J.stop i H ∧ D.nx σ H) ∨ (J.go i H ∧ ∃ N : L2.St → Hp → Prop, (∀ σ' H', N σ' H' → ∃ m', m' < m ∧ W (i + 1) m' σ' H') ∧ ∀ x H', J.yld i H x H' → g x σ H' fun σ2 H2 => tb { D with nx := N, ct := N, bk := D.nx } σ2 H2) := by
  funext J H1
  exact propext ⟨fun h => h.run, fun h => ⟨h⟩⟩
theorem i_lc (k : wi σ H (lcR g tt te vs σ Q)) : tLc wi g tt te vs σ H Q := by
  rw [lcR_eq] at k
  exact k
theorem i_for (k : wi σ H (forR g tb D σ)) : tFor wi g tb D σ H := by
  rw [forR_eq] at k
  exact k
theorem i_iList (k : tl σ H fun x H1 => ∃ a, x = .ref a ∧ (∃ xs, SqL K H1 a xs) ∧ R (Itl K a) H1) : iList K tl σ H R := k
theorem i_iTup (k : tl σ H fun x H1 => ∃ a, x = .ref a ∧ (∃ xs, SqT K H1 a xs) ∧ R (Itt K a) H1) : iTup K tl σ H R := k
theorem i_iStr (k : tl σ H fun v H1 => ∃ x, v = .str x ∧ R (Its x) H1) : iStr tl σ H R := k
theorem i_iEnum (k : ar σ H fun vs H1 => ∃ a xs, vs = [.ref a] ∧ SqL K H1 a xs ∧ R (Ite K a) H1) : iEnum K ar σ H R := k
theorem i_iRng1 (k : ar σ H fun vs H1 => ∃ j : Int, vs = [.int j] ∧ -(2 ^ 62) ≤ j ∧ j < 2 ^ 62 ∧ R (Itr 0 j.toNat) H1) : iRng1 ar σ H R := k
theorem i_iRng3 (k : ar σ H fun vs H1 => ∃ (i j c : Int) (n : Nat), vs = [.int i, .int j, .int c] ∧ RgC i j c n ∧ R (Itc i c n) H1) : iRng3 ar σ H R := k
theorem i_itT {Qi : Addr → Prop} (h : H a = some (.tup xs)) (k : Qi a) : ∃ b, V.ref a = .ref b ∧ (∃ xs, SqT K H b xs) ∧ Qi b := ⟨a, rfl, ⟨xs, SqT.of h⟩, k⟩
theorem i_itL {Qi : Addr → Prop} (h : H a = some (.lst xs)) (k : Qi a) : ∃ b, V.ref a = .ref b ∧ (∃ xs, SqL K H b xs) ∧ Qi b := ⟨a, rfl, ⟨xs, SqL.of h⟩, k⟩
theorem i_itS {Qi : Str → Prop} {z : Str} (k : Qi z) : ∃ x, V.str z = .str x ∧ Qi x := ⟨z, rfl, k⟩
instance a_lc : St (tLc wi g tt te vs σ H Q) (wi σ H (lcR g tt te vs σ Q)) := ⟨fun k => i_lc k⟩
instance a_iList : St (iList K tl σ H R) (tl σ H fun x H1 => ∃ a, x = .ref a ∧ (∃ xs, SqL K H1 a xs) ∧ R (Itl K a) H1) := ⟨fun k => i_iList k⟩
instance a_iTup : St (iTup K tl σ H R) (tl σ H fun x H1 => ∃ a, x = .ref a ∧ (∃ xs, SqT K H1 a xs) ∧ R (Itt K a) H1) := ⟨fun k => i_iTup k⟩
instance a_iStr : St (iStr tl σ H R) (tl σ H fun v H1 => ∃ x, v = .str x ∧ R (Its x) H1) := ⟨fun k => i_iStr k⟩
instance a_iEnum : St (iEnum K ar σ H R) (ar σ H fun vs H1 => ∃ a xs, vs = [.ref a] ∧ SqL K H1 a xs ∧ R (Ite K a) H1) := ⟨fun k => i_iEnum k⟩
instance a_iRng1 : St (iRng1 ar σ H R) (ar σ H fun vs H1 => ∃ j : Int, vs = [.int j] ∧ -(2 ^ 62) ≤ j ∧ j < 2 ^ 62 ∧ R (Itr 0 j.toNat) H1) := ⟨fun k => i_iRng1 k⟩
instance a_iRng3 : St (iRng3 ar σ H R) (ar σ H fun vs H1 => ∃ (i j c : Int) (n : Nat), vs = [.int i, .int j, .int c] ∧ RgC i j c n ∧ R (Itc i c n) H1) := ⟨fun k => i_iRng3 k⟩
instance a_itS {Qi : Str → Prop} {z : Str} : St (∃ x, V.str z = .str x ∧ Qi x) (Qi z) := ⟨fun k => i_itS k⟩
instance a_for : St (tFor wi g tb D σ H) (wi σ H (forR g tb D σ)) := ⟨fun k => i_for k⟩
/-- a comprehension without effects: what the iterator gives in order is xs -/
theorem lc_map {J : It} {G : Hp → Prop} (w : Walk J xs.length G (YAt xs)) (hG : ∀ H', Ex H H' → G H') (f : V → Bool) (v : V → V) (hz : xs.length ≤ 40000) (hw : ∀ x, wipe ((wipe σ vs).set j (some x)) vs = wipe σ vs)
    (ht : ∀ (i : Nat) (x : V) H1, Ex H H1 → xs[i]? = some x → ∀ Qb : Bool → Hp → Prop, (∀ H2, Ex H1 H2 → Qb (f x) H2) → tt ((wipe σ vs).set j (some x)) H1 Qb)
    (he : ∀ (i : Nat) (x : V) H1, Ex H H1 → xs[i]? = some x → f x = true → ∀ Q1 : VK, (∀ H2, Ex H1 H2 → Q1 (v x) H2) → te ((wipe σ vs).set j (some x)) H1 Q1)
    (k : ∀ p H2, H p = none → Ex H H2 → H2 p = some (.lst ((xs.filter f).map v)) → Q (.ref p) H2) : lcR (gName j) tt te vs σ Q J H := by
  refine ⟨fun Dl hD => ?_⟩
  refine lc_it w (fun i H' => H Dl = none ∧ Ex H H' ∧ H' Dl = some (.lst (((xs.take i).filter f).map v))) ⟨hD, Ex.new hD, by rw [List.take_zero]; exact upd_same⟩ (fun i H' _ p => hG _ p.2.1) ?_ (fun H' p => k Dl H' p.1 p.2.1 (by rw [p.2.2, List.take_length]))
  rintro i x H1 H2 hi ⟨p0, p1, p2⟩ ⟨rfl, hx⟩
  refine ⟨hw x, ?_⟩
  have tk : xs.take (i + 1) = xs.take i ++ [x] := by rw [List.take_succ, hx]; rfl
  have ln : (((xs.take i).filter f).map v).length < sizeLine := by
    rw [List.length_map]
    have h1 := List.length_filter_le f (xs.take i)
    have h2 : (xs.take i).length ≤ xs.length := by rw [List.length_take]; omega
    exact sz_lt (by omega)
  refine ht i x _ p1 hx _ fun H3 e3 => ?_
  cases hf : f x with
  | true =>
    refine i_t rfl (he i x _ (p1.trans e3) hx hf _ fun H4 e4 => ⟨_, e4 _ _ (e3 _ _ p2), ln, p0, Ex.mut ((p1.trans e3).trans e4) p0, ?_⟩)
    rw [upd_same, tk, List.filter_append, List.map_append, List.filter_cons, if_pos hf]
    rfl
  | false =>
    refine i_f rfl ⟨p0, p1.trans e3, ?_⟩
    rw [tk, List.filter_append, List.map_append, List.filter_cons, if_neg (by rw [hf]; decide)]
    show _ = some (HO.lst (_ ++ []))
    rw [List.append_nil]
    exact e3 _ _ p2
theorem ht_yes {f : V → Bool} (hf : ∀ x, f x = true) : ∀ (i : Nat) (x : V) H1, Ex H H1 → xs[i]? = some x → ∀ Qb : Bool → Hp → Prop, (∀ H2, Ex H1 H2 → Qb (f x) H2) → tYes ((wipe σ vs).set j (some x)) H1 Qb := fun i x H1 _ _ Qb q => by
  have z := q H1 (Ex.refl _)
  rw [hf x] at z
  exact z
/-- without a test -/
theorem lc_all {J : It} {G : Hp → Prop} (w : Walk J xs.length G (YAt xs)) (hG : ∀ H', Ex H H' → G H') (v : V → V) (hz : xs.length ≤ 40000) (hw : ∀ x, wipe ((wipe σ vs).set j (some x)) vs = wipe σ vs)
    (he : ∀ (i : Nat) (x : V) H1, Ex H H1 → xs[i]? = some x → ∀ Q1 : VK, (∀ H2, Ex H1 H2 → Q1 (v x) H2) → te ((wipe σ vs).set j (some x)) H1 Q1)
    (k : ∀ p H2, H p = none → Ex H H2 → H2 p = some (.lst (xs.map v)) → Q (.ref p) H2) : lcR (gName j) tYes te vs σ Q J H :=
  lc_map w hG (fun _ => true) v hz hw (ht_yes fun _ => rfl) (fun i x H1 e hx _ => he i x H1 e hx) fun p H2 hp e g => k p H2 hp e (by rw [g, List.filter_eq_self.mpr (fun _ _ => rfl)])
theorem lc_allT (h : H a = some (.tup xs)) (v : V → V) (hz : xs.length ≤ 40000) (hw : ∀ x, wipe ((wipe σ vs).set j (some x)) vs = wipe σ vs)
    (he : ∀ (i : Nat) (x : V) H1, Ex H H1 → xs[i]? = some x → ∀ Q1 : VK, (∀ H2, Ex H1 H2 → Q1 (v x) H2) → te ((wipe σ vs).set j (some x)) H1 Q1)
    (k : ∀ p H2, H p = none → Ex H H2 → H2 p = some (.lst (xs.map v)) → Q (.ref p) H2) : lcR (gName j) tYes te vs σ Q (Itt K a) H :=
  lc_all (walk_tup (K := K) (a := a)) (fun _ e => SqT.of (e _ _ h)) v hz hw he k
theorem lc_allL (h : H a = some (.lst xs)) (v : V → V) (hz : xs.length ≤ 40000) (hw : ∀ x, wipe ((wipe σ vs).set j (some x)) vs = wipe σ vs)
    (he : ∀ (i : Nat) (x : V) H1, Ex H H1 → xs[i]? = some x → ∀ Q1 : VK, (∀ H2, Ex H1 H2 → Q1 (v x) H2) → te ((wipe σ vs).set j (some x)) H1 Q1)
    (k : ∀ p H2, H p = none → Ex H H2 → H2 p = some (.lst (xs.map v)) → Q (.ref p) H2) : lcR (gName j) tYes te vs σ Q (Itl K a) H :=
  lc_all (walk_list (K := K) (a := a)) (fun _ e => SqL.of (e _ _ h)) v hz hw he k
theorem lc_someL (h : H a = some (.lst xs)) (f : V → Bool) (v : V → V) (hz : xs.length ≤ 40000) (hw : ∀ x, wipe ((wipe σ vs).set j (some x)) vs = wipe σ vs)
    (ht : ∀ (i : Nat) (x : V) H1, Ex H H1 → xs[i]? = some x → ∀ Qb : Bool → Hp → Prop, (∀ H2, Ex H1 H2 → Qb (f x) H2) → tt ((wipe σ vs).set j (some x)) H1 Qb)
    (he : ∀ (i : Nat) (x : V) H1, Ex H H1 → xs[i]? = some x → f x = true → ∀ Q1 : VK, (∀ H2, Ex H1 H2 → Q1 (v x) H2) → te ((wipe σ vs).set j (some x)) H1 Q1)
    (k : ∀ p H2, H p = none → Ex H H2 → H2 p = some (.lst ((xs.filter f).map v)) → Q (.ref p) H2) : lcR (gName j) tt te vs σ Q (Itl K a) H :=
  lc_map (walk_list (K := K) (a := a)) (fun _ e => SqL.of (e _ _ h)) f v hz hw ht he k
def atInt (f : Int → V) : V → V
  | .int i => f i
  | _ => .non
def atIntB (f : Int → Bool) : V → Bool
  | .int i => f i
  | _ => false
theorem ints_map (f : Int → V) (ns : List Int) : (ns.map V.int).map (atInt f) = ns.map f := by
  rw [List.map_map]
  rfl
theorem ints_filter (t : Int → Bool) (f : Int → V) (ns : List Int) : ((ns.map V.int).filter (atIntB t)).map (atInt f) = (ns.filter t).map f := by
  rw [List.filter_map, List.map_map]
  rfl
theorem ints_at {ns : List Int} {i : Nat} {x : V} (h : (ns.map V.int)[i]? = some x) : ∃ n, n ∈ ns ∧ x = .int n := by
  rw [List.getElem?_map] at h
  cases hn : ns[i]? with
  | none => rw [hn] at h; cases h
  | some n => rw [hn] at h; exact ⟨n, List.mem_of_getElem? hn, (Option.some.inj h).symm⟩
theorem lc_intsT {ns : List Int} (h : H a = some (.tup (ns.map V.int))) (f : Int → V) (hz : ns.length ≤ 40000) (hw : ∀ x, wipe ((wipe σ vs).set j (some x)) vs = wipe σ vs)
    (he : ∀ (n : Int) H1, Ex H H1 → n ∈ ns → ∀ Q1 : VK, (∀ H2, Ex H1 H2 → Q1 (f n) H2) → te ((wipe σ vs).set j (some (.int n))) H1 Q1)
    (k : ∀ p H2, H p = none → Ex H H2 → H2 p = some (.lst (ns.map f)) → Q (.ref p) H2) : lcR (gName j) tYes te vs σ Q (Itt K a) H :=
  lc_allT h (atInt f) (by rw [List.length_map]; exact hz) hw (fun i x H1 e hx Q1 q => by
    obtain ⟨n, hn, rfl⟩ := ints_at hx
    exact he n H1 e hn Q1 q) fun p H2 hp e g => k p H2 hp e (by rw [g, ints_map])
theorem lc_intsL {ns : List Int} (h : H a = some (.lst (ns.map V.int))) (f : Int → V) (hz : ns.length ≤ 40000) (hw : ∀ x, wipe ((wipe σ vs).set j (some x)) vs = wipe σ vs)
    (he : ∀ (n : Int) H1, Ex H H1 → n ∈ ns → ∀ Q1 : VK, (∀ H2, Ex H1 H2 → Q1 (f n) H2) → te ((wipe σ vs).set j (some (.int n))) H1 Q1)
    (k : ∀ p H2, H p = none → Ex H H2 → H2 p = some (.lst (ns.map f)) → Q (.ref p) H2) : lcR (gName j) tYes te vs σ Q (Itl K a) H :=
  lc_allL h (atInt f) (by rw [List.length_map]; exact hz) hw (fun i x H1 e hx Q1 q => by
    obtain ⟨n, hn, rfl⟩ := ints_at hx
    exact he n H1 e hn Q1 q) fun p H2 hp e g => k p H2 hp e (by rw [g, ints_map])
theorem lc_intsF {ns : List Int} (h : H a = some (.lst (ns.map V.int))) (t : Int → Bool) (f : Int → V) (hz : ns.length ≤ 40000) (hw : ∀ x, wipe ((wipe σ vs).set j (some x)) vs = wipe σ vs)
    (ht : ∀ (n : Int) H1, Ex H H1 → n ∈ ns → ∀ Qb : Bool → Hp → Prop, (∀ H2, Ex H1 H2 → Qb (t n) H2) → tt ((wipe σ vs).set j (some (.int n))) H1 Qb)
    (he : ∀ (n : Int) H1, Ex H H1 → n ∈ ns → ∀ Q1 : VK, (∀ H2, Ex H1 H2 → Q1 (f n) H2) → te ((wipe σ vs).set j (some (.int n))) H1 Q1)
    (k : ∀ p H2, H p = none → Ex H H2 → H2 p = some (.lst ((ns.filter t).map f)) → Q (.ref p) H2) : lcR (gName j) tt te vs σ Q (Itl K a) H :=
  lc_someL h (atIntB t) (atInt f) (by rw [List.length_map]; exact hz) hw (fun i x H1 e hx Qb q => by
    obtain ⟨n, hn, rfl⟩ := ints_at hx
    exact ht n H1 e hn Qb q) (fun i x H1 e hx _ Q1 q => by
    obtain ⟨n, hn, rfl⟩ := ints_at hx
    exact he n H1 e hn Q1 q) fun p H2 hp e g => k p H2 hp e (by rw [g, ints_filter])
/-- over a text -/
theorem lc_allS {z : Str} (v : Nat → V) (hz : z.cps.size ≤ 40000) (hw : ∀ x, wipe ((wipe σ vs).set j (some x)) vs = wipe σ vs)
    (he : ∀ (c : Nat) H1, Ex H H1 → ∀ Q1 : VK, (∀ H2, Ex H1 H2 → Q1 (v c) H2) → te ((wipe σ vs).set j (some (.str ⟨#[c]⟩))) H1 Q1)
    (k : ∀ p H2, H p = none → Ex H H2 → H2 p = some (.lst (z.cps.toList.map v)) → Q (.ref p) H2) : lcR (gName j) tYes te vs σ Q (Its z) H := by
  have L : (z.cps.toList.map fun c => V.str ⟨#[c]⟩).length = z.cps.size := by rw [List.length_map, Array.length_toList]
  refine lc_all (xs := z.cps.toList.map fun c => V.str ⟨#[c]⟩) (G := fun _ => True) ?_ (fun _ _ => trivial) (fun x => match x with | .str y => v (y.cps.toList.headD 0) | _ => .non) (by rw [L]; exact hz) hw (fun i x H1 e hx Q1 q => ?_) (fun p H2 hp e g => k p H2 hp e (by rw [g, List.map_map]; rfl))
  · have w := walk_str (z := z)
    rw [L]
    refine w.mono (fun _ h => h) fun i H x H' hi _ y => ?_
    obtain ⟨rfl, c, hc, rfl⟩ := y
    refine ⟨rfl, ?_⟩
    rw [List.getElem?_map, Array.getElem?_toList, hc]
    rfl
  · rw [List.getElem?_map] at hx
    cases hc : z.cps.toList[i]? with
    | none => rw [hc] at hx; cases hx
    | some c =>
      rw [hc] at hx
      have hx' : V.str ⟨#[c]⟩ = x := Option.some.inj hx
      subst hx'
      exact he c H1 e Q1 q
end
section
variable {K : PySem.W.Frag} {σ : L2.St} {H : Hp} {Q : VK} {a l : Addr} {xs : List V} {te : TE}
/-! isinstance, len -/
theorem i_isiTup (h : H a = some (.tup xs)) (k : Q (.bl true) H) : rIsi K [.ref a, .ty "tuple"] H Q := ⟨_, _, _, _, true, rfl, .ty _, .base (.tup h), kit_ty (by decide +kernel), k⟩
theorem i_isiInt {i : Int} (k : Q (.bl true) H) : rIsi K [.int i, .ty "int"] H Q := ⟨_, _, _, _, true, rfl, .ty _, .base (.int i), kit_ty (by decide +kernel), k⟩
theorem i_isiIntB {i : Int} (k : Q (.bl false) H) : rIsi K [.int i, .ty "bool"] H Q := ⟨_, _, _, _, false, rfl, .ty _, .base (.int i), kit_ty (by decide +kernel), k⟩
theorem i_isiStr {z : Str} (k : Q (.bl true) H) : rIsi K [.str z, .ty "str"] H Q := ⟨_, _, _, _, true, rfl, .ty _, .base (.str z), kit_ty (by decide +kernel), k⟩
end
theorem atI_zero {x : V} {xs : List V} : atI (x :: xs) 0 = some x := by
  unfold atI ixN
  rw [if_pos (by omega), if_pos (by simp)]
  rfl
theorem atI_at {α : Type} {xs : List α} {v : α} {i : Nat} (h : xs[i]? = some v) : atI xs (i : Int) = some v := by
  have hi : i < xs.length := (List.getElem?_eq_some_iff.mp h).1
  unfold atI ixN
  rw [if_pos (by omega), if_pos (by omega)]
  exact h
theorem atI_last {α : Type} {xs : List α} {v : α} (h : xs[xs.length - 1]? = some v) : atI xs (-1) = some v := by
  have hi : xs.length - 1 < xs.length := (List.getElem?_eq_some_iff.mp h).1
  unfold atI ixN
  rw [if_neg (by omega), if_pos (by omega)]
  have e : (-1 + (xs.length : Int)).toNat = xs.length - 1 := by omega
  show xs[(-1 + (xs.length : Int)).toNat]? = some v
  rw [e]
  exact h
/-! relations by name -/
def rLenX (K : PySem.W.Frag) : List V → Hp → VK → Prop := fun xs H Q => ∃ p ys, xs = [.ref p] ∧ (SqL K H p ys ∨ SqT K H p ys) ∧ Q (.int ys.length) H
def rLenS : List V → Hp → VK → Prop := fun xs H Q => ∃ z, xs = [.str z] ∧ z.length ≤ sizeLine ∧ Q (.int z.length) H
def rListX (K : PySem.W.Frag) : List V → Hp → VK → Prop := fun xs H Q => ∃ p ys, xs = [.ref p] ∧ (SqL K H p ys ∨ SqT K H p ys) ∧ ∀ l, H l = none → Q (.ref l) (upd H l (.lst ys))
def rTupX (K : PySem.W.Frag) : List V → Hp → VK → Prop := fun xs H Q => ∃ p ys, xs = [.ref p] ∧ ((SqL K H p ys ∧ ∀ l, H l = none → Q (.ref l) (upd H l (.tup ys))) ∨ (SqT K H p ys ∧ Q (.ref p) H))
def rIntX : List V → Hp → VK → Prop := fun xs H Q => (∃ i, xs = [.int i] ∧ Q (.int i) H) ∨ ∃ k, xs = [.bl k] ∧ Q (.int (if k then 1 else 0)) H
def rAbsX : List V → Hp → VK → Prop := fun xs H Q => ∃ i, xs = [.int i] ∧ Q (.int (if i < 0 then -i else i)) H
def rStrI : List V → Hp → VK → Prop := fun xs H Q => ∃ i, xs = [.int i] ∧ i.natAbs.log2 < 1920 ∧ Q (.str (toString i)) H
def rStrS : List V → Hp → VK → Prop := fun xs H Q => ∃ a, xs = [.str a] ∧ Q (.str a) H
def rStrV : List V → Hp → VK → Prop := fun xs H Q => (∃ i, xs = [.int i] ∧ i.natAbs.log2 < 1920 ∧ Q (.str (toString i)) H) ∨ ∃ a, xs = [.str a] ∧ Q (.str a) H
def rIntS : List V → Hp → VK → Prop := fun xs H Q => ∃ a n, xs = [.str a] ∧ PySem.intText? a = some n ∧ a.length ≤ 640 ∧ Q (.int n) H
def rInsert : V → List V → Hp → VK → Prop := fun x vs H Q => ∃ (l : Addr) (xs : List V) (i : Int) (y : V), x = .ref l ∧ vs = [.int i, y] ∧ H l = some (.lst xs) ∧ xs.length < sizeLine ∧ 0 ≤ i ∧ i < 2 ^ 63 ∧
    Q .non (upd H l (.lst (xs.take i.toNat ++ [y] ++ xs.drop i.toNat)))
def rSorD : List V → Hp → VK → Prop := fun xs H Q => ∃ (a : Addr) (kvs : List (Key × V)) (ks : List Int), xs = [.ref a] ∧ Rd H a (.dK kvs) ∧ kvs.map (·.1) = ks.map Sum.inl ∧ ks.length < 64 ∧
    ∀ (ys : List Int) (p : Addr), ys.Perm ks → ys.Pairwise (· ≤ ·) → H p = none → Q (.ref p) (upd H p (.lst (ys.map V.int)))
def rInS : R2 := fun x y H Q => ∃ (c : Nat) (z : Str), x = .str ⟨#[c]⟩ ∧ y = .str z ∧ Q (.bl (decide (c ∈ z.cps.toList))) H
def rCatS : R2 := fun x y H Q => ∃ i j, x = .str i ∧ y = .str j ∧ i.length + j.length ≤ sizeLine ∧ Q (.str (i ++ j)) H
def rTabIn (a : Addr) (kvs : List (Str × V)) : R2 := fun x y H Q => ∃ z : Str, x = .str z ∧ y = .ref a ∧ Q (.bl (tabV kvs z).isSome) H
def rTabNot (a : Addr) (kvs : List (Str × V)) : R2 := fun x y H Q => ∃ z : Str, x = .str z ∧ y = .ref a ∧ Q (.bl (!(tabV kvs z).isSome)) H
def rTabIx (a : Addr) (kvs : List (Str × V)) : R2 := fun x y H Q => ∃ (z : Str) (v : V), x = .ref a ∧ y = .str z ∧ tabV kvs z = some v ∧ Q v H
def rSplit : V → List V → Hp → VK → Prop := fun x xs H Q => ∃ a b, x = .str a ∧ xs = [.str b] ∧ (b.length == 0) = false ∧ a.length + 2 ≤ sizeLine ∧ rNewStrs (Txt.split a b) H Q
def rJoin (K : PySem.W.Frag) : V → List V → Hp → VK → Prop := fun x xs H Q => ∃ a p, ∃ ys : List Str, x = .str a ∧ xs = [.ref p] ∧ (SqL K H p (ys.map V.str) ∨ SqT K H p (ys.map V.str)) ∧
      (ys.map (·.length)).sum + ys.length * a.length ≤ 16777216 ∧ Q (.str (Txt.join a ys)) H
section
variable {X : Cx} {a : Addr} {kvs : List (Str × V)} {o e : Expr} {to te : TE}
theorem cr_len : CallR X (.builtin "len") (rLenX X.K) := call_len_seq
theorem cr_lenS : CallR X (.builtin "len") rLenS := call_len_str
theorem cr_list : CallR X (.type "list") (rListX X.K) := call_list_of
theorem cr_tuple : CallR X (.type "tuple") (rTupX X.K) := call_tuple_of
theorem cr_int : CallR X (.type "int") rIntX := call_int1
theorem cr_abs : CallR X (.builtin "abs") rAbsX := call_abs
theorem cr_strI : CallR X (.type "str") rStrI := call_str_int
theorem cr_strS : CallR X (.type "str") rStrS := SkE.call_str_str
theorem cr_strV : CallR X (.type "str") rStrV := call_str_int.or SkE.call_str_str
theorem cr_intS : CallR X (.type "int") rIntS := call_int_str
theorem mt_ins : MtR X "list.insert" rInsert := mt_insert
theorem cr_sorD (hc : X.calm = true) : CallR X (.builtin "sorted") rSorD := call_sortedDI hc
theorem op_inS : OpR X (compareOp .In) rInS := op_in_sign
theorem op_addS : OpR X (binaryOp .Add) rCatS := op_add_str
theorem op_tabIn (T : KTab X.K X.w a kvs) : OpR X (compareOp .In) (rTabIn a kvs) := op_in_tab T
theorem op_tabNot (T : KTab X.K X.w a kvs) : OpR X (compareOp .NotIn) (rTabNot a kvs) := op_notIn_tab T
theorem ix_tabX (T : KTab X.K X.w a kvs) : IxR X (rTabIx a kvs) := ix_tab T
theorem pe_splitX {apos pos : Pos} (ho : PE X o to) (he : PE X e te) (hs : starEach [e] X.env = [(false, eval e X.env)] := by rfl) (hbase : attributeBase o "split" X.env (eval o X.env) = eval o X.env := by rfl) (hline : (apos.endLine == pos.line) = true := by rfl) :
    PE X (.Call (.Attribute o "split" apos) [e] [] pos) (tM1 rSplit to te) := pe_split ho he hs hbase hline
theorem pe_joinX {apos pos : Pos} (ho : PE X o to) (he : PE X e te) (hs : starEach [e] X.env = [(false, eval e X.env)] := by rfl) (hbase : attributeBase o "join" X.env (eval o X.env) = eval o X.env := by rfl) (hline : (apos.endLine == pos.line) = true := by rfl) :
    PE X (.Call (.Attribute o "join" apos) [e] [] pos) (tM1 (rJoin X.K) to te) := pe_join ho he hs hbase hline
end
section
variable {K : PySem.W.Frag} {σ : L2.St} {H : Hp} {Q : VK} {a b l : Addr} {xs : List V} {to te : TE} {kvs : List (Str × V)}
theorem i_isiTL {tp : Addr} (h : H a = some (.lst xs)) (ht : H tp = some (.tup [.ty "tuple", .ty "list"])) (k : Q (.bl true) H) : rIsiT K [.ref a, .ref tp] H Q :=
  ⟨_, tp, _, _, [.type "tuple", .type "list"], true, rfl, ht, .cons (.ty _) (.cons (.ty _) .nil), .base (.lst h), kitAny_cons (b := false) (kit_ty (by decide +kernel)) (fun _ => kitAny_cons (b := true) (kit_ty (by decide +kernel)) (fun z => nomatch z) (fun _ => rfl)) (fun z => nomatch z), k⟩
theorem i_tyL {P : Prop} (h : H a = some (.lst xs)) (k : P) : tyV K "list" (.ref a) H ∧ P := ⟨Or.inl ⟨rfl, xs, SqL.of h⟩, k⟩
theorem i_app {y : V} (h : H a = some (.lst xs)) (n : xs.length < 100000) (k : Q .non (upd H a (.lst (xs ++ [y])))) : rAppend (.ref a) [y] H Q := ⟨a, xs, y, rfl, rfl, h, sz_lt n, k⟩
theorem i_pop {y : V} (h : H a = some (.lst (xs ++ [y]))) (k : Q y (upd H a (.lst xs))) : rPop (.ref a) [] H Q := ⟨a, xs ++ [y], y, rfl, rfl, h, by simp, by rw [List.dropLast_concat]; exact k⟩
theorem i_lenT (h : H a = some (.tup xs)) (k : Q (.int xs.length) H) : rLenX K [.ref a] H Q := ⟨a, xs, rfl, .inr (SqT.of h), k⟩
theorem i_lenL (h : H a = some (.lst xs)) (k : Q (.int xs.length) H) : rLenX K [.ref a] H Q := ⟨a, xs, rfl, .inl (SqL.of h), k⟩
theorem i_lenS {z : Str} (h : z.length ≤ 100000) (k : Q (.int z.length) H) : rLenS [.str z] H Q := ⟨z, rfl, sz_of h, k⟩
theorem i_all {bs : List Bool} (h : H a = some (.lst (bs.map V.bl))) (k : Q (.bl (bs.all id)) H) : rAll K [.ref a] H Q := ⟨a, bs, rfl, SqL.of h, k⟩
theorem i_listL (h : H a = some (.lst xs)) (k : ∀ l H2, H l = none → Ex H H2 → H2 l = some (.lst xs) → Q (.ref l) H2) : rListX K [.ref a] H Q := ⟨a, xs, rfl, .inl (SqL.of h), fun l hl => k l _ hl (Ex.new hl) upd_same⟩
theorem i_listT (h : H a = some (.tup xs)) (k : ∀ l H2, H l = none → Ex H H2 → H2 l = some (.lst xs) → Q (.ref l) H2) : rListX K [.ref a] H Q := ⟨a, xs, rfl, .inr (SqT.of h), fun l hl => k l _ hl (Ex.new hl) upd_same⟩
theorem i_tupL (h : H a = some (.lst xs)) (k : ∀ l H2, H l = none → Ex H H2 → H2 l = some (.tup xs) → Q (.ref l) H2) : rTupX K [.ref a] H Q := ⟨a, xs, rfl, .inl ⟨SqL.of h, fun l hl => k l _ hl (Ex.new hl) upd_same⟩⟩
theorem i_int1 {i : Int} (k : Q (.int i) H) : rIntX [.int i] H Q := .inl ⟨i, rfl, k⟩
theorem i_intB {b : Bool} (k : Q (.int (if b then 1 else 0)) H) : rIntX [.bl b] H Q := .inr ⟨b, rfl, k⟩
theorem i_abs {i : Int} (k : Q (.int (if i < 0 then -i else i)) H) : rAbsX [.int i] H Q := ⟨i, rfl, k⟩
theorem i_strI {i : Int} (h : i.natAbs.log2 < 1920) (k : Q (.str (toString i)) H) : rStrI [.int i] H Q := ⟨i, rfl, h, k⟩
theorem i_strS {z : Str} (k : Q (.str z) H) : rStrS [.str z] H Q := ⟨z, rfl, k⟩
theorem i_strVI {i : Int} (h : i.natAbs.log2 < 1920) (k : Q (.str (toString i)) H) : rStrV [.int i] H Q := .inl ⟨i, rfl, h, k⟩
theorem i_strVS {z : Str} (k : Q (.str z) H) : rStrV [.str z] H Q := .inr ⟨z, rfl, k⟩
theorem i_intS {z : Str} {n : Int} (h : PySem.intText? z = some n) (l : z.length ≤ 640) (k : Q (.int n) H) : rIntS [.str z] H Q := ⟨z, n, rfl, h, l, k⟩
theorem i_inS {c : Nat} {z : Str} (k : Q (.bl (decide (c ∈ z.cps.toList))) H) : rInS (.str ⟨#[c]⟩) (.str z) H Q := ⟨c, z, rfl, rfl, k⟩
theorem i_catS {y z : Str} (h : y.length + z.length ≤ 100000) (k : Q (.str (y ++ z)) H) : rCatS (.str y) (.str z) H Q := ⟨y, z, rfl, rfl, sz_of h, k⟩
theorem i_tabIn {z : Str} (k : Q (.bl (tabV kvs z).isSome) H) : rTabIn a kvs (.str z) (.ref a) H Q := ⟨z, rfl, rfl, k⟩
theorem i_tabNot {z : Str} (k : Q (.bl (!(tabV kvs z).isSome)) H) : rTabNot a kvs (.str z) (.ref a) H Q := ⟨z, rfl, rfl, k⟩
theorem i_tabIx {z : Str} {v : V} (h : tabV kvs z = some v) (k : Q v H) : rTabIx a kvs (.ref a) (.str z) H Q := ⟨z, v, rfl, rfl, h, k⟩
theorem i_m1 {r : V → List V → Hp → VK → Prop} (k : to σ H fun x H1 => (∃ a, x = .str a) ∧ te σ H1 fun y H2 => r x [y] H2 Q) : tM1 r to te σ H Q := k
theorem i_isS {z : Str} {P : Prop} (k : P) : (∃ a, V.str z = .str a) ∧ P := ⟨⟨z, rfl⟩, k⟩
theorem i_split {z y : Str} (h0 : (y.length == 0) = false) (hz : z.length + 2 ≤ 100000) (k : ∀ p H2, H p = none → Ex H H2 → H2 p = some (.lst ((Txt.split z y).map V.str)) → Q (.ref p) H2) : rSplit (.str z) [.str y] H Q := ⟨z, y, rfl, rfl, h0, sz_of hz, fun p hp => k p _ hp (Ex.new hp) upd_same⟩
theorem i_join {z : Str} {ys : List Str} (h : H a = some (.lst (ys.map V.str))) (hz : (ys.map (·.length)).sum + ys.length * z.length ≤ 16777216) (k : Q (.str (Txt.join z ys)) H) : rJoin K (.str z) [.ref a] H Q := ⟨z, a, ys, rfl, rfl, .inl (SqL.of h), hz, k⟩
instance a_strS {z : Str} : St (rStrS [.str z] H Q) (Q (.str z) H) := ⟨fun k => i_strS k⟩
instance a_strVS {z : Str} : St (rStrV [.str z] H Q) (Q (.str z) H) := ⟨fun k => i_strVS k⟩
instance a_inS {c : Nat} {z : Str} : St (rInS (.str ⟨#[c]⟩) (.str z) H Q) (Q (.bl (decide (c ∈ z.cps.toList))) H) := ⟨fun k => i_inS k⟩
instance a_tabIn {z : Str} : St (rTabIn a kvs (.str z) (.ref a) H Q) (Q (.bl (tabV kvs z).isSome) H) := ⟨fun k => i_tabIn k⟩
instance a_tabNot {z : Str} : St (rTabNot a kvs (.str z) (.ref a) H Q) (Q (.bl (!(tabV kvs z).isSome)) H) := ⟨fun k => i_tabNot k⟩
instance a_m1 {r : V → List V → Hp → VK → Prop} : St (tM1 r to te σ H Q) (to σ H fun x H1 => (∃ a, x = .str a) ∧ te σ H1 fun y H2 => r x [y] H2 Q) := ⟨fun k => i_m1 k⟩
instance a_isS {z : Str} {P : Prop} : St ((∃ a, V.str z = .str a) ∧ P) (P) := ⟨fun k => i_isS k⟩
instance a_isiInt {i : Int} : St (rIsi K [.int i, .ty "int"] H Q) (Q (.bl true) H) := ⟨fun k => i_isiInt k⟩
instance a_isiIntB {i : Int} : St (rIsi K [.int i, .ty "bool"] H Q) (Q (.bl false) H) := ⟨fun k => i_isiIntB k⟩
instance a_isiStr {z : Str} : St (rIsi K [.str z, .ty "str"] H Q) (Q (.bl true) H) := ⟨fun k => i_isiStr k⟩
instance a_int1 {i : Int} : St (rIntX [.int i] H Q) (Q (.int i) H) := ⟨fun k => i_int1 k⟩
instance a_intB {b : Bool} : St (rIntX [.bl b] H Q) (Q (.int (if b then 1 else 0)) H) := ⟨fun k => i_intB k⟩
instance a_abs {i : Int} : St (rAbsX [.int i] H Q) (Q (.int (if i < 0 then -i else i)) H) := ⟨fun k => i_abs k⟩
end
end Pp
-- PpF
set_option maxRecDepth 100000
set_option maxHeartbeats 4000000
/-! An own __iter__ that hands out a tuple's iterator; properties. -/
namespace Pp
open PySem PySem.Spec PyProof.Rows L2 Evl
def ItT (t it : Addr) : HO := .ext fun h => h.IsTupleIter it t 0
theorem itT_ok {P : Program} {w : World} {H : Hp} {h : Heap} {t it : Addr} (e : h.IsTupleIter it t 0) : ObjOk P w H h it (ItT t it) := by
  obtain ⟨o, ho, r⟩ := e
  exact ⟨⟨o, ho, r⟩, ⟨o, ho⟩, fun h1 h2 q k => by
    obtain ⟨o, ho, r⟩ := q
    exact ⟨o, k _ ho, r⟩⟩
def rIterT (K : PySem.W.Frag) : List V → Hp → VK → Prop := fun vs H Q => ∃ (t : Addr) (xs : List V), vs = [.ref t] ∧ SqT K H t xs ∧ ∀ it, H it = none → Q (.ref it) (upd H it (ItT t it))
section
variable {X : Cx}
theorem cr_iterT : CallR X (.builtin "iter") (rIterT X.K) := by
  intro pins s σ H xs us Q I r h
  obtain ⟨t, zs, rfl, hq, q⟩ := h
  obtain ⟨u, rfl, ru⟩ := vals1 r
  cases ru
  obtain ⟨its, rv, pl, hz⟩ := I.tuple hq
  refine Calls.call_function_entry (by decide +kernel) (by decide +kernel) PySem.W.kdk_entry_iter (PySem.W.kdk_args_iter _) ?_
  unfold Builtin.«iter»
  refine wpAny_bind (m := someArgs "iter" 1 2 _) (wpAny_of_eq (a := [Value.ref t]) (by first | rfl | kernel_rfl!) ?_)
  show wpAny _ _ (pyIter (.ref t) >>= _) _ _ _
  refine wpAny_bind (wpAny_pyIter_tuple (show s.heap.IsTuple t its.toArray from pl) ?_)
  refine wpAny_pure ⟨_, rfl, ?_⟩
  exact ⟨.ref s.heap.objs.size, _, I.laid (t' := s.toks) (fun b u e => Heap.get?_push_of_some _ e) (Nat.le_refl _) (itT_ok ⟨_, Heap.get?_push_size _ rfl, rfl, rfl⟩), rfl, q _ (I.hok.fresh (Nat.le_refl _))⟩
end
def rIterY (K : PySem.W.Frag) (n : Nat) : List V → Hp → VK → Prop := fun vs H Q => ∃ (t : Addr) (xs : List V), vs = [.ref t] ∧ SqT K H t xs ∧ ∀ it, H it = none → n ≤ it → Q (.ref it) (upd H it (ItT t it))
theorem cr_iterY {X : Cx} : CallR X (.builtin "iter") (rIterY X.K X.s_0.heap.objs.size) := by
  intro pins s σ H xs us Q I r h
  obtain ⟨t, zs, rfl, hq, q⟩ := h
  obtain ⟨u, rfl, ru⟩ := vals1 r
  cases ru
  obtain ⟨its, rv, pl, hz⟩ := I.tuple hq
  refine Calls.call_function_entry (by decide +kernel) (by decide +kernel) PySem.W.kdk_entry_iter (PySem.W.kdk_args_iter _) ?_
  unfold Builtin.«iter»
  refine wpAny_bind (m := someArgs "iter" 1 2 _) (wpAny_of_eq (a := [Value.ref t]) (by first | rfl | kernel_rfl!) ?_)
  show wpAny _ _ (pyIter (.ref t) >>= _) _ _ _
  refine wpAny_bind (wpAny_pyIter_tuple (show s.heap.IsTuple t its.toArray from pl) ?_)
  refine wpAny_pure ⟨_, rfl, ?_⟩
  exact ⟨.ref s.heap.objs.size, _, I.laid (t' := s.toks) (fun b u e => Heap.get?_push_of_some _ e) (Nat.le_refl _) (itT_ok ⟨_, Heap.get?_push_size _ rfl, rfl, rfl⟩), rfl, q _ (I.hok.fresh (Nat.le_refl _)) I.sz⟩
/-- a class whose __iter__ hands out a new iterator of the tuple in the field fl -/
structure Own (P : Program) (w : World) (K : PySem.W.Frag) (mg : Str → Option Value) (base : Heap) (k : Nat) (D : Addr) (fl : Str) : Prop where
  ex : ∃ (f : Addr) (fd : FuncData) (ps : List Str), Meth K D "__iter__" f ∧ Binds K fd ps [] ∧ ps.length = 1 ∧
    ∀ (A : Around) (outer : List Env) (s : Shared) (H : Hp) (a dx t : Addr) (fs : List (Str × V)) (xs : List V), Room k A → Env0 P w K mg base A outer s H → BindsTo s fd ⟨[.ref a], []⟩ (ps.zip [.ref a]) →
      H a = some (.ins D dx fs) → fs.lookup fl = some (.ref t) → H t = some (.tup xs) →
      codeAny (model P w) A (.call (.ref f) ⟨[.ref a], []⟩) (fun r s1 => ∃ it, r = .ok (.ret (.ref it)) ∧ s.heap.objs.size ≤ it ∧ H it = none ∧ CE outer P w H s (fun v H1 => v = .ref it ∧ H1 = upd H it (ItT t it)) (.ref it) s1) s
section
variable {P : Program} {w : World} {K : PySem.W.Frag} {mg : Str → Option Value} {base : Heap}
theorem ownOf {st : Stmt} {D f : Addr} {q fl : Str} (c : Cls K D) (na : NoAttr K D fl) (me : Meth K D "__iter__" f) (d : ∃ fd, DefAt K "__iter__" q st f fd) (S : FnScope ["self"] ["self"] (defScope st))
    (b : ∀ (kV doc pm : Value) (an : Option Addr) (cdv ct : Value) (us : List Value), us.length = (["self"] : List Str).length → bindArgs (PySem.W.fnOf "__iter__" q (defArgs st) (defBody st) (defScope st) .none kV doc pm an cdv ct) ⟨us, []⟩ = pure ((["self"] : List Str).zip us))
    (body : ∀ (cdv : Value) (A : Around) (outer : List Env) (s : Shared) (H : Hp), PSs (cxOf CX0 P w K mg base ["self"] q (defScope st) f cdv A outer s H E0).nox (defBody st) (tRet (tCB (rIterY K s.heap.objs.size) (tCons (tFld K (tVar 0) fl) tNil)))) : Own P w K mg base 1 D fl := by
  obtain ⟨fd, F⟩ := d
  refine ⟨f, fd, ["self"], me, F.bindsN b, rfl, ?_⟩
  intro A outer s H a dx t fs xs hr e0 hb ha hl ht
  obtain ⟨oc, od, dV, kV, doc, pm, an, cdv, ct, osl, rfl, lk, hcd, _, _⟩ := F.ex
  have KX : K.In s.heap := e0.mod.kin.keeps fun b o e => (e0.bs b o e).1
  have kinds : ∀ y ∈ (["self"] : List Str).zip [Value.ref a], (defScope st).names.lookup y.1 = some .local ∨ ((defScope st).names.lookup y.1 = some .cell ∧ ((cellsFrom (s.heap.objs.size + 1) (defScope st).names []).lookup y.1).isSome = true) := by
    rintro ⟨n, v⟩ hy
    exact (S.par n (List.of_mem_zip hy).1).elim Or.inl fun z => Or.inr ⟨z, PySem.W.cellsFrom_some _ _ _ (Or.inl z)⟩
  refine codeAny_call_function hr.depth (KX _ _ lk) rfl S.co S.gen rfl (PySem.W.codeRec_of KX hcd) (hb _ _ _ _ ?_)
  refine wpAny_newFunctionEnv_cells S.kind kinds fun env he s1 x => ?_
  subst he
  refine ⟨(e0.mod.nolimit.keeps fun b o e => (e0.bs b o e).1).keeps x.toInCall.keep, codeAny_func ?_⟩
  have rv : Vals [V.ref a] [Value.ref a] := .cons rfl .nil
  have I := inv_start (CX := CX0) (E := E0) (cd := cdv) (f := f) S hr.hd e0 rfl rv x
  have run := (body cdv A outer s H).run [] s1 (start ["self"] [.ref a]) H { nx := fun _ _ => False, rt := fun v H1 => ∃ it, v = .ref it ∧ s.heap.objs.size ≤ it ∧ H it = none ∧ H1 = upd H it (ItT t it) } (I.wish _) ?_
  · refine wpAny_mono run (fun fl s2 hs => ?_) fun _ _ z => False.elim z
    cases fl with
    | ret u =>
      obtain ⟨v, σ1, H1, J, r1, it, rfl, hy, hn, rfl⟩ := hs
      cases r1
      exact ⟨it, rfl, hy, hn, .ref it, _, J.os, J.bare, J.base, J.hok, rfl, rfl, rfl⟩
    | next =>
      obtain ⟨_, _, _, z⟩ := hs
      exact z.elim
    | brk =>
      obtain ⟨_, _, _, z⟩ := hs
      exact z.elim
    | cont =>
      obtain ⟨_, _, _, z⟩ := hs
      exact z.elim
  · exact ⟨.ref a, rfl, a, D, dx, fs, .ref t, rfl, ha, c, na, hl, t, xs, rfl, SqT.of ht, fun it hi hy => ⟨it, rfl, hy, hi, rfl⟩⟩
end
def iOwn (K : PySem.W.Frag) (D : Addr) (fl : Str) (tl : TE) : TI := fun σ H R => tl σ H fun x H1 => ∃ (a dx : Addr) (fs : List (Str × V)) (t : Addr) (xs : List V), x = .ref a ∧ H1 a = some (.ins D dx fs) ∧ fs.lookup fl = some (.ref t) ∧ H1 t = some (.tup xs) ∧ R (Itt K t) H1
theorem i_iOwn {K : PySem.W.Frag} {D : Addr} {fl : Str} {tl : TE} {σ : L2.St} {H : Hp} {R : It → Hp → Prop} (k : tl σ H fun x H1 => ∃ (a dx : Addr) (fs : List (Str × V)) (t : Addr) (xs : List V), x = .ref a ∧ H1 a = some (.ins D dx fs) ∧ fs.lookup fl = some (.ref t) ∧ H1 t = some (.tup xs) ∧ R (Itt K t) H1) :
    iOwn K D fl tl σ H R := k
section
variable {X : Cx} {tg l : Expr} {tl : TE} {D : Addr} {fl : Str} {k j : Nat}
theorem pi_own (o : Own X.prog X.w X.K X.mg X.base k D fl) (hr : Room j X.A) (hl : PE X l tl) (hk : k ≤ j := by decide) : PI X tg l (iOwn X.K D fl tl) := by
  refine ⟨fun pins s σ H R I h => ?_⟩
  refine thn (hl.run pins s σ H _ I h) fun v s1 ⟨x, H1, I1, r1, q1⟩ => ?_
  obtain ⟨a, dx, fs, t, xs, e, ea, el, et, q⟩ := q1
  subst e
  cases r1
  obtain ⟨f, fd, ps, me, hb, hps, run⟩ := o.ex
  obtain ⟨mA, J, _⟩ := ins_get I1.hok ea
  obtain ⟨od, J, _⟩ := J.look
  obtain ⟨m, hF⟩ := I1.fr
  have hn : PySem.W.specialIn X.K (.ref D) "__iter__" = some (some (.ref f)) ∨ True := .inr trivial
  refine PySem.W.owit_iter hF I1.ok.mod.kin J me.at_ me.fn ?_
  have bt : BindsTo s1 fd ⟨[.ref a], []⟩ (ps.zip [.ref a]) := by
    have := hb s1 [.ref a] I1.kIn (by rw [hps]; rfl)
    simpa using this
  refine wpAny_call (codeAny_mono (run X.A X.stack s1 H1 a dx t fs xs (hr.mono hk) I1.env0 bt ea el et) fun r s2 hq => ?_)
  obtain ⟨it, rfl, hy, hnn, ce⟩ := hq
  obtain ⟨v2, H2, I2, r2, rfl, rfl⟩ := I1.after ce
  have hi : upd H1 it (ItT t it) it = some (ItT t it) := upd_same
  obtain ⟨hphi, _, _⟩ := I2.hok it _ hi
  have st : s2.heap.IsTupleIter it t 0 := hphi
  unfold PySem.W.OwitIt
  refine wpAny_specialOf st.typeIs PySem.F.slot_tuple_iterator_next.lookup ?_
  refine ⟨it, [it], _, _, ItX.dropH (upd H1 it (ItT t it)) it, rfl, ItX.inv_drop I2 hi, turn_tuple t it, st, fun b hb => ?_, ?_⟩
  · have e : b = it := by simpa using hb
    rw [e]
    exact ItX.inv_fp I2 hi (Nat.le_trans I1.sz hy)
  · rw [ItX.dropH_upd hnn]
    exact q
end
instance a_iOwn {K : PySem.W.Frag} {D : Addr} {fl : Str} {tl : TE} {σ : L2.St} {H : Hp} {R : It → Hp → Prop} : St (iOwn K D fl tl σ H R) (tl σ H fun x H1 => ∃ (a dx : Addr) (fs : List (Str × V)) (t : Addr) (xs : List V), x = .ref a ∧ H1 a = some (.ins D dx fs) ∧ fs.lookup fl = some (.ref t) ∧ H1 t = some (.tup xs) ∧ R (Itt K t) H1) := ⟨i_iOwn⟩
theorem i_own1 {D a dx t : Addr} {fl : Str} {fs : List (Str × V)} {xs : List V} {H : Hp} {Qo : Addr → Prop} (h : H a = some (.ins D dx fs)) (l : fs.lookup fl = some (.ref t)) (ht : H t = some (.tup xs)) (k : Qo t) :
    ∃ (b dx : Addr) (fs : List (Str × V)) (t : Addr) (xs : List V), V.ref a = .ref b ∧ H b = some (.ins D dx fs) ∧ fs.lookup fl = some (.ref t) ∧ H t = some (.tup xs) ∧ Qo t := ⟨a, dx, fs, t, xs, rfl, h, l, ht, k⟩
theorem i_prp1 {D a dx : Addr} {fs : List (Str × V)} {H : Hp} {sp : Sp} {Q : VK} {E : XK} (h : H a = some (.ins D dx fs)) (k : sp [.ref a] H Q E) : ∃ b dx fs, V.ref a = .ref b ∧ H b = some (.ins D dx fs) ∧ sp [.ref b] H Q E := ⟨a, dx, fs, rfl, h, k⟩
theorem i_fld1 {K : PySem.W.Frag} {D a dx : Addr} {fl : Str} {fs : List (Str × V)} {H : Hp} {v : V} {Qv : V → Prop} (h : H a = some (.ins D dx fs)) (c : Cls K D) (n : NoAttr K D fl) (l : fs.lookup fl = some v) (k : Qv v) :
    ∃ b C dx fs v, V.ref a = .ref b ∧ H b = some (.ins C dx fs) ∧ Cls K C ∧ NoAttr K C fl ∧ fs.lookup fl = some v ∧ Qv v := ⟨a, D, dx, fs, v, rfl, h, c, n, l, k⟩
theorem i_sfld {K : PySem.W.Frag} {ta tv : TE} {f : Str} {σ : L2.St} {H : Hp} {nx bk ct : L2.St → Hp → Prop} {rt : VK} (k : tv σ H fun y H1 => ta σ H1 fun x H2 => ∃ a C dx fs, x = .ref a ∧ H2 a = some (.ins C dx fs) ∧ Cls K C ∧ NoAttr K C f ∧ fs.length < 1000 ∧ nx σ (upd H2 a (.ins C dx (putF f y fs)))) :
    sFld K ta tv f ⟨nx, rt, bk, ct⟩ σ H := k
theorem i_sfld1 {K : PySem.W.Frag} {D a dx : Addr} {fl : Str} {fs : List (Str × V)} {H : Hp} {y : V} {Qh : Hp → Prop} (h : H a = some (.ins D dx fs)) (c : Cls K D) (n : NoAttr K D fl) (l : fs.length < 1000) (k : Qh (upd H a (.ins D dx (putF fl y fs)))) :
    ∃ b C dx fs, V.ref a = .ref b ∧ H b = some (.ins C dx fs) ∧ Cls K C ∧ NoAttr K C fl ∧ fs.length < 1000 ∧ Qh (upd H b (.ins C dx (putF fl y fs))) := ⟨a, D, dx, fs, rfl, h, c, n, l, k⟩
instance a_sfld {K : PySem.W.Frag} {ta tv : TE} {f : Str} {σ : L2.St} {H : Hp} {nx bk ct : L2.St → Hp → Prop} {rt : VK} : St (sFld K ta tv f ⟨nx, rt, bk, ct⟩ σ H) (tv σ H fun y H1 => ta σ H1 fun x H2 => ∃ a C dx fs, x = .ref a ∧ H2 a = some (.ins C dx fs) ∧ Cls K C ∧ NoAttr K C f ∧ fs.length < 1000 ∧ nx σ (upd H2 a (.ins C dx (putF f y fs)))) := ⟨i_sfld⟩
instance a_fldX {K : PySem.W.Frag} {te : TE} {f : Str} {σ : L2.St} {H : Hp} {Q : VK} : St (tFld K te f σ H Q) (te σ H fun x H1 => ∃ a C dx fs v, x = .ref a ∧ H1 a = some (.ins C dx fs) ∧ Cls K C ∧ NoAttr K C f ∧ fs.lookup f = some v ∧ Q v H1) := ⟨fun k => k⟩
theorem i_met1 {D a dx : Addr} {m : Str} {fs : List (Str × V)} {H : Hp} {Qm : V → Prop} (h : H a = some (.ins D dx fs)) (l : fs.lookup m = none) (k : Qm (.ref a)) :
    ∃ b dx fs, V.ref a = .ref b ∧ H b = some (.ins D dx fs) ∧ fs.lookup m = none ∧ Qm (.ref a) := ⟨a, dx, fs, rfl, h, l, k⟩
instance a_met {D : Addr} {m : Str} {sp : Sp} {E : L2.St → XK} {to : TE} {t : TA} {σ : L2.St} {H : Hp} {Q : VK} : St (rMet D m sp E to t σ H Q) (to σ H fun v H1 => ∃ a dx fs, v = .ref a ∧ H1 a = some (.ins D dx fs) ∧ fs.lookup m = none ∧ t σ H1 fun vs H2 => sp (v :: vs) H2 Q (E σ)) := ⟨fun k => k⟩
instance a_met0 {D : Addr} {m : Str} {sp : Sp} {E : L2.St → XK} {to : TE} {σ : L2.St} {H : Hp} {Q : VK} : St (rMet0 D m sp E to σ H Q) (to σ H fun v H1 => ∃ a dx fs, v = .ref a ∧ H1 a = some (.ins D dx fs) ∧ fs.lookup m = none ∧ sp [v] H1 Q (E σ)) := ⟨fun k => k⟩
/-! ### properties -/
structure Prp (P : Program) (w : World) (K : PySem.W.Frag) (mg : Str → Option Value) (base : Heap) (k : Nat) (D : Addr) (f : Str) (sp : Sp) : Prop where
  ex : ∃ (p g : Addr) (fd : FuncData) (ps : List Str), Cls K D ∧ PropOf K D f p g ∧ FnOk P w K mg base CX0 k g fd ps sp ∧ Binds K fd ps []
def rPrp (D : Addr) (sp : Sp) (ta : TE) : TE := fun σ H Q => ta σ H fun x H1 => ∃ a dx fs, x = .ref a ∧ H1 a = some (.ins D dx fs) ∧ sp [.ref a] H1 Q E0
theorem pe_prp {X : Cx} {e : Expr} {ta : TE} {D : Addr} {f : Str} {sp : Sp} {k j : Nat} {pos : Pos} (he : PE X e ta) (c : Prp X.prog X.w X.K X.mg X.base k D f sp) (hr : Room j X.A) (hk : k + 1 ≤ j := by decide)
    (hab : attributeBase e f X.env (eval e X.env) = eval e X.env := by rfl) : PE X (.Attribute e f pos) (rPrp D sp ta) := by
  obtain ⟨p, g, fd, ps, c, hp, F, hb⟩ := c.ex
  exact pe_prop (dvs := []) he c hp F (hr.mono hk) hb .nil pass0 hab
section
variable {P : Program} {w : World} {K : PySem.W.Frag} {mg : Str → Option Value} {base : Heap} {D : Addr} {f q : Str} {st : Stmt} {sp : Sp} {k : Nat} {ps : List Str}
theorem prpOf (c : Cls K D) (d : ∃ p g fd, PropOf K D f p g ∧ DefAt K f q st g fd) (ok : ∀ g fd, DefAt K f q st g fd → FnOk P w K mg base CX0 k g fd ps sp)
    (b : ∀ (kV doc pm : Value) (an : Option Addr) (cdv ct : Value) (us : List Value), us.length = ps.length → bindArgs (PySem.W.fnOf f q (defArgs st) (defBody st) (defScope st) .none kV doc pm an cdv ct) ⟨us, []⟩ = pure (ps.zip us)) : Prp P w K mg base k D f sp := by
  obtain ⟨p, g, fd, hp, F⟩ := d
  exact ⟨p, g, fd, ps, c, hp, ok g fd F, F.bindsN b⟩
instance a_prp {ta : TE} {σ : L2.St} {H : Hp} {Q : VK} : St (rPrp D sp ta σ H Q) (ta σ H fun x H1 => ∃ a dx fs, x = .ref a ∧ H1 a = some (.ins D dx fs) ∧ sp [.ref a] H1 Q E0) := ⟨fun k => k⟩
theorem i_prp {K : PySem.W.Frag} {ta : TE} {σ : L2.St} {H : Hp} {Q : VK} (k : ta σ H fun x H1 => ∃ a dx fs, x = .ref a ∧ H1 a = some (.ins D dx fs) ∧ sp [.ref a] H1 Q E0) : rPrp D sp ta σ H Q := k
end
end Pp
-- PpG
set_option maxRecDepth 100000
set_option maxHeartbeats 4000000
/-! Loops as goals; calls and scripts in the heap. -/
namespace Pp
open PySem PySem.Spec PyProof.Rows L2 Evl
section
variable {K : PySem.W.Frag} {σ : L2.St} {H : Hp} {tb : TS} {nx bk ct : L2.St → Hp → Prop} {rt : VK} {a : Addr} {xs : List V} {j : Nat} {g : TG}
theorem fr_it {J : It} {n : Nat} {G : Hp → Prop} {Y : Nat → Hp → V → Hp → Prop} (w : Walk J n G Y) (Pv : Nat → L2.St → Hp → Prop) (h0 : Pv 0 σ H) (hG : ∀ i σ H, i ≤ n → Pv i σ H → G H)
    (hs : ∀ i x σ H H', i < n → Pv i σ H → Y i H x H' → g x σ H' fun σ2 H2 => tb ⟨Pv (i + 1), rt, nx, Pv (i + 1)⟩ σ2 H2) (hd : ∀ σ H, Pv n σ H → nx σ H) : forR g tb ⟨nx, rt, bk, ct⟩ σ J H :=
  ⟨for_it (D := ⟨nx, rt, bk, ct⟩) w Pv h0 hG hs hd⟩
theorem fr_T (Pv : Nat → L2.St → Hp → Prop) (h0 : Pv 0 σ H) (hG : ∀ i σ H, i ≤ xs.length → Pv i σ H → H a = some (.tup xs))
    (hs : ∀ i x σ H, xs[i]? = some x → Pv i σ H → tb ⟨Pv (i + 1), rt, nx, Pv (i + 1)⟩ (σ.set j (some x)) H) (hd : ∀ σ H, Pv xs.length σ H → nx σ H) : forR (gName j) tb ⟨nx, rt, bk, ct⟩ σ (Itt K a) H :=
  fr_it (walk_tup (K := K)) Pv h0 (fun i σ H hi p => SqT.of (hG i σ H hi p)) (fun i x σ H H' _ p y => by
    obtain ⟨rfl, hx⟩ := y
    exact hs i x σ _ hx p) hd
theorem fr_L (Pv : Nat → L2.St → Hp → Prop) (h0 : Pv 0 σ H) (hG : ∀ i σ H, i ≤ xs.length → Pv i σ H → H a = some (.lst xs))
    (hs : ∀ i x σ H, xs[i]? = some x → Pv i σ H → tb ⟨Pv (i + 1), rt, nx, Pv (i + 1)⟩ (σ.set j (some x)) H) (hd : ∀ σ H, Pv xs.length σ H → nx σ H) : forR (gName j) tb ⟨nx, rt, bk, ct⟩ σ (Itl K a) H :=
  fr_it (walk_list (K := K)) Pv h0 (fun i σ H hi p => SqL.of (hG i σ H hi p)) (fun i x σ H H' _ p y => by
    obtain ⟨rfl, hx⟩ := y
    exact hs i x σ _ hx p) hd
theorem fr_R {n : Nat} (Pv : Nat → L2.St → Hp → Prop) (h0 : Pv 0 σ H)
    (hs : ∀ (i : Nat) σ H, i < n → Pv i σ H → tb ⟨Pv (i + 1), rt, nx, Pv (i + 1)⟩ (σ.set j (some (.int (i : Int)))) H) (hd : ∀ σ H, Pv n σ H → nx σ H) : forR (gName j) tb ⟨nx, rt, bk, ct⟩ σ (Itr 0 n) H :=
  fr_it walk_range Pv h0 (fun _ _ _ _ _ => trivial) (fun i x σ H H' hi p y => by
    obtain ⟨rfl, rfl⟩ := y
    have e : (0 : Int) + (i : Int) = (i : Int) := Int.zero_add _
    have k := hs i σ _ hi p
    rw [← e] at k
    exact k) hd
theorem fr_E {j' : Nat} (Pv : Nat → L2.St → Hp → Prop) (h0 : Pv 0 σ H) (hG : ∀ i σ H, i ≤ xs.length → Pv i σ H → H a = some (.lst xs))
    (hs : ∀ (i : Nat) x σ H H', xs[i]? = some x → Pv i σ H → Ex H H' → tb ⟨Pv (i + 1), rt, nx, Pv (i + 1)⟩ ((σ.set j (some (.int (i : Int)))).set j' (some x)) H') (hd : ∀ σ H, Pv xs.length σ H → nx σ H) {n : Nat} (hn : n = 2) :
    forR (gTup K n (gCons (gName j) (gCons (gName j') gNil))) tb ⟨nx, rt, bk, ct⟩ σ (Ite K a) H := by
  subst hn
  refine fr_it (walk_enum (K := K)) Pv h0 (fun i σ H hi p => SqL.of (hG i σ H hi p)) (fun i x σ H H' _ p y => ?_) hd
  obtain ⟨T, u, v, rfl, hT, rfl, hu, hv⟩ := y
  cases hu
  exact ⟨T, [.int (i : Nat), v], rfl, SqT.of upd_same, rfl, _, _, rfl, _, _, rfl, rfl, hs i v σ H _ hv p (Ex.new hT)⟩
end
/-! ### a write, by what it keeps -/
theorem put_e {G : List Addr} {H H2 : Hp} {a : Addr} {o u : HO} (h : H a = some u) (nt : ∀ xs, u ≠ .tup xs) (m : a ∈ G) (hU : upd H a o = H2) : Ext G H H2 := hU ▸ Ext.put h nt m
theorem put_o {H H2 : Hp} {a b : Addr} {o u : HO} (hU : upd H a o = H2) (h : H b = some u) (n : b ≠ a) : H2 b = some u := by
  rw [← hU, upd_ne n]
  exact h
/-! ### calls and scripts in the heap -/
abbrev CallsAt (H : Hp) : List Addr → List Cl → Prop := Paired fun p c => H p = some (.tup c.vs)
theorem CallsAt.ex {H H' : Hp} (e : Ex H H') : ∀ {as : List Addr} {cs : List Cl}, CallsAt H as cs → CallsAt H' as cs
  | _, _, .nil => .nil
  | _, _, .cons r t => .cons (e _ _ r) (CallsAt.ex e t)
theorem CallsAt.ext {G : List Addr} {H H' : Hp} (e : Ext G H H') : ∀ {as : List Addr} {cs : List Cl}, CallsAt H as cs → CallsAt H' as cs
  | _, _, .nil => .nil
  | _, _, .cons r t => .cons (e.tup _ _ r) (CallsAt.ext e t)
theorem CallsAt.len {H : Hp} {as : List Addr} {cs : List Cl} (h : CallsAt H as cs) : as.length = cs.length := Paired.length h
theorem CallsAt.get {H : Hp} : ∀ {as : List Addr} {cs : List Cl} {i : Nat} {x : V}, CallsAt H as cs → (as.map V.ref)[i]? = some x → ∃ p c, x = .ref p ∧ as[i]? = some p ∧ cs[i]? = some c ∧ H p = some (.tup c.vs)
  | _, _, _, _, .nil, e => by simp at e
  | _, _, 0, _, .cons r _, e => by simp at e; subst e; exact ⟨_, _, rfl, rfl, rfl, r⟩
  | _, _, i + 1, x, .cons _ t, e => by
    obtain ⟨p, c, h1, h2, h3, h4⟩ := CallsAt.get (i := i) (x := x) t (by simpa using e)
    exact ⟨p, c, h1, by simpa using h2, by simpa using h3, h4⟩
theorem CallsAt.snoc {H : Hp} : ∀ {as : List Addr} {cs : List Cl} {p : Addr} {c : Cl}, CallsAt H as cs → H p = some (.tup c.vs) → CallsAt H (as ++ [p]) (cs ++ [c])
  | _, _, _, _, .nil, h => .cons h .nil
  | _, _, _, _, .cons r t, h => .cons r (CallsAt.snoc t h)
/-- the script at a -/
def ScrAt (K : PySem.W.Frag) (H : Hp) (a : Addr) (files : Int) (cs : List Cl) : Prop :=
  ∃ (dx st : Addr) (as : List Addr), H a = some (.ins (He.ga K "Script") dx [("width", .int files), ("steps", .ref st)]) ∧ H st = some (.tup (as.map V.ref)) ∧ CallsAt H as cs
theorem ScrAt.ex {K : PySem.W.Frag} {H H' : Hp} {a : Addr} {files : Int} {cs : List Cl} (h : ScrAt K H a files cs) (e : Ex H H') : ScrAt K H' a files cs := by
  obtain ⟨dx, st, as, h1, h2, h3⟩ := h
  exact ⟨dx, st, as, e _ _ h1, e _ _ h2, h3.ex e⟩
/-- where the calls take a place, one behind another -/
def mvs (cs : List Cl) (files rows : Int) (p : Int × Int) : Int × Int := cs.foldl (fun p c => mv c files rows p.1 p.2) p
/-- a call that stands in the files -/
def Cl.Ok (files : Int) : Cl → Prop
  | .all k => k ≠ 0
  | .up f k => (0 ≤ f ∧ f < files) ∧ k ≠ 0
  | .swap f g => (0 ≤ f ∧ f < files) ∧ (0 ≤ g ∧ g < files) ∧ f ≠ g
  | .wheel f g k => (0 ≤ f ∧ f < files) ∧ (0 ≤ g ∧ g < files) ∧ f ≠ g ∧ k ≠ 0
  | .front f g => (0 ≤ f ∧ f < files) ∧ (0 ≤ g ∧ g < files) ∧ f ≠ g
  | _ => True
/-- a place of a line -/
def Pl (files rows : Int) (p : Int × Int) : Prop := (0 ≤ p.1 ∧ p.1 < rows) ∧ (0 ≤ p.2 ∧ p.2 < files)
/-- bounds of a line -/
def Bd (files rows : Int) : Prop := (0 < files ∧ files < 10) ∧ (0 < rows ∧ rows < 1000)
end Pp
-- PpX
set_option maxRecDepth 100000
set_option maxHeartbeats 4000000
/-! raise C(e), C's __init__ being super().__init__(x); self.f = x. -/
namespace Pp
open PySem PySem.W PySem.Calls PyProof.Rows PySem.Spec PySem.HandSPX
open L2 (defArgs defBody defScope)
/-- the two rows of such an __init__ -/
def supBody (fld : Str) (p0 p1 p2 p3 p4 p5 p6 p7 p8 p9 : Pos) : List Stmt :=
  [.Expr (.Call (.Attribute (.Call (.Name "super" p0) [] [] p1) "__init__" p2) [.Name fld p3] [] p4) p5, .Assign [.Attribute (.Name "self" p6) fld p7] (.Name fld p8) p9]
def supEv (fld : Str) (p0 p1 p2 p3 p4 : Pos) : Prop := ∃ pl : Sem Bool, ∀ env : Env, eval (.Call (.Attribute (.Call (.Name "super" p0) [] [] p1) "__init__" p2) [.Name fld p3] [] p4) env = (do
  let ov ← attributeBase (.Call (.Name "super" p0) [] [] p1) "__init__" env (eval (.Call (.Name "super" p0) [] [] p1) env)
  standAt p2.atName
  let (f, first) ← holding [ov] (getMethod ov "__init__" pl)
  callWith p4 f first (backTo p4 (starEach [.Name fld p3] env)) [])
abbrev veB : List Value := [.type "ValueError", .type "Exception", .type "BaseException", .type "object"]
structure SupX (prog : Program) (K : Frag) (mg : Str → Option Value) (x : Str) (C fI : Addr) (q fld : Str) (st : Stmt) : Prop where
  g : mg x = some (.ref C)
  cls : ∃ nm qn N bs bm sn sub ab col dd k0 k1 k2 k3 k5, K.lookup C = some (excClassObj nm qn C N bs bm true sn sub ab col dd k0 k1 k2 k3 k5 "ValueError.__new__") ∧ refsVE bm = true
  sa : findIn K (.ref C) "__setattr__" = some (some (.builtin "object.__setattr__"))
  noN : findIn K (.ref C) fld = some none
  iC : findIn K (.ref C) "__init__" = some (some (.ref fI))
  tC : typeIn K (.ref fI) = some (.type "function")
  kC : keepIn K (.ref C) = true
  exC : subIn K (.ref C) (.type "BaseException") = some true
  veC : subIn K (.ref C) (.type "ValueError") = some true
  tyC : typeIn K (.ref C) = some (.type "type")
  own : mroIn K C (.ref C) = some true
  sup : ks_superIn K C C "__init__" = some (some (.builtin "ValueError.__init__"))
  opq : nsIn K cStatics "thirdparty.any" = some none
  fn : ∃ (oc : Value) (od : Option Addr) (doc pm : Value) (an : Option Addr) (cda : Addr) (ct : Value) (cc : Addr) (osl : Array (Option Value)) (ccl cl : Value) (cdd cld : Option Addr) (vs : Array Value) (ccs csl : Array (Option Value)) (file : Str) (tf : Tok) (p0 p1 p2 p3 p4 p5 p6 p7 p8 p9 : Pos),
    K.lookup fI = some ⟨oc, od, .func (ksFn "__init__" q (defArgs st) (supBody fld p0 p1 p2 p3 p4 p5 p6 p7 p8 p9) (defScope st) .none .none doc pm an (.ref cda) ct cc), osl⟩ ∧ codeIn K (.ref cda) q = true ∧
    K.lookup cda = some ⟨ccl, cdd, .fields vs, ccs⟩ ∧ vs[2]? = some (.str file tf) ∧ ((prog.main.file : Str) == file) = true ∧ K.lookup cc = some ⟨cl, cld, .cell (some (.ref C)), csl⟩ ∧ supEv fld p0 p1 p2 p3 p4
  top : (prog.main.scope.names.lookup ("super" : Str)).isSome = false
  mgs : mg "super" = none
/-- what its scope is -/
structure SupS (fld : Str) (st : Stmt) : Prop where
  ks : (defScope st).names.lookup ("super" : Str) = some .globalImplicit
  kc : (defScope st).names.lookup ("__class__" : Str) = some .free
  kself : (defScope st).names.lookup ("self" : Str) = some .local
  kfld : (defScope st).names.lookup fld = some .local
  kind : (defScope st).kind = .function
  co : (defScope st).isCoroutine = false
  gen : (defScope st).isGenerator = false
  cell : ∀ x ∈ (defScope st).names, x.2 ≠ .cell
  hd : ∃ ar, ((defArgs st).posonlyargs ++ (defArgs st).args).head? = some ar ∧ ar.arg = "self"
  inter : ∀ (q : Str) (body : List Stmt) (doc pm : Value) (an : Option Addr) (cdv ct : Value) (cc L f : Addr), interactive (callEnv (ksFn "__init__" q (defArgs st) body (defScope st) .none .none doc pm an cdv ct cc) L f) = false
  nd : (fld == ("__debug__" : Str)) = false
  ne : (("self" : Str) == fld) = false
  bind : ∀ (q : Str) (body : List Stmt) (doc pm : Value) (an : Option Addr) (cdv ct : Value) (cc : Addr) (x : Addr) (v : Value), bindArgs (ksFn "__init__" q (defArgs st) body (defScope st) .none .none doc pm an cdv ct cc) ⟨[.ref x, v], []⟩ = pure [(("self" : Str), Value.ref x), (fld, v)]
structure SupEnd (h h' : Heap) (x C dx : Addr) (fld : Str) (v : Value) : Prop where
  keep : ∀ b o, b ≠ x → h.get? b = some o → h'.get? b = some o
  obj : ∃ t1 : Addr, h'.get? x = some { cls := .ref C, dict := some dx, data := .fields #[.ref t1, .none, .none, .none, .bool false, .none] }
  dbig : h.objs.size ≤ dx
  dne : dx ≠ x
  ns : h'.Ns1 dx (fun y => if y = fld then some v else none)
section
variable {prog : Program} {w : World} {A : Around} {E : Value → Shared → Prop} {R : Result → Shared → Prop} {K : Frag} {mg mb : Str → Option Value} {C fI : Addr} {cn q fld : Str} {st : Stmt}
theorem kept_but {h h' : Heap} {x : Addr} (X : K.In h) (hx : K.lookup x = none) (k : ∀ b o, b ≠ x → h.get? b = some o → h'.get? b = some o) : K.In h' := fun a o e =>
  k a o (fun z => by rw [z, hx] at e; cases e) (X a o e)
/-- super().__init__(rest) on a new exception -/
theorem mw_call {h : Heap} {g : Array GenState} {d : Drawn} {tk : Nat} {os : OsState} {u x t0 : Addr} {rest : List Value} {Q : Value → Shared → Prop} {nm qn : Str} {N : Addr} {bs bm : List Value} {sn : List Str} {sub : List Value} {ab : Bool} {col : Option Bool} {dd : Option Addr} {k0 k1 k2 k3 k5 : Option Value}
    (hu : h.get? u = some (kxs_mw "ValueError.__init__" x)) (hC : h.get? C = some (excClassObj nm qn C N bs bm true sn sub ab col dd k0 k1 k2 k3 k5 "ValueError.__new__")) (he : h.get? x = some (excObj C t0 none .none)) (hz : rest.length ≤ sizeLine)
    (hq : ∀ h', (∀ b o, b ≠ x → h.get? b = some o → h'.get? b = some o) → h'.get? x = some (excObj C h.objs.size none .none) → Q .none ⟨h', g, d, tk, os⟩) :
    wpAny (model prog w) A (call (.ref u) rest) Q E ⟨h, g, d, tk, os⟩ := by
  have FB := F.excBase_ValueError
  refine wpAny_call (codeAny_of_tree ?_)
  show wpAny _ A.in1 (callAny (.ref u) ⟨rest, []⟩) _ _ _
  simp only [callAny]
  refine wpAny_bind (wpAny_load hu ?_)
  simp only [kxs_mw, show (Value.type "method-wrapper" == Value.type "method" || Value.type "method-wrapper" == Value.type "builtin_function_or_method" || Value.type "method-wrapper" == Value.type "method-wrapper") = true by decide, if_true]
  refine KFB.if_so (by decide) (wpAny_bind (check_bound_init FB.toExcCallFacts hC he rfl (wpAny_bind (wpAny_pure (wpAny_pure ⟨plainId_quiet FB.init.plain _, codeAny_builtin FB.initEntry ?_⟩)))))
  exact exc_init_tree (cls := .ref C) (t0 := t0) (dv := none) (c2 := .none) (c3 := .none) (b4 := .bool false) he hz fun h' k e' _ => hq h' k e'
theorem sup_init {s : Shared} (T : SupX prog K mg cn C fI q fld st) (S : SupS fld st) {x t0 : Addr} {v : Value} (X : K.In s.heap) (hg : s.heap.Ns mainGlobals mg) (hb : s.heap.Ns builtinsNs mb) (hbs : mb "super" = some (.type "super")) (hlim : s.heap.NoLimit)
    (hx : s.heap.get? x = some (excO C t0)) (hnx : K.lookup x = none) (hroom : A.depth < recursionLimit) (hq : ∀ h' tk dx, SupEnd s.heap h' x C dx fld v → R (.ok (.ret .none)) { s with heap := h', toks := tk }) :
    codeAny (model prog w) A (.call (.ref fI) ⟨[.ref x, v], []⟩) R s := by
  obtain ⟨oc, od, doc, pm, an, cda, ct, cc, osl, ccl, cl, cdd, cld, vs, ccs, csl, file, tf, p0, p1, p2, p3, p4, p5, p6, p7, p8, p9, ho, hcd, hcode, hvs, hfile, hcell, pl, hev⟩ := T.fn
  obtain ⟨nm, qn, N, bs, bm, sn, sub, ab, col, dd, k0, k1, k2, k3, k5, hC, hbm⟩ := T.cls
  obtain ⟨ar, har, harn⟩ := S.hd
  have hcl : clsIn K C = some { name := nm, bases := bs, mro := .ref C :: bm, ns := N, qualname := qn, hasDict := true, slotNames := sn, subclasses := sub, abstract := ab, collection := col, hasDel := false } := by unfold clsIn; rw [hC] <;> rfl
  refine ks_codeAny_call_defAt (fd := ksFn "__init__" q (defArgs st) (supBody fld p0 p1 p2 p3 p4 p5 p6 p7 p8 p9) (defScope st) .none .none doc pm an (.ref cda) ct cc) (binds := [("self", .ref x), (fld, v)]) hroom (X _ _ ho) rfl hlim (codeRec_of X hcd) rfl
    (BindsTo.of_eq (S.bind ..)) S.cell (fun y hy => ?_) (fun h₁ hns k => ?_) S.co S.gen S.kind
  · rcases List.mem_cons.mp hy with rfl | hy
    · exact S.kself
    · rcases List.mem_cons.mp hy with rfl | hy
      · exact S.kfld
      · cases hy
  have hself : (fun y : Str => [(("self" : Str), Value.ref x), (fld, v)].reverse.lookup y) "self" = some (.ref x) := by
    show List.lookup ("self" : Str) [(fld, v), ("self", Value.ref x)] = _
    simp [List.lookup, S.ne]
  have hfl : (fun y : Str => [(("self" : Str), Value.ref x), (fld, v)].reverse.lookup y) fld = some v := by
    show List.lookup fld [(fld, v), ("self", Value.ref x)] = _
    simp [List.lookup]
  have X₁ : K.In h₁ := X.keeps k
  have hx₁ := k _ _ hx
  refine ks_wpAt_execs_cons (ks_wpAt_Expr_any (ks_wpAt_MethodCall (pl := pl) ?_ (hev _)) (S.inter ..))
  refine ks_wpAt_super_base (env := ksEnv q (defScope st) s.heap.objs.size fI (.ref cda) cc) S.ks S.kc rfl rfl (X₁ _ _ ho) rfl har rfl (X₁ _ _ hcode) rfl hvs hfile T.top ?_
  refine ks_loadName_global S.kind S.ks (loadGlobal_builtin (env := ksEnv q (defScope st) s.heap.objs.size fI (.ref cda) cc) (hg.keeps k) T.mgs (hb.keeps k) hbs ⟨rfl, ?_⟩)
  refine wpAny_loadName_free S.kind S.kc rfl ⟨_, X₁ _ _ hcell, rfl⟩ ?_
  refine wpAny_loadName_local S.kind (by rw [harn]; exact S.kself) hns (by rw [harn]; exact hself) ?_
  refine ks_wpAny_isType_cls (X₁ _ _ hC) rfl ⟨rfl, ?_⟩
  refine ks_wpAny_call_super (X₁ _ _ hC) rfl hx₁ rfl (fun _ z => nomatch z) (looks_mroIn X₁ T.own) (fun h₂ e₂ k₂ => ?_)
  have X₂ : K.In h₂ := X₁.keeps k₂
  have hx₂ := k₂ _ _ hx₁
  have hsup := T.sup
  unfold ks_superIn at hsup
  rw [hcl] at hsup
  have hxC : x ≠ C := fun z => by rw [z, hC] at hnx; cases hnx
  have I₂ : InstAt h₂ x (excO C t0) C none := ⟨hx₂, rfl, rfl, trivial⟩
  refine kxs_getMethod kxs_ValueError e₂ (looks_opaque X₂ T.opq) (l₀ := .ref C :: bm) (fun A Q E s k q => wpAny_bind ((looks_clsIn X₂ hcl) A _ E s k (wpAny_pure q))) rfl X₂ hsup (I₂.type.andThen (looks_subIn X₂ T.veC)) hxC (by decide) ?_
  -- the argument, the call
  have k₃ : ∀ b o, h₂.get? b = some o → (h₂.push (kxs_mw "ValueError.__init__" x)).get? b = some o := fun b o e => Heap.get?_push_of_some _ e
  have X₃ := X₂.keeps k₃
  have hu : (h₂.push (kxs_mw "ValueError.__init__" x)).get? h₂.objs.size = some (kxs_mw "ValueError.__init__" x) := Heap.get?_push_at rfl rfl
  show wpAny _ _ (callWith p4 (.ref h₂.objs.size) [] (backTo p4 (starEach [.Name fld p3] _)) []) _ _ _
  rw [show starEach [Expr.Name fld p3] (callEnv (ksFn "__init__" q (defArgs st) (supBody fld p0 p1 p2 p3 p4 p5 p6 p7 p8 p9) (defScope st) .none .none doc pm an (.ref cda) ct cc) s.heap.objs.size fI) = [(false, eval (.Name fld p3) (ksEnv q (defScope st) s.heap.objs.size fI (.ref cda) cc))] from rfl]
  refine kxs_callWith (i := "ValueError.__init__") (x := x) rfl (evalArgs_plain (spliced_cons ?_))
  have ldv : ∀ {h : Heap} {tk : Nat} {p : Pos} {Q : Value → Shared → Prop} {E : Value → Shared → Prop}, (∀ b o, h₁.get? b = some o → h.get? b = some o) → Q v { s with heap := h, toks := tk } →
      wpAny (model prog w) (A.deeper (ksEnv q (defScope st) s.heap.objs.size fI (.ref cda) cc)) (eval (.Name fld p) (ksEnv q (defScope st) s.heap.objs.size fI (.ref cda) cc)) Q E { s with heap := h, toks := tk } := fun kh hq =>
    wpAny_Name (wpAny_loadName_local (env := ksEnv q (defScope st) s.heap.objs.size fI (.ref cda) cc) S.kind S.kfld (hns.keeps kh) hfl hq) S.nd
  refine ldv (fun b o e => k₃ b o (k₂ b o e)) (spliced_nil ⟨hu, ?_⟩)
  have one : ([v] : List Value).length ≤ sizeLine := by
    rw [sizeLine_eq]
    exact (by decide : 1 ≤ 16777216)
  have hC₃ := X₃ _ _ hC
  refine mw_call (C := C) hu hC₃ (k₃ _ _ hx₂) one fun h₄ k₄ hx₄ => ?_
  -- self.fld = v
  show PySem.wpAt _ _ _ (execs _ _) _ _ _
  have kx₄ : ∀ b o, b ≠ x → h₁.get? b = some o → h₄.get? b = some o := fun b o hb e => k₄ b o hb (k₃ b o (k₂ b o e))
  have X₄ : K.In h₄ := kept_but X₃ hnx k₄
  have hLx : s.heap.objs.size ≠ x := Nat.ne_of_gt (Heap.lt_size hx)
  have hns₄ : h₄.Ns s.heap.objs.size (fun y => [(("self" : Str), Value.ref x), (fld, v)].reverse.lookup y) := by
    obtain ⟨o, es, ep, e, r⟩ := hns
    exact ⟨o, es, ep, kx₄ _ _ hLx e, r⟩
  refine wpAt_of_wpAny (wpAny_execs_cons (plainObj_wpAny_Assign_Attribute ?_))
  refine wpAny_Name (wpAny_loadName_local (env := ksEnv q (defScope st) s.heap.objs.size fI (.ref cda) cc) S.kind S.kfld hns₄ hfl ?_) S.nd
  refine wpAny_Name (wpAny_loadName_local (env := ksEnv q (defScope st) s.heap.objs.size fI (.ref cda) cc) S.kind S.kself hns₄ hself ?_) (by decide)
  refine set_plain X₄ (ox := excObj C (h₂.push (kxs_mw "ValueError.__init__" x)).objs.size none .none) (od := none) ⟨hx₄, rfl, rfl, trivial⟩ T.sa ?_
  refine exc_osa X₄ hx₄ hcl (show refsVE (.ref C :: bm) = true from hbm) rfl T.noN fun h₅ tk₅ dx k₅ dn dne hx₅ hn₅ => ?_
  show wpAny _ _ (execs _ _) _ _ _
  have z0 : s.heap.objs.size ≤ h₄.objs.size := Nat.le_of_lt hns₄.lt
  exact wpAny_execs_nil (hq h₅ tk₅ dx ⟨fun b o hb e => k₅ b o hb (kx₄ b o hb (k b o e)), ⟨_, hx₅⟩, Nat.le_trans z0 dn, dne, hn₅⟩)
structure SupMade (h h' : Heap) (e C d : Addr) (fld : Str) (v : Value) : Prop where
  keep : ∀ b o, h.get? b = some o → h'.get? b = some o
  new : h.objs.size ≤ e
  obj : ∃ oe vs, h'.get? e = some oe ∧ oe.cls = .ref C ∧ oe.dict = some d ∧ oe.data = .fields vs ∧ vs[1]? = some .none
  dbig : h.objs.size ≤ d
  dne : d ≠ e
  ns : h'.Ns1 d (fun y => if y = fld then some v else none)
theorem sup_made {s : Shared} (T : SupX prog K mg cn C fI q fld st) (S : SupS fld st) {v : Value} (X : K.In s.heap) (hg : s.heap.Ns mainGlobals mg) (hb : s.heap.Ns builtinsNs mb) (hbs : mb "super" = some (.type "super")) (hlim : s.heap.NoLimit) (hroom : A.depth + 1 < recursionLimit)
    (hq : ∀ h' tk e d, SupMade s.heap h' e C d fld v → R (.ok (.ret (.ref e))) { s with heap := h', toks := tk }) : codeAny (model prog w) A (.call (.ref C) ⟨[v], []⟩) R s := by
  obtain ⟨nm, qn, N, bs, bm, sn, sub, ab, col, dd, k0, k1, k2, k3, k5, hC, hbm⟩ := T.cls
  obtain ⟨hp, g, dr, tk, os⟩ := s
  have one : ([v] : List Value).length ≤ sizeLine := by
    rw [sizeLine_eq]
    exact (by decide : 1 ≤ 16777216)
  have k : ∀ b o, hp.get? b = some o → ((hp.push (kdv_tup [v])).push (excO C hp.objs.size)).get? b = some o := fun b o e => Heap.get?_push_of_some _ (Heap.get?_push_of_some _ e)
  have hget : ((hp.push (kdv_tup [v])).push (excO C hp.objs.size)).get? (hp.objs.size + 1) = some (excO C hp.objs.size) := by heap_get
  have hnx : K.lookup (hp.objs.size + 1) = none := by
    cases e : K.lookup (hp.objs.size + 1) with
    | none => rfl
    | some o =>
      have z : hp.get? (hp.objs.size + 1) = some o := X _ _ e
      exact absurd (Nat.lt_of_succ_lt (Heap.lt_size z)) (Nat.lt_irrefl _)
  refine call_own F.excBase_ValueError (fun X => refsVE_contains X bm hbm) (X _ _ hC) (looks_findIn X T.iC) (fun self => bind_fn X self T.tC) one ?_
  refine sup_init (s := ⟨(hp.push (kdv_tup [v])).push (excO C hp.objs.size), g, dr, tk, os⟩) T S (X.keeps k) (hg.keeps k) (hb.keeps k) hbs (hlim.keeps k) hget hnx ?_ fun h' tk' dx M => ?_
  · show A.depth + 1 < recursionLimit
    exact hroom
  · have old : ∀ b o, hp.get? b = some o → h'.get? b = some o := fun b o e => M.keep b o (Nat.ne_of_lt (Nat.lt_succ_of_lt (Heap.lt_size e))) (k b o e)
    have z : hp.objs.size + 1 + 1 ≤ dx := by
      have q := M.dbig
      first
        | exact q
        | (rw [Heap.size_push, Heap.size_push] at q; exact q)
    obtain ⟨t1, ho⟩ := M.obj
    exact ⟨rfl, hq h' tk' (hp.objs.size + 1) dx ⟨old, Nat.le_succ _, ⟨_, _, ho, rfl, rfl, rfl, rfl⟩, Nat.le_trans (Nat.le_trans (Nat.le_succ _) (Nat.le_succ _)) z, M.dne, M.ns⟩⟩
end
end Pp
namespace Pp
open PySem PySem.Spec PyProof.Rows L2
theorem relO_one {v : V} {v' : Value} {fld : Str} (r : RelV v v') (f : Str) : RelO (List.lookup f [(fld, v)]) (if f = fld then some v' else none) := by
  by_cases hw : f = fld
  · subst hw
    rw [if_pos rfl]
    have q : List.lookup f [(f, v)] = some v := by simp [List.lookup]
    rw [q]
    exact r
  · rw [if_neg hw]
    have qw : (f == fld) = false := by simpa using hw
    have q2 : List.lookup f [(fld, v)] = none := by simp [List.lookup, qw]
    rw [q2]
    trivial
section
variable {X : Cx} {C fI : Addr} {cn q fld : Str} {st : Stmt}
/-- C(e): its own dict is new; all else as it was -/
def tMkSup (C : Addr) (fld : Str) (ta : TA) : L2.St → Hp → XK → Prop := fun σ H Q => ta σ H fun vs H1 => ∃ v, vs = [v] ∧ ∀ d, H1 d = none → Q (.ref C) (some d) (upd H1 d (.xd [(fld, v)]))
theorem pmk_sup {a : Expr} {ta : TA} {p pos : Pos} {k : Nat} (T : SupX X.prog X.K X.mg cn C fI q fld st) (S : SupS fld st) (hr : Room k X.A) (ha : PA X [a] ta) (hg : Gl X cn := by rfl) (hd : (cn == ("__debug__" : Str)) = false := by decide)
    (he : starEach (a :: []) X.env = (false, eval a X.env) :: starEach [] X.env := by rfl) (hpl : (backTo pos (starEach [] X.env)).any (·.1) = false := by rfl) :
    PMk X (.Call (.Name cn p) [a] [] pos) (tMkSup C fld ta) := by
  intro pins s σ H Q I h
  refine wpAny_Call_Name_kw (ld_glob I hg T.g ?_ hd)
  refine PySem.W.callWith_K (h₀ := X.base) I.ok.mod.kin T.kC (thn (ha.run pos pins s σ H _ I h) fun us s1 hh => ?_) he hpl
  obtain ⟨vs, H1, I1, r1, v, ev, q1⟩ := hh
  subst ev
  refine ⟨I1.kIn, ?_⟩
  cases r1 with
  | cons rv rn =>
    rename_i v' us'
    cases rn
    show wpAny _ _ (call (.ref C) [v']) _ _ _
    have hlim := I1.nolimit
    obtain ⟨mb, hb1, hb2⟩ := I1.mod.blt
    have hgl := I1.mod.glob.keeps I1.bk
    have hbl := hb1.keeps I1.bk
    obtain ⟨hp, g, dr, tk, os⟩ := s1
    refine wpAny_call (sup_made T S I1.kIn hgl hbl ((hb2 "super" (by decide)).trans (by decide +kernel)) hlim (by have := hr.dp; omega) fun h' tk' e d M => ?_)
    show MkP X pins σ Q (.ref e) ⟨h', g, dr, tk', os⟩
    obtain ⟨oe, fv, hoe, hc, hd, hdat, h1⟩ := M.obj
    have hns := M.ns
    obtain ⟨G', g1, g2⟩ := restrict h' fun b => decide (b ≠ e)
    have gk : ∀ b, b ≠ e → G'.get? b = h'.get? b := fun b hb => g1 b (decide_eq_true hb)
    have ge : G'.get? e = none := g2 e (by simp)
    have old : ∀ b o, hp.get? b = some o → G'.get? b = some o := fun b o q => (gk b (Nat.ne_of_lt (Nat.lt_of_lt_of_le (Heap.lt_size q) M.new))).trans (M.keep b o q)
    have ob : ObjOk X.prog X.w (upd H1 d (.xd [(fld, v)])) G' d (.xd [(fld, v)]) := ⟨_, hns.at (fun o q => (gk d M.dne).trans q), fun f => relO_one rv f⟩
    have J : Inv X pins σ (upd H1 d (.xd [(fld, v)])) ⟨G', g, dr, tk', os⟩ := I1.laid (t' := tk') old M.dbig ob
    refine ⟨e, oe, fv, ⟨G', g, dr, tk', os⟩, _, .ref C, some d, rfl, J, fun b o q => ?_, ge, hoe, ⟨hc, hd⟩, hdat, h1, ?_, rfl, I1.bare, raises_own T.exC T.tyC, q1 d (I1.hok.fresh M.dbig)⟩
    · by_cases hb : b = e
      · have q' : G'.get? b = some o := q
        rw [hb, ge] at q'; cases q'
      · exact (gk b hb).symm.trans q
    · rw [upd_ne (Ne.symm M.dne)]
      exact I1.hok.fresh M.new
end
end Pp
-- PpY
set_option maxRecDepth 100000
set_option maxHeartbeats 4000000
/-! raise C() of own classes without __init__. -/
namespace Pp
open PySem PySem.Spec PyProof.Rows L2
section
variable {X : Cx} {C : Addr} {bmB : List Value} {B newId initId : String} {x : Str} {p pos : Pos}
theorem pmk_own0 (F : ExcBaseFacts B newId initId bmB) (q : PySem.W.excIn X.K C bmB newId = true) (gC : X.mg x = some (.ref C)) (kC : PySem.W.keepIn X.K (.ref C) = true) (r : Raises X (.ref C)) (hg : Gl X x) (hdb : (x == ("__debug__" : Str)) = false := by decide) :
    PMk X (.Call (.Name x p) [] [] pos) (fun _ H Q => Q (.ref C) none H) := by
  intro pins s σ H Q I h
  refine wpAny_Call_Name_kw (ld_glob I hg gC ?_ hdb)
  refine PySem.W.callWith_K0 (first := []) I.kIn kC ?_
  show wpAny _ _ (call (.ref C) []) _ _ _
  obtain ⟨bm, N, nm, qn, bs, hdct, sn, sub, ab, col, dd, k0, k1, k2, k3, k5, mN, hC, hN, hni, T⟩ := exc_obj I.kIn q
  refine wpAny_call_exc_subT F T hC hN hni (fun h' e hm => ?_) (by show 0 ≤ sizeLine; exact Nat.zero_le _)
  exact mk_of I hm r h (I.hok.gone hm.new)
theorem pmkN_own0 (F : ExcBaseFacts B newId initId bmB) (q : PySem.W.excIn X.K C bmB newId = true) (gC : X.mg x = some (.ref C)) (kC : PySem.W.keepIn X.K (.ref C) = true) (r : Raises X (.ref C)) (hg : Gl X x) (hdb : (x == ("__debug__" : Str)) = false := by decide) :
    L2N.PMk X (.Call (.Name x p) [] [] pos) (fun _ H Q => Q (.ref C) none H) := by
  intro pins s σ H Q I h
  refine wpAny_Call_Name_kw (ld_glob I hg gC ?_ hdb)
  refine PySem.W.callWith_K0 (first := []) I.kIn kC ?_
  show wpAny _ _ (call (.ref C) []) _ _ _
  obtain ⟨bm, N, nm, qn, bs, hdct, sn, sub, ab, col, dd, k0, k1, k2, k3, k5, mN, hC, hN, hni, T⟩ := exc_obj I.kIn q
  refine wpAny_call_exc_subT F T hC hN hni (fun h' e hm => ?_) (by show 0 ≤ sizeLine; exact Nat.zero_le _)
  exact L2N.mk_of I hm r h (I.hok.gone hm.new)
end
theorem S_Wrong : SupS "place" (inClass (top 3) 0) := ⟨rfl, rfl, rfl, rfl, rfl, rfl, rfl, by decide +kernel, ⟨_, rfl, rfl⟩, fun _ _ _ _ _ _ _ _ _ _ => rfl, by decide, by decide, fun _ _ _ _ _ _ _ _ _ _ => rfl⟩
theorem S_NoCall : SupS "thing" (inClass (top 4) 0) := ⟨rfl, rfl, rfl, rfl, rfl, rfl, rfl, by decide +kernel, ⟨_, rfl, rfl⟩, fun _ _ _ _ _ _ _ _ _ _ => rfl, by decide, by decide, fun _ _ _ _ _ _ _ _ _ _ => rfl⟩
theorem S_NoPupil : SupS "pupil" (inClass (top 7) 0) := ⟨rfl, rfl, rfl, rfl, rfl, rfl, rfl, by decide +kernel, ⟨_, rfl, rfl⟩, fun _ _ _ _ _ _ _ _ _ _ => rfl, by decide, by decide, fun _ _ _ _ _ _ _ _ _ _ => rfl⟩
theorem S_Full : SupS "limit" (inClass (top 8) 0) := ⟨rfl, rfl, rfl, rfl, rfl, rfl, rfl, by decide +kernel, ⟨_, rfl, rfl⟩, fun _ _ _ _ _ _ _ _ _ _ => rfl, by decide, by decide, fun _ _ _ _ _ _ _ _ _ _ => rfl⟩
theorem S_Away : SupS "pupil" (inClass (top 10) 0) := ⟨rfl, rfl, rfl, rfl, rfl, rfl, rfl, by decide +kernel, ⟨_, rfl, rfl⟩, fun _ _ _ _ _ _ _ _ _ _ => rfl, by decide, by decide, fun _ _ _ _ _ _ _ _ _ _ => rfl⟩
theorem S_There : SupS "pupil" (inClass (top 11) 0) := ⟨rfl, rfl, rfl, rfl, rfl, rfl, rfl, by decide +kernel, ⟨_, rfl, rfl⟩, fun _ _ _ _ _ _ _ _ _ _ => rfl, by decide, by decide, fun _ _ _ _ _ _ _ _ _ _ => rfl⟩
/-- an own exception class without __init__ -/
structure OwnX (K : PySem.W.Frag) (mg : Str → Option Value) (x : Str) : Prop where
  q : PySem.W.excIn K (He.ga K x) veB "ValueError.__new__" = true
  g : mg x = some (.ref (He.ga K x))
  k : PySem.W.keepIn K (.ref (He.ga K x)) = true
  ex : PySem.W.subIn K (.ref (He.ga K x)) (.type "BaseException") = some true
  ty : PySem.W.typeIn K (.ref (He.ga K x)) = some (.type "type")
structure TxtX (P : Program) (K : PySem.W.Frag) (mg : Str → Option Value) : Prop where
  x_Wrong : SupX P K mg "Wrong" (He.ga K "Wrong") (He.ma K (He.ga K "Wrong") "__init__") "Wrong.__init__" "place" (inClass (top 3) 0)
  x_NoCall : SupX P K mg "NoCall" (He.ga K "NoCall") (He.ma K (He.ga K "NoCall") "__init__") "NoCall.__init__" "thing" (inClass (top 4) 0)
  x_NoPupil : SupX P K mg "NoPupil" (He.ga K "NoPupil") (He.ma K (He.ga K "NoPupil") "__init__") "NoPupil.__init__" "pupil" (inClass (top 7) 0)
  x_Full : SupX P K mg "Full" (He.ga K "Full") (He.ma K (He.ga K "Full") "__init__") "Full.__init__" "limit" (inClass (top 8) 0)
  x_Away : SupX P K mg "Away" (He.ga K "Away") (He.ma K (He.ga K "Away") "__init__") "Away.__init__" "pupil" (inClass (top 10) 0)
  x_There : SupX P K mg "There" (He.ga K "There") (He.ma K (He.ga K "There") "__init__") "There.__init__" "pupil" (inClass (top 11) 0)
  x_Nothing : OwnX K mg "Nothing"
  x_NoText : OwnX K mg "NoText"
  x_NoCommand : OwnX K mg "NoCommand"
/-! ### len(o), o of a class whose __len__ tells a list's length -/
def rLenO (D : Addr) (fl : Str) : List V → Hp → VK → Prop := fun vs H Q => ∃ (a dx l : Addr) (fs : List (Str × V)) (xs : List V), vs = [.ref a] ∧ H a = some (.ins D dx fs) ∧ fs.lookup fl = some (.ref l) ∧ H l = some (.lst xs) ∧ Q (.int xs.length) H
def sp_lenO (D : Addr) (fl : Str) : Sp := fun vs H Q _ => rLenO D fl vs H Q
structure LenC (P : Program) (w : World) (K : PySem.W.Frag) (mg : Str → Option Value) (base : Heap) (k : Nat) (D : Addr) (fl : Str) : Prop where
  ex : ∃ (f : Addr) (fd : FuncData) (ps : List Str), FnOk P w K mg base CX0 k f fd ps (sp_lenO D fl) ∧ Meth K D "__len__" f ∧ Binds K fd ps [] ∧ ps.length = 1
section
variable {X : Cx} {D : Addr} {fl : Str} {k j : Nat}
theorem cr_lenOwn (o : LenC X.prog X.w X.K X.mg X.base k D fl) (hr : Room j X.A) (hk : k + 1 ≤ j := by decide) : CallR X (.builtin "len") (rLenO D fl) := by
  intro pins s σ H xs us Q I r h
  have h0 := h
  obtain ⟨a, dx, l, fs, ys, rfl, ea, el, eh, q⟩ := h
  obtain ⟨u, rfl, ru⟩ := vals1 r
  cases ru
  obtain ⟨f, fd, ps, Fo, me, hb, hps⟩ := o.ex
  obtain ⟨mA, J, _⟩ := ins_get I.hok ea
  obtain ⟨od, J, _⟩ := J.look
  obtain ⟨m, hF⟩ := I.fr
  refine PySem.W.len_K hF I.ok.mod.kin J me.at_ me.fn ?_
  have bt : BindsTo s fd ⟨[.ref a], []⟩ (ps.zip [.ref a]) := by
    have := hb s [.ref a] I.kIn (by rw [hps]; rfl)
    simpa using this
  have hz : (ys.length : Int) < 2 ^ 63 := by
    obtain ⟨hl, _⟩ := (show ObjOk X.prog X.w H s.heap l (.lst ys) from I.hok l _ eh)
    rw [sizeLine_eq] at hl
    omega
  have rv : Vals [V.ref a] [Value.ref a] := .cons rfl .nil
  refine wpAny_call (codeAny_mono (Fo.run X.A.in1 X.stack s H ⟨[.ref a], []⟩ [.ref a] [.ref a] (fun v H1 => v = .int ys.length ∧ H1 = H) E0 ((hr.mono hk).in1) I.env0.in1 bt rv ?_) fun rr s2 hq => ?_)
  · exact ⟨a, dx, l, fs, ys, rfl, ea, el, eh, rfl, rfl⟩
  · cases rr with
    | error e => exact hq.elim
    | ok fw =>
      cases fw with
      | ret u =>
        obtain ⟨v, H2, I2, r2, rfl, rfl⟩ := I.after hq
        obtain ⟨t, rfl⟩ := r2
        exact ⟨⟨Int.natCast_nonneg _, hz⟩, .int ys.length, H2, I2.tok _, ⟨_, rfl⟩, q⟩
      | next => exact False.elim hq
      | brk => exact False.elim hq
      | cont => exact False.elim hq
end
end Pp
-- PpD0
set_option maxRecDepth 100000
set_option maxHeartbeats 4000000
namespace Pp
open PySem PySem.Spec PyProof.Rows L2 Evl
section
variable {P : Program} {w : World} {K : PySem.W.Frag} {mg : Str → Option Value} {base : Heap} {H : Hp} {Q : VK} {E : XK}
/-! ### kinds -/
abbrev s_is_integer : Stmt := top 15
abbrev N_is_integer : List Str := ["thing"]
theorem sc_is_integer : FnScope N_is_integer ["thing"] (defScope s_is_integer) := ⟨rfl, rfl, rfl, by decide +kernel, rfl, by decide +kernel, by decide +kernel⟩
def sp_is_integer : Sp := fun vs H Q _ => ∃ i : Int, vs = [.int i] ∧ RetV (.bl true) H Q
theorem ok_is_integer (T : Txt K mg w) {f : Addr} {fd : FuncData} (F : DefAt K "is_integer" "is_integer" s_is_integer f fd) : FnOk P w K mg base CX0 1 f fd ["thing"] sp_is_integer := by
  refine ok0 F sc_is_integer (fun vs H Q E h => ?_) (fun cdv A outer s H vs Q E hr h => ?_)
  · walk_at "len"
  · obtain ⟨i, rfl, kq⟩ := h
    refine ⟨_, (pss_one (ps_ret (pe_and (pe_callB call_isi (by rfl) T.b_isinstance (by decide +kernel) (pa_cons (pv 0) (pa_cons (pe_bltn (v := .ty "int") (by rfl) T.b_int (by decide +kernel) rfl) pa_nil))) (pe_one (pe_not (pe_callB call_isi (by rfl) T.b_isinstance (by decide +kernel) (pa_cons (pv 0) (pa_cons (pe_bltn (v := .ty "bool") (by rfl) T.b_bool (by decide +kernel) rfl) pa_nil)))))))), ?_⟩
    refine ⟨_, rfl, _, _, _, _, true, rfl, .ty _, .base (.int i), kit_ty (by decide +kernel), true, rfl, ?_⟩
    refine ⟨_, rfl, _, _, _, _, false, rfl, .ty _, .base (.int i), kit_ty (by decide +kernel), false, rfl, ?_⟩
    exact kq H (Ex.refl H)
theorem cal_is_integer (T : Txt K mg w) : Cal P w K mg base CX0 1 "is_integer" sp_is_integer := calOf T.g_is_integer T.d_is_integer (fun _ F => ok_is_integer T F) (fun _ _ _ _ _ _ us hl => match us, hl with | [_], _ => rfl)
theorem u_is_integer {i : Int} (k : RetV (.bl true) H Q) : sp_is_integer [.int i] H Q E := ⟨i, rfl, k⟩
abbrev s_is_files : Stmt := top 16
abbrev N_is_files : List Str := ["thing"]
theorem sc_is_files : FnScope N_is_files ["thing"] (defScope s_is_files) := ⟨rfl, rfl, rfl, by decide +kernel, rfl, by decide +kernel, by decide +kernel⟩
def sp_is_files : Sp := fun vs H Q _ => ∃ i : Int, vs = [.int i] ∧ RetV (.bl (decide (i = 2 ∨ i = 3))) H Q
theorem ok_is_files (T : Txt K mg w) {f : Addr} {fd : FuncData} (F : DefAt K "is_files" "is_files" s_is_files f fd) : FnOk P w K mg base CX0 2 f fd ["thing"] sp_is_files := by
  refine ok0 F sc_is_files (fun vs H Q E h => ?_) (fun cdv A outer s H vs Q E hr h => ?_)
  · walk_at "len"
  · obtain ⟨i, rfl, kq⟩ := h
    refine ⟨_, (pss_one (ps_ret (pe_and (pe_cal (cal_is_integer T) hr px0 (pa_cons (pv 0) pa_nil)) (pe_one (pe_cmpR op_in_seq (pv 0) (pe_tup (pa_cons pe_int (pa_cons pe_int pa_nil))) (by rfl)))))), ?_⟩
    walk_at "go"
    refine cvb (kq _ (by walk_at "ex")) ?_
    rw [Bool.eq_iff_iff]
    simp [inV, eqV]
    omega
theorem cal_is_files (T : Txt K mg w) : Cal P w K mg base CX0 2 "is_files" sp_is_files := calOf T.g_is_files T.d_is_files (fun _ F => ok_is_files T F) (fun _ _ _ _ _ _ us hl => match us, hl with | [_], _ => rfl)
abbrev s_is_rows : Stmt := top 17
abbrev N_is_rows : List Str := ["thing"]
theorem sc_is_rows : FnScope N_is_rows ["thing"] (defScope s_is_rows) := ⟨rfl, rfl, rfl, by decide +kernel, rfl, by decide +kernel, by decide +kernel⟩
def sp_is_rows : Sp := fun vs H Q _ => ∃ i : Int, vs = [.int i] ∧ RetV (.bl (decide (1 ≤ i))) H Q
theorem ok_is_rows (T : Txt K mg w) {f : Addr} {fd : FuncData} (F : DefAt K "is_rows" "is_rows" s_is_rows f fd) : FnOk P w K mg base CX0 2 f fd ["thing"] sp_is_rows := by
  refine ok0 F sc_is_rows (fun vs H Q E h => ?_) (fun cdv A outer s H vs Q E hr h => ?_)
  · walk_at "len"
  · obtain ⟨i, rfl, kq⟩ := h
    refine ⟨_, (pss_one (ps_ret (pe_and (pe_cal (cal_is_integer T) hr px0 (pa_cons (pv 0) pa_nil)) (pe_one (pe_cmpR op_ge (pv 0) pe_int (nomark _)))))), ?_⟩
    walk_at "go"
    exact kq _ (by walk_at "ex")
theorem cal_is_rows (T : Txt K mg w) : Cal P w K mg base CX0 2 "is_rows" sp_is_rows := calOf T.g_is_rows T.d_is_rows (fun _ F => ok_is_rows T F) (fun _ _ _ _ _ _ us hl => match us, hl with | [_], _ => rfl)
abbrev s_is_index : Stmt := top 18
abbrev N_is_index : List Str := ["thing", "many"]
theorem sc_is_index : FnScope N_is_index ["thing", "many"] (defScope s_is_index) := ⟨rfl, rfl, rfl, by decide +kernel, rfl, by decide +kernel, by decide +kernel⟩
def sp_is_index : Sp := fun vs H Q _ => ∃ i n : Int, vs = [.int i, .int n] ∧ RetV (.bl (decide (0 ≤ i ∧ i < n))) H Q
theorem ok_is_index (T : Txt K mg w) {f : Addr} {fd : FuncData} (F : DefAt K "is_index" "is_index" s_is_index f fd) : FnOk P w K mg base CX0 2 f fd ["thing", "many"] sp_is_index := by
  refine ok0 F sc_is_index (fun vs H Q E h => ?_) (fun cdv A outer s H vs Q E hr h => ?_)
  · walk_at "len"
  · obtain ⟨i, n, rfl, kq⟩ := h
    refine ⟨_, (pss_one (ps_ret (pe_and (pe_cal (cal_is_integer T) hr px0 (pa_cons (pv 0) pa_nil)) (pe_one (pe_chain op_le op_lt pe_int (pv 0) (pv 1)))))), ?_⟩
    walk_at "go"
    refine i_dec (fun h => ?_) (fun h => ?_) <;> walk_at "go"
    · exact cvb (kq _ (by walk_at "ex")) (by simp [h])
    · exact cvb (kq _ (by walk_at "ex")) (by simp [h])
theorem cal_is_index (T : Txt K mg w) : Cal P w K mg base CX0 2 "is_index" sp_is_index := calOf T.g_is_index T.d_is_index (fun _ F => ok_is_index T F) (fun _ _ _ _ _ _ us hl => match us, hl with | [_, _], _ => rfl)
theorem u_is_files {i : Int} (k : RetV (.bl (decide (i = 2 ∨ i = 3))) H Q) : sp_is_files [.int i] H Q E := ⟨i, rfl, k⟩
theorem u_is_rows {i : Int} (k : RetV (.bl (decide (1 ≤ i))) H Q) : sp_is_rows [.int i] H Q E := ⟨i, rfl, k⟩
theorem u_is_index {i n : Int} (k : RetV (.bl (decide (0 ≤ i ∧ i < n))) H Q) : sp_is_index [.int i, .int n] H Q E := ⟨i, n, rfl, k⟩
end
end Pp
-- PpD1
set_option maxRecDepth 100000
set_option maxHeartbeats 4000000
namespace Pp
open PySem PySem.Spec PyProof.Rows L2 Evl
section
variable {P : Program} {w : World} {K : PySem.W.Frag} {mg : Str → Option Value} {base : Heap} {H : Hp} {Q : VK} {E : XK}
/-! ### calls -/
def manyOf (wd : Str) : Option Nat :=
  if wd = "all" then some 0 else if wd = "up" then some 1 else if wd = "swap" then some 2 else if wd = "wheel" then some 2 else if wd = "about" then some 0 else if wd = "front" then some 2 else if wd = "halve" then some 0 else if wd = "pair" then some 0 else if wd = "others" then some 0 else if wd = "fill" then some 0 else none
def isNum (wd : Str) : Bool := decide (wd = "all" ∨ wd = "up" ∨ wd = "wheel")
def callB (files : Int) (u : Bool) (m : Nat) (ns : List Int) : Bool :=
  decide (ns.length = m + (if u then 1 else 0)) && (((ns.take m).all fun i => decide (0 ≤ i ∧ i < files)) && (!(decide (m = 2) && decide (ns.getD 0 0 = ns.getD 1 0)) && (!u || decide (ns.getD (ns.length - 1) 0 ≠ 0))))
def isCallB (files : Int) (wd : Str) (ns : List Int) : Bool :=
  match manyOf wd with
  | none => false
  | some m => callB files (isNum wd) m ns
theorem tab_many (wd : Str) : tabV tabF wd = (manyOf wd).map fun (m : Nat) => V.int (m : Int) := by
  unfold manyOf
  by_cases h1 : wd = "all"
  · subst h1; rfl
  by_cases h2 : wd = "up"
  · subst h2; rfl
  by_cases h3 : wd = "swap"
  · subst h3; rfl
  by_cases h4 : wd = "wheel"
  · subst h4; rfl
  by_cases h5 : wd = "about"
  · subst h5; rfl
  by_cases h6 : wd = "front"
  · subst h6; rfl
  by_cases h7 : wd = "halve"
  · subst h7; rfl
  by_cases h8 : wd = "pair"
  · subst h8; rfl
  by_cases h9 : wd = "others"
  · subst h9; rfl
  by_cases h10 : wd = "fill"
  · subst h10; rfl
  rw [if_neg h1, if_neg h2, if_neg h3, if_neg h4, if_neg h5, if_neg h6, if_neg h7, if_neg h8, if_neg h9, if_neg h10]
  unfold tabV tabF
  simp [List.find?, Ne.symm h1, Ne.symm h2, Ne.symm h3, Ne.symm h4, Ne.symm h5, Ne.symm h6, Ne.symm h7, Ne.symm h8, Ne.symm h9, Ne.symm h10]
theorem many_le {wd : Str} {m : Nat} (h : manyOf wd = some m) : m ≤ 2 := by
  unfold manyOf at h
  repeat' split at h
  all_goals first | (cases h; done) | (have := Option.some.inj h; omega)
theorem num_in (wd : Str) : inV (.str wd) [.str "all", .str "up", .str "wheel"] = isNum wd := by
  unfold isNum inV eqV
  rw [Bool.eq_iff_iff]
  simp only [List.any_cons, List.any_nil, Bool.or_false, Bool.or_eq_true, beq_iff_eq, decide_eq_true_eq]
  constructor
  · rintro (h | h | h) <;> simp [← h]
  · rintro (h | h | h) <;> simp [h]
abbrev s_is_call : Stmt := top 29
abbrev N_is_call : List Str := ["files", "thing", "many", "numbers", "file"]
theorem sc_is_call : FnScope N_is_call ["files", "thing"] (defScope s_is_call) := ⟨rfl, rfl, rfl, by decide +kernel, rfl, by decide +kernel, by decide +kernel⟩
def sp_is_call : Sp := fun vs H Q _ => ∃ (files : Int) (aC : Addr) (wd : Str) (ns : List Int), vs = [.int files, .ref aC] ∧ H aC = some (.tup (wv wd ns)) ∧ RetV (.bl (isCallB files wd ns)) H Q
theorem ok_is_call (T : Txt K mg w) {f : Addr} {fd : FuncData} (F : DefAt K "is_call" "is_call" s_is_call f fd) : FnOk P w K mg base CX0 3 f fd ["files", "thing"] sp_is_call := by
  refine ok0 F sc_is_call (fun vs H Q E h => ?_) (fun cdv A outer s H vs Q E hr h => ?_)
  · walk_at "len"
  · obtain ⟨files, aC, wd, ns, rfl, hc, kq⟩ := h
    refine ⟨_, (pss_cons (ps_if (PW.pt (pw_or (pt_not (pt_val (pe_callB call_isi (by rfl) T.b_isinstance (by decide +kernel) (pa_cons (pv 1) (pa_cons (pe_bltn (v := .ty "tuple") (by rfl) T.b_tuple (by decide +kernel) rfl) pa_nil))))) (pw_or (pt_cmpR op_eq (pe_callB cr_len (by rfl) T.b_len PySem.boot_len (pa_cons (pv 1) pa_nil)) pe_int (nomark _)) (pw_or (pt_not (pt_val (pe_callB call_isi (by rfl) T.b_isinstance (by decide +kernel) (pa_cons (pe_ix ix_tup (pv 1) pe_int (fun _ _ => rfl)) (pa_cons (pe_bltn (v := .ty "str") (by rfl) T.b_str (by decide +kernel) rfl) pa_nil))))) (pw_or1 (pt_cmpR (op_tabNot T.k_BY_FILES) (pe_ix ix_tup (pv 1) pe_int (fun _ _ => rfl)) (pe_glob (v := .ref (He.ga K "BY_FILES")) (by rfl) T.g_BY_FILES rfl) (by rfl))))))) (pss_one (ps_ret pe_bl)) pss_nil)
  (pss_cons (ps_par (i := 2) (j := 3) (by rfl) sc_is_call.nd rfl rfl (by decide) rfl rfl (pa_cons (pe_ix (ix_tabX T.k_BY_FILES) (pe_glob (v := .ref (He.ga K "BY_FILES")) (by rfl) T.g_BY_FILES rfl) (pe_ix ix_tup (pv 1) pe_int (fun _ _ => rfl)) (fun _ _ => rfl)) (pa_cons (pe_callTy cr_int (by rfl) T.b_int (by decide +kernel) (pa_cons (pe_cmpR op_in_seq (pe_ix ix_tup (pv 1) pe_int (fun _ _ => rfl)) (pe_glob (v := .ref (He.ga K "BY_NUMBER")) (by rfl) T.g_BY_NUMBER rfl) (by rfl)) pa_nil)) pa_nil)) (by rfl))
  (pss_cons (ps_if (PW.pt (pw_or (pt_cmpR op_ne (pe_callB cr_len (by rfl) T.b_len PySem.boot_len (pa_cons (pv 1) pa_nil)) (pe_op op_add (pe_op op_add pe_int (pv 2)) (pv 3)) (nomark _)) (pw_or1 (pt_not (pt_val (pe_callB (cr_all rfl) (by rfl) T.b_all (by decide +kernel) (pa_cons (pe_lc (own := [("file", 4)]) (g := gName 4) (tt := tYes) rfl sc_is_call.nd (pi_tup (pe_slice sl_tupA (pv 1) (po_some pe_int) (po_some (pe_op op_add pe_int (pv 2))))) (blkOk_by (own := [("file", 4)]) (N := N_is_call) (sc := defScope s_is_call) (by decide +kernel)) (fun _ _ _ _ _ => pg_name (i := 4) sc_is_call.nd rfl (Or.inl rfl)) (fun _ _ _ _ _ => pts_nil) (fun _ _ _ _ _ => (pe_cal (cal_is_index T) hr px0 (pa_cons (pv 4) (pa_cons (pv 0) pa_nil))))) pa_nil))))))) (pss_one (ps_ret pe_bl)) pss_nil)
  (pss_cons (ps_if (PW.pt (pw_and (pt_cmpR op_eq (pv 2) pe_int (nomark _)) (pw_and1 (pt_cmpR op_eq (pe_ix ix_tup (pv 1) pe_int (fun _ _ => rfl)) (pe_ix ix_tup (pv 1) pe_int (fun _ _ => rfl)) (nomark _))))) (pss_one (ps_ret pe_bl)) pss_nil)
  (pss_one (ps_ret (pe_or (pe_cmpR op_eq (pv 3) pe_int (nomark _)) (pe_one (pe_and (pe_cal (cal_is_integer T) hr px0 (pa_cons (pe_ix ix_tup (pv 1) (pe_un un_neg pe_int) (fun _ _ => rfl)) pa_nil)) (pe_one (pe_cmpR op_ne (pe_ix ix_tup (pv 1) (pe_un un_neg pe_int) (fun _ _ => rfl)) pe_int (nomark _)))))))))))), ?_⟩
    unfold wv at hc
    have ht := tab_many wd
    unfold isCallB at kq
    cases hm : manyOf wd with
    | none =>
      rw [hm] at ht kq
      simp only [Option.map_none] at ht kq
      walk_at "go"
      exact kq _ (by walk_at "ex")
    | some m =>
      rw [hm] at ht kq
      simp only [Option.map_some] at ht kq
      have hm2 := many_le hm
      have hn := num_in wd
      have e0 : (V.int (((V.str wd :: ns.map V.int).length : Nat) : Int) = V.int (1 + (m : Int) + if inV (.str wd) [.str "all", .str "up", .str "wheel"] = true then 1 else 0)) ↔ ns.length = m + (if isNum wd then 1 else 0) := by
        rw [hn]
        simp only [V.int.injEq, List.length_cons, List.length_map]
        split <;> omega
      walk_at "go"
      by_cases hl : ns.length = m + (if isNum wd then 1 else 0)
      · refine i_f (by rw [decide_eq_true (e0.mpr hl)]; rfl) ?_
        walk_at "go"
        have hcut : cutV (V.str wd :: ns.map V.int) (some 1) (some (1 + (m : Int))) = (ns.take m).map V.int := by
          have h1 : m ≤ ns.length := by omega
          unfold cutV
          rw [show HT.sIx (V.str wd :: ns.map V.int).length 0 (some 1) = 1 by simp [HT.sIx], show HT.sIx (V.str wd :: ns.map V.int).length (V.str wd :: ns.map V.int).length (some (1 + (m : Int))) = m + 1 by simp only [HT.sIx, List.length_cons, List.length_map]; rw [if_neg (by omega)]; omega]
          simp [List.map_take]
        rw [hcut] at g
        refine lc_intsT g (fun i => .bl (decide (0 ≤ i ∧ i < files))) (by simp; omega) (fun _ => rfl) (fun n H1 e1 _ Q1 q1 => ?_) (fun p2 H3 hp2 e3 g3 => ?_)
        · walk_at "go"
          exact q1 _ (by walk_at "ex")
        · have g4 : H3 p2 = some (.lst (((ns.take m).map fun i => decide (0 ≤ i ∧ i < files)).map V.bl)) := by rw [g3, List.map_map]; rfl
          walk_at "go"
          have ea : ((ns.take m).map fun i => decide (0 ≤ i ∧ i < files)).all id = (ns.take m).all fun i => decide (0 ≤ i ∧ i < files) := by rw [List.all_map]; rfl
          rw [ea]
          cases hall : (ns.take m).all fun i => decide (0 ≤ i ∧ i < files) with
          | false =>
            refine i_nf ?_
            walk_at "go"
            exact cvb (kq _ (by walk_at "ex")) (by unfold callB; rw [hall]; simp)
          | true =>
            refine i_nt ?_
            walk_at "go"
            have fin : isNum wd = true → atI (V.str wd :: ns.map V.int) (-1) = some (.int (ns.getD (ns.length - 1) 0)) := fun hu => by
              rw [hu] at hl
              have hl : ns.length = m + 1 := hl
              refine atI_last ?_
              rw [List.length_cons, List.length_map, Nat.add_sub_cancel, hl, List.getElem?_cons_succ, List.getElem?_map, Nat.add_sub_cancel, List.getD_eq_getElem?_getD]
              have : m < ns.length := by omega
              rw [List.getElem?_eq_getElem this]
              rfl
            have key : callB files (isNum wd) m ns = (!(decide (m = 2) && decide (ns.getD 0 0 = ns.getD 1 0)) && (!isNum wd || decide (ns.getD (ns.length - 1) 0 ≠ 0))) := by
              unfold callB
              rw [hall, decide_eq_true hl]
              rfl
            rw [key] at kq
            by_cases h2 : m = 2
            · subst h2
              obtain ⟨a, b, r, rfl⟩ : ∃ a b r, ns = a :: b :: r := by
                match ns, hl with
                | [], hl => exfalso; revert hl; cases isNum wd <;> simp
                | [_], hl => exfalso; revert hl; cases isNum wd <;> simp
                | a :: b :: r, _ => exact ⟨a, b, r, rfl⟩
              have i1 : atI (V.str wd :: (a :: b :: r).map V.int) 1 = some (.int a) := atI_at (i := 1) rfl
              have i2 : atI (V.str wd :: (a :: b :: r).map V.int) 2 = some (.int b) := atI_at (i := 2) rfl
              walk_at "go"
              by_cases hab : a = b
              · refine i_t (by rw [hab]; exact decide_eq_true rfl) ?_
                walk_at "go"
                exact cvb (kq _ (by walk_at "ex")) (by simp [hab])
              · refine i_f (decide_eq_false fun z => hab (V.int.inj z)) ?_
                walk_at "go"
                cases hu : isNum wd with
                | false =>
                  rw [hu] at kq
                  refine i_t (by rw [hn, hu]; decide) ?_
                  exact cvb (kq _ (by walk_at "ex")) (by simp [hab])
                | true =>
                  have fin' := fin hu
                  rw [hu] at kq
                  refine i_f (by rw [hn, hu]; decide) ?_
                  walk_at "go"
                  exact cvb (kq _ (by walk_at "ex")) (by simp [hab])
            · refine i_f (decide_eq_false fun z => h2 (by have := V.int.inj z; omega)) ?_
              walk_at "go"
              cases hu : isNum wd with
              | false =>
                rw [hu] at kq
                refine i_t (by rw [hn, hu]; decide) ?_
                exact cvb (kq _ (by walk_at "ex")) (by simp [h2])
              | true =>
                have fin' := fin hu
                rw [hu] at kq
                refine i_f (by rw [hn, hu]; decide) ?_
                walk_at "go"
                exact cvb (kq _ (by walk_at "ex")) (by simp [h2])
      · refine i_t (by rw [decide_eq_false (fun z => hl (e0.mp z))]; rfl) ?_
        walk_at "go"
        refine cvb (kq _ (by walk_at "ex")) ?_
        unfold callB
        rw [decide_eq_false hl]
        rfl
theorem cal_is_call (T : Txt K mg w) : Cal P w K mg base CX0 3 "is_call" sp_is_call := calOf T.g_is_call T.d_is_call (fun _ F => ok_is_call T F) (fun _ _ _ _ _ _ us hl => match us, hl with | [_, _], _ => rfl)
theorem u_is_call {files : Int} {aC : Addr} {wd : Str} {ns : List Int} (h : H aC = some (.tup (wv wd ns))) (k : RetV (.bl (isCallB files wd ns)) H Q) : sp_is_call [.int files, .ref aC] H Q E := ⟨files, aC, wd, ns, rfl, h, k⟩
theorem u_is_callC {files : Int} {aC : Addr} {c : Cl} (h : H aC = some (.tup c.vs)) (k : RetV (.bl (isCallB files c.word c.ns)) H Q) : sp_is_call [.int files, .ref aC] H Q E := u_is_call (by rw [h, Cl.vs_wv]) k
end
end Pp
-- PpD2
set_option maxRecDepth 100000
set_option maxHeartbeats 4000000
namespace Pp
open PySem PySem.Spec PyProof.Rows L2 Evl
section
variable {P : Program} {w : World} {K : PySem.W.Frag} {mg : Str → Option Value} {base : Heap} {H : Hp} {Q : VK} {E : XK}
def szOf : Cl → Int
  | .all k => if k < 0 then -k else k
  | .up _ k => if k < 0 then -k else k
  | .wheel _ _ k => if k < 0 then -k else k
  | _ => 1
def Cl.turn : Cl → Cl
  | .all k => .all (-k) | .up f k => .up f (-k) | .wheel f g k => .wheel f g (-k) | .halve => .pair | .pair => .halve | .others => .fill | .fill => .others | c => c
abbrev s_size_of : Stmt := top 30
abbrev N_size_of : List Str := ["call"]
theorem sc_size_of : FnScope N_size_of ["call"] (defScope s_size_of) := ⟨rfl, rfl, rfl, by decide +kernel, rfl, by decide +kernel, by decide +kernel⟩
def sp_size_of : Sp := fun vs H Q _ => ∃ (aC : Addr) (c : Cl), vs = [.ref aC] ∧ H aC = some (.tup c.vs) ∧ RetV (.int (szOf c)) H Q
theorem ok_size_of (T : Txt K mg w) {f : Addr} {fd : FuncData} (F : DefAt K "size_of" "size_of" s_size_of f fd) : FnOk P w K mg base CX0 1 f fd ["call"] sp_size_of := by
  refine ok0 F sc_size_of (fun vs H Q E h => ?_) (fun cdv A outer s H vs Q E hr h => ?_)
  · walk_at "len"
  · obtain ⟨aC, c, rfl, hc, kq⟩ := h
    refine ⟨_, (pss_one (ps_ret (pe_ifExp (pt_cmpR op_in_seq (pe_ix ix_tup (pv 0) pe_int (fun _ _ => rfl)) (pe_glob (v := .ref (He.ga K "BY_NUMBER")) (by rfl) T.g_BY_NUMBER rfl) (by rfl)) (pe_callB cr_abs (by rfl) T.b_abs (by decide +kernel) (pa_cons (pe_ix ix_tup (pv 0) (pe_un un_neg pe_int) (fun _ _ => rfl)) pa_nil)) pe_int))), ?_⟩
    cases c <;> (simp only [Cl.vs] at hc; walk_at "go"; exact kq _ (by walk_at "ex"))
theorem cal_size_of (T : Txt K mg w) : Cal P w K mg base CX0 1 "size_of" sp_size_of := calOf T.g_size_of T.d_size_of (fun _ F => ok_size_of T F) (fun _ _ _ _ _ _ us hl => match us, hl with | [_], _ => rfl)
theorem u_size_of {aC : Addr} {c : Cl} (h : H aC = some (.tup c.vs)) (k : RetV (.int (szOf c)) H Q) : sp_size_of [.ref aC] H Q E := ⟨aC, c, rfl, h, k⟩
abbrev s_turned : Stmt := top 31
abbrev N_turned : List Str := ["call"]
theorem sc_turned : FnScope N_turned ["call"] (defScope s_turned) := ⟨rfl, rfl, rfl, by decide +kernel, rfl, by decide +kernel, by decide +kernel⟩
def sp_turned : Sp := fun vs H Q _ => ∃ (aC : Addr) (c : Cl), vs = [.ref aC] ∧ H aC = some (.tup c.vs) ∧ ∀ q H', Ex H H' → H' q = some (.tup c.turn.vs) → Q (.ref q) H'
theorem ok_turned (T : Txt K mg w) {f : Addr} {fd : FuncData} (F : DefAt K "turned" "turned" s_turned f fd) : FnOk P w K mg base CX0 1 f fd ["call"] sp_turned := by
  refine ok0 F sc_turned (fun vs H Q E h => ?_) (fun cdv A outer s H vs Q E hr h => ?_)
  · walk_at "len"
  · obtain ⟨aC, c, rfl, hc, kq⟩ := h
    refine ⟨_, (pss_cons (ps_if (pt_cmpR op_in_seq (pe_ix ix_tup (pv 0) pe_int (fun _ _ => rfl)) (pe_glob (v := .ref (He.ga K "BY_NUMBER")) (by rfl) T.g_BY_NUMBER rfl) (by rfl)) (pss_one (ps_ret (pe_op op_catA (pe_slice sl_tupA (pv 0) po_none (po_some (pe_un un_neg pe_int))) (pe_tup (pa_cons (pe_un un_neg (pe_ix ix_tup (pv 0) (pe_un un_neg pe_int) (fun _ _ => rfl))) pa_nil))))) pss_nil)
  (pss_one (ps_ret (pe_ifExp (pt_cmpR (op_tabIn T.k_OPEN_CALLS) (pe_ix ix_tup (pv 0) pe_int (fun _ _ => rfl)) (pe_glob (v := .ref (He.ga K "OPEN_CALLS")) (by rfl) T.g_OPEN_CALLS rfl) (by rfl)) (pe_tup (pa_cons (pe_ix (ix_tabX T.k_OPEN_CALLS) (pe_glob (v := .ref (He.ga K "OPEN_CALLS")) (by rfl) T.g_OPEN_CALLS rfl) (pe_ix ix_tup (pv 0) pe_int (fun _ _ => rfl)) (fun _ _ => rfl)) pa_nil)) (pv 0))))), ?_⟩
    cases c <;> (simp only [Cl.vs] at hc; walk_at "go"; refine kq _ _ (by walk_at "ex") ?_; first | walk_at "tx" | exact g)
theorem cal_turned (T : Txt K mg w) : Cal P w K mg base CX0 1 "turned" sp_turned := calOf T.g_turned T.d_turned (fun _ F => ok_turned T F) (fun _ _ _ _ _ _ us hl => match us, hl with | [_], _ => rfl)
abbrev s_on_wheel : Stmt := top 32
abbrev N_on_wheel : List Str := ["call", "rows", "place", "row", "file", "seat"]
theorem sc_on_wheel : FnScope N_on_wheel ["call", "rows", "place"] (defScope s_on_wheel) := ⟨rfl, rfl, rfl, by decide +kernel, rfl, by decide +kernel, by decide +kernel⟩
def sp_on_wheel : Sp := fun vs H Q _ => ∃ (aC aP : Addr) (f g k rows r fl : Int), vs = [.ref aC, .int rows, .ref aP] ∧ H aC = some (.tup [.str "wheel", .int f, .int g, .int k]) ∧ H aP = some (.tup [.int r, .int fl]) ∧ 0 < rows ∧
  ∀ q H', Ex H H' → H' q = some (.tup (plV (onWheel f g k rows r fl))) → Q (.ref q) H'
theorem ok_on_wheel (T : Txt K mg w) {f : Addr} {fd : FuncData} (F : DefAt K "on_wheel" "on_wheel" s_on_wheel f fd) : FnOk P w K mg base CX0 1 f fd ["call", "rows", "place"] sp_on_wheel := by
  refine ok0 F sc_on_wheel (fun vs H Q E h => ?_) (fun cdv A outer s H vs Q E hr h => ?_)
  · walk_at "len"
  · obtain ⟨aC, aP, f, g, k, rows, r, fl, rfl, hc, hp, h0, kq⟩ := h
    refine ⟨_, (pss_cons (ps_asg (pv 2) (pg_tup (by rfl) (pgs_cons (pg_name (i := 3) sc_on_wheel.nd rfl (Or.inl rfl)) (pgs_cons (pg_name (i := 4) sc_on_wheel.nd rfl (Or.inl rfl)) pgs_nil))))
  (pss_cons (ps_if (pt_cmpR op_notIn_seq (pv 4) (pe_slice sl_tupA (pv 0) (po_some pe_int) (po_some pe_int)) (by rfl)) (pss_one (ps_ret (pv 2))) pss_nil)
  (pss_cons (ps_set (i := 5) sc_on_wheel.nd rfl (Or.inl rfl) (pe_ifExp (pt_cmpR op_eq (pv 4) (pe_ix ix_tup (pv 0) pe_int (fun _ _ => rfl)) (nomark _)) (pe_op op_sub (pe_op op_sub (pv 1) pe_int) (pv 3)) (pe_op op_add (pv 1) (pv 3))))
  (pss_cons (ps_set (i := 5) sc_on_wheel.nd rfl (Or.inl rfl) (pe_op op_mod (pe_op op_add (pv 5) (pe_ix ix_tup (pv 0) pe_int (fun _ _ => rfl))) (pe_op op_mul pe_int (pv 1))))
  (pss_one (ps_ret (pe_ifExp (pt_cmpR op_lt (pv 5) (pv 1) (nomark _)) (pe_tup (pa_cons (pe_op op_sub (pe_op op_sub (pv 1) pe_int) (pv 5)) (pa_cons (pe_ix ix_tup (pv 0) pe_int (fun _ _ => rfl)) pa_nil))) (pe_tup (pa_cons (pe_op op_sub (pv 5) (pv 1)) (pa_cons (pe_ix ix_tup (pv 0) pe_int (fun _ _ => rfl)) pa_nil)))))))))), ?_⟩
    unfold onWheel at kq
    by_cases h1 : fl = f
    · subst h1
      walk_at "go"
      refine i_dec (fun h => ?_) (fun h => ?_) <;> walk_at "go"
      · exact cvt kq (by walk_at "ex") (by walk_at "tx") (by simp [plV, h])
      · exact cvt kq (by walk_at "ex") (by walk_at "tx") (by simp [plV, h])
    · by_cases h2 : fl = g
      · subst h2
        walk_at "go"
        refine i_dec (fun h => ?_) (fun h => ?_) <;> walk_at "go"
        · exact cvt kq (by walk_at "ex") (by walk_at "tx") (by simp [plV, h1, h])
        · exact cvt kq (by walk_at "ex") (by walk_at "tx") (by simp [plV, h1, h])
      · walk_at "go"
        refine kq _ _ (by walk_at "ex") ?_
        rw [if_neg (by omega)]
        walk_at "tx"
theorem cal_on_wheel (T : Txt K mg w) : Cal P w K mg base CX0 1 "on_wheel" sp_on_wheel := calOf T.g_on_wheel T.d_on_wheel (fun _ F => ok_on_wheel T F) (fun _ _ _ _ _ _ us hl => match us, hl with | [_, _, _], _ => rfl)
abbrev s_on_open : Stmt := top 33
abbrev N_on_open : List Str := ["call", "files", "rows", "place", "row", "file", "number", "half"]
theorem sc_on_open : FnScope N_on_open ["call", "files", "rows", "place"] (defScope s_on_open) := ⟨rfl, rfl, rfl, by decide +kernel, rfl, by decide +kernel, by decide +kernel⟩
def sp_on_open : Sp := fun vs H Q _ => ∃ (aC aP : Addr) (c : Cl) (files rows r fl : Int), vs = [.ref aC, .int files, .int rows, .ref aP] ∧ H aC = some (.tup c.vs) ∧ H aP = some (.tup [.int r, .int fl]) ∧ (c = .halve ∨ c = .pair ∨ c = .others ∨ c = .fill) ∧
  (0 < files ∧ files < 1000) ∧ (0 < rows ∧ rows < 100000) ∧ (0 ≤ r ∧ r < rows) ∧ (0 ≤ fl ∧ fl < files) ∧ ∀ q H', Ex H H' → H' q = some (.tup (plV (mv c files rows r fl))) → Q (.ref q) H'
theorem ok_on_open (T : Txt K mg w) {f : Addr} {fd : FuncData} (F : DefAt K "on_open" "on_open" s_on_open f fd) : FnOk P w K mg base CX0 1 f fd ["call", "files", "rows", "place"] sp_on_open := by
  refine ok0 F sc_on_open (fun vs H Q E h => ?_) (fun cdv A outer s H vs Q E hr h => ?_)
  · walk_at "len"
  · obtain ⟨aC, aP, c, files, rows, r, fl, rfl, hc, hp, hk, ⟨hf, hf'⟩, ⟨hr0, hr'⟩, ⟨h1, h1'⟩, ⟨h2, h2'⟩, kq⟩ := h
    refine ⟨_, (pss_cons (ps_asg (pv 3) (pg_tup (by rfl) (pgs_cons (pg_name (i := 4) sc_on_open.nd rfl (Or.inl rfl)) (pgs_cons (pg_name (i := 5) sc_on_open.nd rfl (Or.inl rfl)) pgs_nil))))
  (pss_cons (ps_if (pt_cmpR op_eq (pe_ix ix_tup (pv 0) pe_int (fun _ _ => rfl)) pe_str (nomark _)) (pss_cons (ps_set (i := 6) sc_on_open.nd rfl (Or.inl rfl) (pe_op op_add (pe_op op_mul (pv 4) (pv 1)) (pv 5)))
  (pss_one (ps_ret (pe_tup (pa_cons (pe_op op_mod (pv 6) (pv 2)) (pa_cons (pe_op op_fdiv (pv 6) (pv 2)) pa_nil)))))) pss_nil)
  (pss_cons (ps_if (pt_cmpR op_eq (pe_ix ix_tup (pv 0) pe_int (fun _ _ => rfl)) pe_str (nomark _)) (pss_cons (ps_set (i := 6) sc_on_open.nd rfl (Or.inl rfl) (pe_op op_add (pe_op op_mul (pv 5) (pv 2)) (pv 4)))
  (pss_one (ps_ret (pe_tup (pa_cons (pe_op op_fdiv (pv 6) (pv 1)) (pa_cons (pe_op op_mod (pv 6) (pv 1)) pa_nil)))))) pss_nil)
  (pss_cons (ps_set (i := 7) sc_on_open.nd rfl (Or.inl rfl) (pe_op op_fdiv (pe_op op_add (pv 2) pe_int) pe_int))
  (pss_cons (ps_if (pt_cmpR op_eq (pe_ix ix_tup (pv 0) pe_int (fun _ _ => rfl)) pe_str (nomark _)) (pss_one (ps_ret (pe_ifExp (pt_cmpR op_eq (pe_op op_mod (pv 4) pe_int) pe_int (nomark _)) (pe_tup (pa_cons (pe_op op_fdiv (pv 4) pe_int) (pa_cons (pv 5) pa_nil))) (pe_tup (pa_cons (pe_op op_add (pv 7) (pe_op op_fdiv (pv 4) pe_int)) (pa_cons (pv 5) pa_nil)))))) pss_nil)
  (pss_one (ps_ret (pe_ifExp (pt_cmpR op_lt (pv 4) (pv 7) (nomark _)) (pe_tup (pa_cons (pe_op op_mul pe_int (pv 4)) (pa_cons (pv 5) pa_nil))) (pe_tup (pa_cons (pe_op op_add (pe_op op_mul pe_int (pe_op op_sub (pv 4) (pv 7))) pe_int) (pa_cons (pv 5) pa_nil))))))))))), ?_⟩
    rcases hk with rfl | rfl | rfl | rfl <;> simp only [Cl.vs] at hc <;> simp only [mv] at kq
    · walk_at "go"
      refine kq _ _ (by walk_at "ex") ?_
      exact g
    · walk_at "go"
      refine kq _ _ (by walk_at "ex") ?_
      exact g
    · walk_at "go"
      refine i_dec (fun h => ?_) (fun h => ?_) <;> walk_at "go"
      · exact cvt kq (by walk_at "ex") g (by rw [if_pos (V.int.inj h)]; rfl)
      · exact cvt kq (by walk_at "ex") g (by rw [if_neg (fun z => h (by rw [z]))]; rfl)
    · walk_at "go"
      refine i_dec (fun h => ?_) (fun h => ?_) <;> walk_at "go"
      · exact cvt kq (by walk_at "ex") g (by rw [if_pos h]; rfl)
      · exact cvt kq (by walk_at "ex") g (by rw [if_neg h]; rfl)
theorem cal_on_open (T : Txt K mg w) : Cal P w K mg base CX0 1 "on_open" sp_on_open := calOf T.g_on_open T.d_on_open (fun _ F => ok_on_open T F) (fun _ _ _ _ _ _ us hl => match us, hl with | [_, _, _, _], _ => rfl)
end
end Pp
-- PpP
set_option maxRecDepth 100000
set_option maxHeartbeats 4000000
/-! The plain law of calls and places. -/
namespace Pp
open PySem L2
theorem mod_bd {a b : Int} (h : 0 < b) : 0 ≤ a % b ∧ a % b < b := ⟨Int.emod_nonneg _ (by omega), Int.emod_lt_of_pos _ h⟩
theorem dm {a b : Int} : b * (a / b) + a % b = a := Int.mul_ediv_add_emod a b
theorem div_of {a b q r : Int} (h : a = b * q + r) (h0 : 0 ≤ r) (h1 : r < b) : a / b = q ∧ a % b = r := by
  subst h
  have hb : b ≠ 0 := by omega
  constructor
  · rw [Int.add_comm, Int.add_mul_ediv_left _ _ hb, Int.ediv_eq_zero_of_lt h0 h1, Int.zero_add]
  · rw [Int.add_comm, Int.add_mul_emod_self_left, Int.emod_eq_of_lt h0 h1]
/-- a number of two digits -/
theorem num_bd {r fl files rows : Int} (h : Pl files rows (r, fl)) : 0 ≤ r * files + fl ∧ r * files + fl < rows * files := by
  obtain ⟨⟨h1, h2⟩, h3, h4⟩ := h
  simp only at h1 h2 h3 h4
  have a1 : 0 ≤ r * files := Int.mul_nonneg h1 (by omega)
  have a2 : (r + 1) * files ≤ rows * files := Int.mul_le_mul_of_nonneg_right (by omega) (by omega)
  have a3 : (r + 1) * files = r * files + files := by rw [Int.add_mul, Int.one_mul]
  omega
theorem mv_pl {c : Cl} {files rows : Int} {p : Int × Int} (b : Bd files rows) (o : c.Ok files) (h : Pl files rows p) : Pl files rows (mv c files rows p.1 p.2) := by
  obtain ⟨r, fl⟩ := p
  have nb := num_bd h
  obtain ⟨⟨hf, _⟩, hr, _⟩ := b
  obtain ⟨⟨h1, h2⟩, h3, h4⟩ := h
  simp only at h1 h2 h3 h4
  cases c with
  | all k => exact ⟨mod_bd hr, h3, h4⟩
  | up f k =>
    simp only [mv]
    split
    · exact ⟨mod_bd hr, h3, h4⟩
    · exact ⟨⟨h1, h2⟩, h3, h4⟩
  | about => exact ⟨⟨by simp only [mv]; omega, by simp only [mv]; omega⟩, by simp only [mv]; omega, by simp only [mv]; omega⟩
  | wheel f g k =>
    obtain ⟨o1, o2, o3, o4⟩ := o
    simp only [mv, onWheel]
    split
    · generalize (if fl = f then rows - 1 - r else rows + r) + k = w
      have hm := mod_bd (a := w) (b := 2 * rows) (by omega)
      by_cases e2 : w % (2 * rows) < rows
      · rw [if_pos e2]
        exact ⟨⟨by simp only; omega, by simp only; omega⟩, o1⟩
      · rw [if_neg e2]
        exact ⟨⟨by simp only; omega, by simp only; omega⟩, o2⟩
    · exact ⟨⟨h1, h2⟩, h3, h4⟩
  | swap f g =>
    obtain ⟨o1, o2, o3⟩ := o
    simp only [mv]
    split
    · refine ⟨⟨h1, h2⟩, ?_⟩
      simp only
      split
      · exact o2
      · exact o1
    · exact ⟨⟨h1, h2⟩, h3, h4⟩
  | front f g =>
    obtain ⟨o1, o2, o3⟩ := o
    simp only [mv]
    split
    · refine ⟨⟨h1, h2⟩, ?_⟩
      simp only
      split
      · exact o2
      · exact o1
    · exact ⟨⟨h1, h2⟩, h3, h4⟩
  | halve =>
    refine ⟨mod_bd hr, ?_, ?_⟩
    · exact Int.ediv_nonneg nb.1 (by omega)
    · refine Int.ediv_lt_of_lt_mul hr ?_
      rw [Int.mul_comm files rows]
      exact nb.2
  | pair =>
    have e : 0 ≤ fl * rows + r ∧ fl * rows + r < files * rows := num_bd (files := rows) (rows := files) ⟨⟨h3, h4⟩, h1, h2⟩
    refine ⟨⟨?_, ?_⟩, mod_bd hf⟩
    · exact Int.ediv_nonneg e.1 (by omega)
    · refine Int.ediv_lt_of_lt_mul hf ?_
      rw [Int.mul_comm rows files]
      exact e.2
  | others =>
    simp only [mv]
    refine ⟨?_, h3, h4⟩
    simp only
    split <;> omega
  | fill =>
    simp only [mv]
    refine ⟨?_, h3, h4⟩
    simp only
    split <;> omega
theorem mod_sub {a b n : Int} (hn : 0 < n) (h0 : 0 ≤ a) (h1 : a < n) : (((a - b) % n) - (-b)) % n = a := by
  rw [Int.sub_neg, Int.emod_add_emod, Int.sub_add_cancel, Int.emod_eq_of_lt h0 h1]
theorem mod_add {a b n : Int} (hn : 0 < n) (h0 : 0 ≤ a) (h1 : a < n) : (((a + b) % n) + (-b)) % n = a := by
  rw [Int.emod_add_emod, Int.add_neg_cancel_right, Int.emod_eq_of_lt h0 h1]
theorem isCall_ok {c : Cl} {files : Int} : isCallB files c.word c.ns = true ↔ c.Ok files := by
  cases c with
  | all k =>
    show (match manyOf "all" with | none => false | some m => callB files (isNum "all") m [k]) = true ↔ _
    rw [show manyOf "all" = some 0 by decide +kernel, show isNum "all" = true by decide +kernel]
    simp [callB, Cl.Ok, and_assoc]
  | up f k =>
    show (match manyOf "up" with | none => false | some m => callB files (isNum "up") m [f, k]) = true ↔ _
    rw [show manyOf "up" = some 1 by decide +kernel, show isNum "up" = true by decide +kernel]
    simp [callB, Cl.Ok, and_assoc]
  | swap f g =>
    show (match manyOf "swap" with | none => false | some m => callB files (isNum "swap") m [f, g]) = true ↔ _
    rw [show manyOf "swap" = some 2 by decide +kernel, show isNum "swap" = false by decide +kernel]
    simp [callB, Cl.Ok, and_assoc]
  | wheel f g k =>
    show (match manyOf "wheel" with | none => false | some m => callB files (isNum "wheel") m [f, g, k]) = true ↔ _
    rw [show manyOf "wheel" = some 2 by decide +kernel, show isNum "wheel" = true by decide +kernel]
    simp [callB, Cl.Ok, and_assoc]
  | about =>
    show (match manyOf "about" with | none => false | some m => callB files (isNum "about") m []) = true ↔ _
    rw [show manyOf "about" = some 0 by decide +kernel, show isNum "about" = false by decide +kernel]
    simp [callB, Cl.Ok, and_assoc]
  | front f g =>
    show (match manyOf "front" with | none => false | some m => callB files (isNum "front") m [f, g]) = true ↔ _
    rw [show manyOf "front" = some 2 by decide +kernel, show isNum "front" = false by decide +kernel]
    simp [callB, Cl.Ok, and_assoc]
  | halve =>
    show (match manyOf "halve" with | none => false | some m => callB files (isNum "halve") m []) = true ↔ _
    rw [show manyOf "halve" = some 0 by decide +kernel, show isNum "halve" = false by decide +kernel]
    simp [callB, Cl.Ok, and_assoc]
  | pair =>
    show (match manyOf "pair" with | none => false | some m => callB files (isNum "pair") m []) = true ↔ _
    rw [show manyOf "pair" = some 0 by decide +kernel, show isNum "pair" = false by decide +kernel]
    simp [callB, Cl.Ok, and_assoc]
  | others =>
    show (match manyOf "others" with | none => false | some m => callB files (isNum "others") m []) = true ↔ _
    rw [show manyOf "others" = some 0 by decide +kernel, show isNum "others" = false by decide +kernel]
    simp [callB, Cl.Ok, and_assoc]
  | fill =>
    show (match manyOf "fill" with | none => false | some m => callB files (isNum "fill") m []) = true ↔ _
    rw [show manyOf "fill" = some 0 by decide +kernel, show isNum "fill" = false by decide +kernel]
    simp [callB, Cl.Ok, and_assoc]
theorem turn_turn (c : Cl) : c.turn.turn = c := by
  cases c <;> simp [Cl.turn]
theorem turn_ok {c : Cl} {files : Int} (o : c.Ok files) : c.turn.Ok files := by
  cases c with
  | all k => exact fun z => o (by have : -k = 0 := z; omega)
  | up f k => exact ⟨o.1, fun z => o.2 (by have : -k = 0 := z; omega)⟩
  | wheel f g k => exact ⟨o.1, o.2.1, o.2.2.1, fun z => o.2.2.2 (by have : -k = 0 := z; omega)⟩
  | swap f g => exact o
  | front f g => exact o
  | _ => trivial
/-- a call and what it turns to -/
theorem mv_turn {c : Cl} {files rows : Int} {p : Int × Int} (b : Bd files rows) (o : c.Ok files) (h : Pl files rows p) : mv c.turn files rows (mv c files rows p.1 p.2).1 (mv c files rows p.1 p.2).2 = p := by
  obtain ⟨r, fl⟩ := p
  have nb := num_bd h
  have nb2 : 0 ≤ fl * rows + r ∧ fl * rows + r < files * rows := num_bd (files := rows) (rows := files) ⟨h.2, h.1⟩
  obtain ⟨⟨hf, _⟩, hr, _⟩ := b
  obtain ⟨⟨h1, h2⟩, h3, h4⟩ := h
  simp only at h1 h2 h3 h4
  cases c with
  | all k =>
    simp only [mv, Cl.turn]
    rw [mod_sub hr h1 h2]
  | up f k =>
    by_cases e : fl = f
    · subst e
      simp only [mv, Cl.turn, if_true]
      rw [mod_sub hr h1 h2]
    · simp only [mv, Cl.turn, if_neg e]
  | about =>
    simp only [mv, Cl.turn]
    rw [Prod.mk.injEq]
    constructor <;> omega
  | wheel f g k =>
    obtain ⟨o1, o2, o3, o4⟩ := o
    have o3' : ¬ g = f := fun z => o3 z.symm
    simp only [mv, Cl.turn, onWheel]
    by_cases e1 : fl = f
    · subst e1
      have hm := mod_bd (a := (rows - 1 - r) + k) (b := 2 * rows) (by omega)
      have hk := mod_add (a := rows - 1 - r) (b := k) (n := 2 * rows) (by omega) (by omega) (by omega)
      by_cases e2 : (rows - 1 - r + k) % (2 * rows) < rows
      · simp only [if_true, true_or, if_pos e2]
        rw [show rows - 1 - (rows - 1 - (rows - 1 - r + k) % (2 * rows)) = (rows - 1 - r + k) % (2 * rows) by omega, hk, if_pos (by omega), Prod.mk.injEq]
        exact ⟨by omega, rfl⟩
      · simp only [if_true, true_or, or_true, if_neg e2, if_neg o3']
        rw [show rows + ((rows - 1 - r + k) % (2 * rows) - rows) = (rows - 1 - r + k) % (2 * rows) by omega, hk, if_pos (by omega), Prod.mk.injEq]
        exact ⟨by omega, rfl⟩
    · by_cases e3 : fl = g
      · subst e3
        have hm := mod_bd (a := (rows + r) + k) (b := 2 * rows) (by omega)
        have hk := mod_add (a := rows + r) (b := k) (n := 2 * rows) (by omega) (by omega) (by omega)
        by_cases e2 : (rows + r + k) % (2 * rows) < rows
        · simp only [if_true, true_or, or_true, if_neg e1, if_pos e2]
          rw [show rows - 1 - (rows - 1 - (rows + r + k) % (2 * rows)) = (rows + r + k) % (2 * rows) by omega, hk, if_neg (by omega), Prod.mk.injEq]
          exact ⟨by omega, rfl⟩
        · simp only [if_true, true_or, or_true, if_neg e1, if_neg e2]
          rw [show rows + ((rows + r + k) % (2 * rows) - rows) = (rows + r + k) % (2 * rows) by omega, hk, if_neg (by omega), Prod.mk.injEq]
          exact ⟨by omega, rfl⟩
      · simp only [e1, e3, or_self, if_false]
  | swap f g =>
    obtain ⟨o1, o2, o3⟩ := o
    have o3' : ¬ g = f := fun z => o3 z.symm
    simp only [mv, Cl.turn]
    by_cases e1 : fl = f
    · subst e1
      simp [o3']
    · by_cases e3 : fl = g
      · subst e3
        simp [e1]
      · simp [e1, e3]
  | front f g =>
    obtain ⟨o1, o2, o3⟩ := o
    have o3' : ¬ g = f := fun z => o3 z.symm
    simp only [mv, Cl.turn]
    by_cases e0 : 0 < r
    · simp [e0]
    · by_cases e1 : fl = f
      · subst e1
        simp [o3', e0]
      · by_cases e3 : fl = g
        · subst e3
          simp [e1, e0]
        · simp [e1, e3]
  | halve =>
    simp only [mv, Cl.turn]
    have e : (r * files + fl) / rows * rows + (r * files + fl) % rows = r * files + fl := by
      have := dm (a := r * files + fl) (b := rows)
      rw [Int.mul_comm] at this
      exact this
    rw [e]
    obtain ⟨d1, d2⟩ := div_of (a := r * files + fl) (b := files) (q := r) (r := fl) (by rw [Int.mul_comm]) h3 h4
    rw [d1, d2]
  | pair =>
    simp only [mv, Cl.turn]
    have e : (fl * rows + r) / files * files + (fl * rows + r) % files = fl * rows + r := by
      have := dm (a := fl * rows + r) (b := files)
      rw [Int.mul_comm] at this
      exact this
    rw [e]
    obtain ⟨d1, d2⟩ := div_of (a := fl * rows + r) (b := rows) (q := fl) (r := r) (by rw [Int.mul_comm]) h1 h2
    rw [d1, d2]
  | others =>
    simp only [mv, Cl.turn]
    by_cases e : r % 2 = 0
    · rw [if_pos e, if_pos (by omega), Prod.mk.injEq]
      exact ⟨by omega, rfl⟩
    · rw [if_neg e, if_neg (by omega), Prod.mk.injEq]
      exact ⟨by omega, rfl⟩
  | fill =>
    simp only [mv, Cl.turn]
    by_cases e : r < (rows + 1) / 2
    · rw [if_pos e, if_pos (by omega), Prod.mk.injEq]
      exact ⟨by omega, rfl⟩
    · rw [if_neg e, if_neg (by omega), Prod.mk.injEq]
      exact ⟨by omega, rfl⟩
end Pp
-- PpD3
set_option maxRecDepth 100000
set_option maxHeartbeats 4000000
namespace Pp
open PySem PySem.Spec PyProof.Rows L2 Evl
section
variable {P : Program} {w : World} {K : PySem.W.Frag} {mg : Str → Option Value} {base : Heap} {H : Hp} {Q : VK} {E : XK}
abbrev s_moved_by : Stmt := top 34
abbrev N_moved_by : List Str := ["call", "files", "rows", "place", "row", "file"]
theorem sc_moved_by : FnScope N_moved_by ["call", "files", "rows", "place"] (defScope s_moved_by) := ⟨rfl, rfl, rfl, by decide +kernel, rfl, by decide +kernel, by decide +kernel⟩
def sp_moved_by : Sp := fun vs H Q _ => ∃ (aC aP : Addr) (c : Cl) (files rows r fl : Int), vs = [.ref aC, .int files, .int rows, .ref aP] ∧ H aC = some (.tup c.vs) ∧ H aP = some (.tup [.int r, .int fl]) ∧ Bd files rows ∧ Pl files rows (r, fl) ∧
  ∀ q H', Ex H H' → H' q = some (.tup (plV (mv c files rows r fl))) → Q (.ref q) H'
theorem ok_moved_by (T : Txt K mg w) {f : Addr} {fd : FuncData} (F : DefAt K "moved_by" "moved_by" s_moved_by f fd) : FnOk P w K mg base CX0 2 f fd ["call", "files", "rows", "place"] sp_moved_by := by
  refine ok0 F sc_moved_by (fun vs H Q E h => ?_) (fun cdv A outer s H vs Q E hr h => ?_)
  · walk_at "len"
  · obtain ⟨aC, aP, c, files, rows, r, fl, rfl, hc, hp, ⟨⟨hf, hf'⟩, hr0, hr'⟩, ⟨⟨h1, h1'⟩, h2, h2'⟩, kq⟩ := h
    simp only at h1 h1' h2 h2'
    have kk := kq
    refine ⟨_, (pss_cons (ps_asg (pv 3) (pg_tup (by rfl) (pgs_cons (pg_name (i := 4) sc_moved_by.nd rfl (Or.inl rfl)) (pgs_cons (pg_name (i := 5) sc_moved_by.nd rfl (Or.inl rfl)) pgs_nil))))
  (pss_cons (ps_if (pt_cmpR op_eq (pe_ix ix_tup (pv 0) pe_int (fun _ _ => rfl)) pe_str (nomark _)) (pss_one (ps_ret (pe_tup (pa_cons (pe_op op_mod (pe_op op_sub (pv 4) (pe_ix ix_tup (pv 0) pe_int (fun _ _ => rfl))) (pv 2)) (pa_cons (pv 5) pa_nil))))) pss_nil)
  (pss_cons (ps_if (pt_cmpR op_eq (pe_ix ix_tup (pv 0) pe_int (fun _ _ => rfl)) pe_str (nomark _)) (pss_one (ps_ret (pe_ifExp (pt_cmpR op_eq (pv 5) (pe_ix ix_tup (pv 0) pe_int (fun _ _ => rfl)) (nomark _)) (pe_tup (pa_cons (pe_op op_mod (pe_op op_sub (pv 4) (pe_ix ix_tup (pv 0) pe_int (fun _ _ => rfl))) (pv 2)) (pa_cons (pv 5) pa_nil))) (pv 3)))) pss_nil)
  (pss_cons (ps_if (pt_cmpR op_eq (pe_ix ix_tup (pv 0) pe_int (fun _ _ => rfl)) pe_str (nomark _)) (pss_one (ps_ret (pe_tup (pa_cons (pe_op op_sub (pe_op op_sub (pv 2) pe_int) (pv 4)) (pa_cons (pe_op op_sub (pe_op op_sub (pv 1) pe_int) (pv 5)) pa_nil))))) pss_nil)
  (pss_cons (ps_if (pt_cmpR op_eq (pe_ix ix_tup (pv 0) pe_int (fun _ _ => rfl)) pe_str (nomark _)) (pss_one (ps_ret (pe_cal (cal_on_wheel T) hr px0 (pa_cons (pv 0) (pa_cons (pv 2) (pa_cons (pv 3) pa_nil)))))) pss_nil)
  (pss_cons (ps_if (pt_cmpR op_in_seq (pe_ix ix_tup (pv 0) pe_int (fun _ _ => rfl)) (pe_tup (pa_cons pe_str (pa_cons pe_str pa_nil))) (by rfl)) (pss_cons (ps_if (PW.pt (pw_or (pt_cmpR op_notIn_seq (pv 5) (pe_slice sl_tupA (pv 0) (po_some pe_int) po_none) (by rfl)) (pw_or1 (PW.pt (pw_and (pt_cmpR op_eq (pe_ix ix_tup (pv 0) pe_int (fun _ _ => rfl)) pe_str (nomark _)) (pw_and1 (pt_cmpR op_gt (pv 4) pe_int (nomark _)))))))) (pss_one (ps_ret (pv 3))) pss_nil)
  (pss_one (ps_ret (pe_tup (pa_cons (pv 4) (pa_cons (pe_ifExp (pt_cmpR op_eq (pv 5) (pe_ix ix_tup (pv 0) pe_int (fun _ _ => rfl)) (nomark _)) (pe_ix ix_tup (pv 0) pe_int (fun _ _ => rfl)) (pe_ix ix_tup (pv 0) pe_int (fun _ _ => rfl))) pa_nil)))))) pss_nil)
  (pss_one (ps_ret (pe_cal (cal_on_open T) hr px0 (pa_cons (pv 0) (pa_cons (pv 1) (pa_cons (pv 2) (pa_cons (pv 3) pa_nil))))))))))))), ?_⟩
    cases c with
    | all k =>
      simp only [Cl.vs] at hc
      walk_at "go"
      exact kq _ _ (by walk_at "ex") (by walk_at "tx")
    | up f k =>
      simp only [Cl.vs] at hc
      simp only [mv] at kq
      walk_at "go"
      refine i_dec (fun h => ?_) (fun h => ?_) <;> walk_at "go"
      · exact cvt kq (by walk_at "ex") g (by rw [if_pos (V.int.inj h)]; rfl)
      · exact cvt kq (by walk_at "ex") (by walk_at "tx") (by rw [if_neg (fun z => h (by rw [z]))]; rfl)
    | about =>
      simp only [Cl.vs] at hc
      walk_at "go"
      exact kq _ _ (by walk_at "ex") (by walk_at "tx")
    | wheel f g k =>
      simp only [Cl.vs] at hc
      walk_at "go"
      exact ⟨aC, aP, f, g, k, rows, r, fl, rfl, by walk_at "tx", by walk_at "tx", hr0, kk⟩
    | swap f g =>
      simp only [Cl.vs] at hc
      simp only [mv] at kq
      by_cases e1 : fl = f
      · subst e1
        walk_at "go"
        exact cvt kq (by walk_at "ex") (by walk_at "tx") (by simp [plV])
      · by_cases e2 : fl = g
        · subst e2
          walk_at "go"
          exact cvt kq (by walk_at "ex") (by walk_at "tx") (by simp [plV, e1])
        · walk_at "go"
          exact cvt kq (by walk_at "ex") (by walk_at "tx") (by simp [plV, e1, e2])
    | front f g =>
      simp only [Cl.vs] at hc
      simp only [mv] at kq
      by_cases e1 : fl = f
      · subst e1
        walk_at "go"
        refine i_dec (fun h => ?_) (fun h => ?_) <;> walk_at "go"
        · exact cvt kq (by walk_at "ex") (by walk_at "tx") (by simp [plV, h])
        · exact cvt kq (by walk_at "ex") (by walk_at "tx") (by simp [plV, h])
      · by_cases e2 : fl = g
        · subst e2
          walk_at "go"
          refine i_dec (fun h => ?_) (fun h => ?_) <;> walk_at "go"
          · exact cvt kq (by walk_at "ex") (by walk_at "tx") (by simp [plV, e1, h])
          · exact cvt kq (by walk_at "ex") (by walk_at "tx") (by simp [plV, e1, h])
        · walk_at "go"
          exact cvt kq (by walk_at "ex") (by walk_at "tx") (by simp [plV, e1, e2])
    | halve =>
      simp only [Cl.vs] at hc
      walk_at "go"
      exact ⟨aC, aP, .halve, files, rows, r, fl, rfl, by walk_at "tx", by walk_at "tx", by simp, ⟨hf, by omega⟩, ⟨hr0, by omega⟩, ⟨h1, h1'⟩, ⟨h2, h2'⟩, fun q H' e' g' => kk q H' (Ex.trans (by walk_at "ex") e') g'⟩
    | pair =>
      simp only [Cl.vs] at hc
      walk_at "go"
      exact ⟨aC, aP, .pair, files, rows, r, fl, rfl, by walk_at "tx", by walk_at "tx", by simp, ⟨hf, by omega⟩, ⟨hr0, by omega⟩, ⟨h1, h1'⟩, ⟨h2, h2'⟩, fun q H' e' g' => kk q H' (Ex.trans (by walk_at "ex") e') g'⟩
    | others =>
      simp only [Cl.vs] at hc
      walk_at "go"
      exact ⟨aC, aP, .others, files, rows, r, fl, rfl, by walk_at "tx", by walk_at "tx", by simp, ⟨hf, by omega⟩, ⟨hr0, by omega⟩, ⟨h1, h1'⟩, ⟨h2, h2'⟩, fun q H' e' g' => kk q H' (Ex.trans (by walk_at "ex") e') g'⟩
    | fill =>
      simp only [Cl.vs] at hc
      walk_at "go"
      exact ⟨aC, aP, .fill, files, rows, r, fl, rfl, by walk_at "tx", by walk_at "tx", by simp, ⟨hf, by omega⟩, ⟨hr0, by omega⟩, ⟨h1, h1'⟩, ⟨h2, h2'⟩, fun q H' e' g' => kk q H' (Ex.trans (by walk_at "ex") e') g'⟩
theorem cal_moved_by (T : Txt K mg w) : Cal P w K mg base CX0 2 "moved_by" sp_moved_by := calOf T.g_moved_by T.d_moved_by (fun _ F => ok_moved_by T F) (fun _ _ _ _ _ _ us hl => match us, hl with | [_, _, _, _], _ => rfl)
theorem u_moved_by {aC aP : Addr} {c : Cl} {files rows r fl : Int} (hc : H aC = some (.tup c.vs)) (hp : H aP = some (.tup [.int r, .int fl])) (b : Bd files rows) (h : Pl files rows (r, fl)) (k : ∀ q H', Ex H H' → H' q = some (.tup (plV (mv c files rows r fl))) → Q (.ref q) H') :
    sp_moved_by [.ref aC, .int files, .int rows, .ref aP] H Q E := ⟨aC, aP, c, files, rows, r, fl, rfl, hc, hp, b, h, k⟩
end
end Pp
-- PpD4
set_option maxRecDepth 100000
set_option maxHeartbeats 4000000
namespace Pp
open PySem PySem.Spec PyProof.Rows L2 Evl
section
variable {P : Program} {w : World} {K : PySem.W.Frag} {mg : Str → Option Value} {base : Heap} {H : Hp} {Q : VK} {E : XK}
abbrev s_is_place : Stmt := top 36
abbrev N_is_place : List Str := ["files", "rows", "thing"]
theorem sc_is_place : FnScope N_is_place ["files", "rows", "thing"] (defScope s_is_place) := ⟨rfl, rfl, rfl, by decide +kernel, rfl, by decide +kernel, by decide +kernel⟩
def sp_is_place : Sp := fun vs H Q _ => ∃ (files rows r fl : Int) (aP : Addr), vs = [.int files, .int rows, .ref aP] ∧ H aP = some (.tup [.int r, .int fl]) ∧ Pl files rows (r, fl) ∧ RetV (.bl true) H Q
theorem ok_is_place (T : Txt K mg w) {f : Addr} {fd : FuncData} (F : DefAt K "is_place" "is_place" s_is_place f fd) : FnOk P w K mg base CX0 3 f fd ["files", "rows", "thing"] sp_is_place := by
  refine ok0 F sc_is_place (fun vs H Q E h => ?_) (fun cdv A outer s H vs Q E hr h => ?_)
  · walk_at "len"
  · obtain ⟨files, rows, r, fl, aP, rfl, hp, hpl, kq⟩ := h
    obtain ⟨⟨h1, h1'⟩, h2, h2'⟩ := hpl
    simp only at h1 h1' h2 h2'
    refine ⟨_, (pss_cons (ps_if (PW.pt (pw_or (pt_not (pt_val (pe_callB call_isi (by rfl) T.b_isinstance (by decide +kernel) (pa_cons (pv 2) (pa_cons (pe_bltn (v := .ty "tuple") (by rfl) T.b_tuple (by decide +kernel) rfl) pa_nil))))) (pw_or1 (pt_cmpR op_ne (pe_callB cr_len (by rfl) T.b_len PySem.boot_len (pa_cons (pv 2) pa_nil)) pe_int (nomark _))))) (pss_one (ps_ret pe_bl)) pss_nil)
  (pss_one (ps_ret (pe_and (pe_cal (cal_is_index T) hr px0 (pa_cons (pe_ix ix_tup (pv 2) pe_int (fun _ _ => rfl)) (pa_cons (pv 1) pa_nil))) (pe_one (pe_cal (cal_is_index T) hr px0 (pa_cons (pe_ix ix_tup (pv 2) pe_int (fun _ _ => rfl)) (pa_cons (pv 0) pa_nil)))))))), ?_⟩
    walk_at "go"
    exact cvb (kq _ (by walk_at "ex")) (by simp [h2, h2'])
theorem cal_is_place (T : Txt K mg w) : Cal P w K mg base CX0 3 "is_place" sp_is_place := calOf T.g_is_place T.d_is_place (fun _ F => ok_is_place T F) (fun _ _ _ _ _ _ us hl => match us, hl with | [_, _, _], _ => rfl)
theorem u_is_place {files rows r fl : Int} {aP : Addr} (hp : H aP = some (.tup [.int r, .int fl])) (h : Pl files rows (r, fl)) (k : RetV (.bl true) H Q) : sp_is_place [.int files, .int rows, .ref aP] H Q E := ⟨files, rows, r, fl, aP, rfl, hp, h, k⟩
abbrev s_number_of : Stmt := top 37
abbrev N_number_of : List Str := ["files", "place"]
theorem sc_number_of : FnScope N_number_of ["files", "place"] (defScope s_number_of) := ⟨rfl, rfl, rfl, by decide +kernel, rfl, by decide +kernel, by decide +kernel⟩
def sp_number_of : Sp := fun vs H Q _ => ∃ (files r fl : Int) (aP : Addr), vs = [.int files, .ref aP] ∧ H aP = some (.tup [.int r, .int fl]) ∧ (0 ≤ r ∧ r < 1000) ∧ RetV (.int (r * files + fl)) H Q
theorem ok_number_of (T : Txt K mg w) {f : Addr} {fd : FuncData} (F : DefAt K "number_of" "number_of" s_number_of f fd) : FnOk P w K mg base CX0 1 f fd ["files", "place"] sp_number_of := by
  refine ok0 F sc_number_of (fun vs H Q E h => ?_) (fun cdv A outer s H vs Q E hr h => ?_)
  · walk_at "len"
  · obtain ⟨files, r, fl, aP, rfl, hp, hpl, kq⟩ := h
    refine ⟨_, (pss_one (ps_ret (pe_op op_add (pe_op op_mul (pe_ix ix_tup (pv 1) pe_int (fun _ _ => rfl)) (pv 0)) (pe_ix ix_tup (pv 1) pe_int (fun _ _ => rfl))))), ?_⟩
    walk_at "go"
    exact kq _ (by walk_at "ex")
theorem cal_number_of (T : Txt K mg w) : Cal P w K mg base CX0 1 "number_of" sp_number_of := calOf T.g_number_of T.d_number_of (fun _ F => ok_number_of T F) (fun _ _ _ _ _ _ us hl => match us, hl with | [_, _], _ => rfl)
theorem u_number_of {files r fl : Int} {aP : Addr} (hp : H aP = some (.tup [.int r, .int fl])) (h : 0 ≤ r ∧ r < 1000) (k : RetV (.int (r * files + fl)) H Q) : sp_number_of [.int files, .ref aP] H Q E := ⟨files, r, fl, aP, rfl, hp, h, k⟩
abbrev s_place_of : Stmt := top 38
abbrev N_place_of : List Str := ["files", "number"]
theorem sc_place_of : FnScope N_place_of ["files", "number"] (defScope s_place_of) := ⟨rfl, rfl, rfl, by decide +kernel, rfl, by decide +kernel, by decide +kernel⟩
def sp_place_of : Sp := fun vs H Q _ => ∃ (files n : Int), vs = [.int files, .int n] ∧ (0 < files ∧ files < 10) ∧ ∀ q H', Ex H H' → H' q = some (.tup [.int (n / files), .int (n % files)]) → Q (.ref q) H'
theorem ok_place_of (T : Txt K mg w) {f : Addr} {fd : FuncData} (F : DefAt K "place_of" "place_of" s_place_of f fd) : FnOk P w K mg base CX0 1 f fd ["files", "number"] sp_place_of := by
  refine ok0 F sc_place_of (fun vs H Q E h => ?_) (fun cdv A outer s H vs Q E hr h => ?_)
  · walk_at "len"
  · obtain ⟨files, n, rfl, ⟨hf, hf'⟩, kq⟩ := h
    refine ⟨_, (pss_one (ps_ret (pe_tup (pa_cons (pe_op op_fdiv (pv 1) (pv 0)) (pa_cons (pe_op op_mod (pv 1) (pv 0)) pa_nil))))), ?_⟩
    walk_at "go"
    exact kq _ _ (by walk_at "ex") (by walk_at "tx")
theorem cal_place_of (T : Txt K mg w) : Cal P w K mg base CX0 1 "place_of" sp_place_of := calOf T.g_place_of T.d_place_of (fun _ F => ok_place_of T F) (fun _ _ _ _ _ _ us hl => match us, hl with | [_, _], _ => rfl)
theorem cal_place_of_moves (T : Txt K mg w) : Cal P w K mg base CX0 1 "place_of_moves" sp_place_of := calOf T.g_place_of_moves T.d_place_of (fun _ F => ok_place_of T F) (fun _ _ _ _ _ _ us hl => match us, hl with | [_, _], _ => rfl)
theorem u_place_of {files n : Int} (h : 0 < files ∧ files < 10) (k : ∀ q H', Ex H H' → H' q = some (.tup [.int (n / files), .int (n % files)]) → Q (.ref q) H') : sp_place_of [.int files, .int n] H Q E := ⟨files, n, rfl, h, k⟩
/-! ### scripts -/
abbrev s_Script___iter__ : Stmt := inClass (top 43) 3
abbrev N_Script___iter__ : List Str := ["self"]
theorem sc_Script___iter__ : FnScope N_Script___iter__ ["self"] (defScope s_Script___iter__) := ⟨rfl, rfl, rfl, by decide +kernel, rfl, by decide +kernel, by decide +kernel⟩
theorem own_Script (T : Txt K mg w) : Own P w K mg base 1 (He.ga K "Script") "steps" :=
  ownOf T.c_Script T.n_Script_steps T.a_Script___iter__ T.d_Script___iter__ sc_Script___iter__ (fun _ _ _ _ _ _ us hl => match us, hl with | [_], _ => rfl)
    fun cdv A outer s H => pss_one (ps_ret (pe_callB cr_iterY (by rfl) T.b_iter (by decide +kernel) (pa_cons (pe_fld (pv 0) rfl) pa_nil)))
abbrev s_Script_files : Stmt := inClass (top 43) 4
abbrev N_Script_files : List Str := ["self"]
theorem sc_Script_files : FnScope N_Script_files ["self"] (defScope s_Script_files) := ⟨rfl, rfl, rfl, by decide +kernel, rfl, by decide +kernel, by decide +kernel⟩
abbrev sp_Script_files (K : PySem.W.Frag) : Sp := getSp (He.ga K "Script") "width"
theorem ok_Script_files (T : Txt K mg w) {f : Addr} {fd : FuncData} (F : DefAt K "files" "Script.files" s_Script_files f fd) : FnOk P w K mg base CX0 1 f fd ["self"] (sp_Script_files K) := by
  refine ok0 F sc_Script_files (fun vs H Q E h => ?_) (fun cdv A outer s H vs Q E hr h => ?_)
  · walk_at "len"
  · obtain ⟨a, dx, fs, v, rfl, ha, hl, kq⟩ := h
    refine ⟨_, (pss_one (ps_ret (pe_fld (pv 0) (by rfl)))), ?_⟩
    walk_at "go"
    exact ⟨a, _, dx, fs, v, rfl, ha, T.c_Script, T.n_Script_width, hl, kq⟩
theorem prp_Script_files (T : Txt K mg w) : Prp P w K mg base 1 (He.ga K "Script") "files" (getSp (He.ga K "Script") "width") := prpOf T.c_Script T.p_Script_files (fun _ _ F => ok_Script_files T F) (fun _ _ _ _ _ _ us hl => match us, hl with | [_], _ => rfl)
theorem u_Script_files {a dx : Addr} {n st : V} (h : H a = some (.ins (He.ga K "Script") dx [("width", n), ("steps", st)])) (k : Q n H) : getSp (He.ga K "Script") "width" [.ref a] H Q E := ⟨a, dx, _, n, rfl, h, rfl, k⟩
end
end Pp
-- PpD5
set_option maxRecDepth 100000
set_option maxHeartbeats 4000000
namespace Pp
open PySem PySem.Spec PyProof.Rows L2 Evl
section
variable {P : Program} {w : World} {K : PySem.W.Frag} {mg : Str → Option Value} {base : Heap} {H : Hp} {Q : VK} {E : XK}
theorem mvs_pl {files rows : Int} (b : Bd files rows) : ∀ {cs : List Cl} {p : Int × Int}, (∀ c ∈ cs, c.Ok files) → Pl files rows p → Pl files rows (mvs cs files rows p)
  | [], _, _, h => h
  | c :: cs, p, o, h => mvs_pl b (cs := cs) (p := mv c files rows p.1 p.2) (fun d hd => o d (List.mem_cons_of_mem _ hd)) (mv_pl b (o c (List.Mem.head _)) h)
theorem mvs_snoc {files rows : Int} {cs : List Cl} {c : Cl} {p : Int × Int} : mvs (cs ++ [c]) files rows p = mv c files rows (mvs cs files rows p).1 (mvs cs files rows p).2 := by
  unfold mvs
  rw [List.foldl_append]
  rfl
abbrev s_passed : Stmt := top 40
abbrev N_passed : List Str := ["script", "rows", "place", "found", "call"]
theorem sc_passed : FnScope N_passed ["script", "rows", "place"] (defScope s_passed) := ⟨rfl, rfl, rfl, by decide +kernel, rfl, by decide +kernel, by decide +kernel⟩
def sp_passed (K : PySem.W.Frag) : Sp := fun vs H Q _ => ∃ (aS aP : Addr) (files rows r fl : Int) (cs : List Cl), vs = [.ref aS, .int rows, .ref aP] ∧ ScrAt K H aS files cs ∧ H aP = some (.tup [.int r, .int fl]) ∧ Bd files rows ∧ Pl files rows (r, fl) ∧ (∀ c ∈ cs, c.Ok files) ∧ cs.length < 5000 ∧
  ∀ l H' (ps : List V) q, Ex H H' → H' l = some (.lst (ps ++ [.ref q])) → H' q = some (.tup (plV (mvs cs files rows (r, fl)))) → Q (.ref l) H'
theorem ok_passed (T : Txt K mg w) {f : Addr} {fd : FuncData} (F : DefAt K "passed" "passed" s_passed f fd) : FnOk P w K mg base CX0 4 f fd ["script", "rows", "place"] (sp_passed K) := by
  refine ok0 F sc_passed (fun vs H Q E h => ?_) (fun cdv A outer s H vs Q E hr h => ?_)
  · walk_at "len"
  · obtain ⟨aS, aP, files, rows, r, fl, cs, rfl, hs, hp, hb, hpl, hok, hlen, kq⟩ := h
    obtain ⟨dx, st, as, hs1, hs2, hs3⟩ := hs
    refine ⟨_, (pss_cons (ps_if (pt_not (pt_val (pe_cal (cal_is_place T) hr px0 (pa_cons (pe_prp (pv 0) (prp_Script_files T) hr) (pa_cons (pv 1) (pa_cons (pv 2) pa_nil)))))) (pss_one ps_never) pss_nil)
  (pss_cons (ps_set (i := 3) sc_passed.nd rfl (Or.inl rfl) (pe_lst (pa_cons (pv 2) pa_nil)))
  (pss_cons (ps_for PassesOwn.never rfl (pi_own (own_Script T) hr (pv 0)) (pg_name (i := 4) sc_passed.nd rfl (Or.inl rfl))
  (pss_one (ps_expr (pe_bm PySem.F.plainAttrs_list PySem.F.slot_list_append PySem.F.type_list_append mt_append (pv 3) (pa_cons (pe_cal (cal_moved_by T) hr px0 (pa_cons (pv 4) (pa_cons (pe_prp (pv 0) (prp_Script_files T) hr) (pa_cons (pv 1) (pa_cons (pe_ix ix_list (pv 3) (pe_un un_neg pe_int) (fun _ _ => rfl)) pa_nil))))) pa_nil)))))
  (pss_one (ps_ret (pv 3)))))), ?_⟩
    walk_at "go"
    rename_i H1 e1
    have hpn : H p = none := fresh_back e1 hp
    refine fr_T (xs := as.map V.ref) (fun i σ H' => (∃ o, σ = [some (.ref aS), some (.int rows), some (.ref aP), some (.ref p), o]) ∧ Ex H H' ∧ ∃ ps q, H' p = some (.lst (ps ++ [.ref q])) ∧ ps.length ≤ i ∧ H' q = some (.tup (plV (mvs (cs.take i) files rows (r, fl))))) ?_ ?_ ?_ ?_
    · exact ⟨⟨_, rfl⟩, by walk_at "ex", [], aP, g, Nat.zero_le _, by walk_at "tx"⟩
    · rintro i σ H' hi ⟨_, e', _⟩
      exact e' _ _ hs2
    · rintro i x σ H' hx ⟨⟨o, rfl⟩, e', ps, q, h1, h2, h3⟩
      obtain ⟨pc, c, rfl, hi, hc1, hc2⟩ := hs3.get hx
      have hpc := e' _ _ hc2
      have hs1' := e' _ _ hs1
      have hix : atI (ps ++ [V.ref q]) (-1) = some (.ref q) := atI_last (by simp)
      have hpl' : Pl files rows (mvs (cs.take i) files rows (r, fl)) := mvs_pl hb (fun d hd => hok d (List.mem_of_mem_take hd)) hpl
      have hil : i < cs.length := (List.getElem?_eq_some_iff.mp hc1).1
      walk_at "go"
      refine u_moved_by hpc h3 hb hpl' fun q2 H3 e3 g3 => ?_
      walk_at "go"
      refine i_app (e3 _ _ h1) (by simp; omega) ?_
      refine ⟨⟨_, rfl⟩, Ex.mut (e'.trans e3) hpn, ps ++ [.ref q], q2, upd_same, by simp; omega, ?_⟩
      rw [upd_ne (ne_of g3 (e3 _ _ h1) (fun z => nomatch z)), g3, List.take_succ, hc1]
      show _ = some (HO.tup (plV (mvs (cs.take i ++ [c]) files rows (r, fl))))
      rw [mvs_snoc]
    · rintro σ H' ⟨⟨o, rfl⟩, e', ps, q, h1, _, h3⟩
      walk_at "go"
      refine kq _ _ ps q e' h1 ?_
      rw [h3, List.length_map, hs3.len, List.take_length]
theorem cal_passed (T : Txt K mg w) : Cal P w K mg base CX0 4 "passed" (sp_passed K) := calOf T.g_passed T.d_passed (fun _ F => ok_passed T F) (fun _ _ _ _ _ _ us hl => match us, hl with | [_, _, _], _ => rfl)
theorem u_passed {aS aP : Addr} {files rows r fl : Int} {cs : List Cl} (hs : ScrAt K H aS files cs) (hp : H aP = some (.tup [.int r, .int fl])) (hb : Bd files rows) (hpl : Pl files rows (r, fl)) (hok : ∀ c ∈ cs, c.Ok files) (hl : cs.length < 5000)
    (k : ∀ l H' (ps : List V) q, Ex H H' → H' l = some (.lst (ps ++ [.ref q])) → H' q = some (.tup (plV (mvs cs files rows (r, fl)))) → Q (.ref l) H') : sp_passed K [.ref aS, .int rows, .ref aP] H Q E := ⟨aS, aP, files, rows, r, fl, cs, rfl, hs, hp, hb, hpl, hok, hl, k⟩
abbrev s_moved : Stmt := top 41
abbrev N_moved : List Str := ["script", "rows", "place"]
theorem sc_moved : FnScope N_moved ["script", "rows", "place"] (defScope s_moved) := ⟨rfl, rfl, rfl, by decide +kernel, rfl, by decide +kernel, by decide +kernel⟩
def sp_moved (K : PySem.W.Frag) : Sp := fun vs H Q _ => ∃ (aS aP : Addr) (files rows r fl : Int) (cs : List Cl), vs = [.ref aS, .int rows, .ref aP] ∧ ScrAt K H aS files cs ∧ H aP = some (.tup [.int r, .int fl]) ∧ Bd files rows ∧ Pl files rows (r, fl) ∧ (∀ c ∈ cs, c.Ok files) ∧ cs.length < 5000 ∧
  ∀ q H', Ex H H' → H' q = some (.tup (plV (mvs cs files rows (r, fl)))) → Q (.ref q) H'
theorem ok_moved (T : Txt K mg w) {f : Addr} {fd : FuncData} (F : DefAt K "moved" "moved" s_moved f fd) : FnOk P w K mg base CX0 5 f fd ["script", "rows", "place"] (sp_moved K) := by
  refine ok0 F sc_moved (fun vs H Q E h => ?_) (fun cdv A outer s H vs Q E hr h => ?_)
  · walk_at "len"
  · obtain ⟨aS, aP, files, rows, r, fl, cs, rfl, hs, hp, hb, hpl, hok, hlen, kq⟩ := h
    refine ⟨_, (pss_one (ps_ret (pe_ix ix_list (pe_cal (cal_passed T) hr px0 (pa_cons (pv 0) (pa_cons (pv 1) (pa_cons (pv 2) pa_nil)))) (pe_un un_neg pe_int) (fun _ _ => rfl)))), ?_⟩
    walk_at "go"
    refine u_passed hs hp hb hpl hok hlen fun l H2 ps q e g1 g2 => ?_
    have hix : atI (ps ++ [V.ref q]) (-1) = some (.ref q) := atI_last (by simp)
    walk_at "go"
    exact kq _ _ e g2
theorem cal_moved (T : Txt K mg w) : Cal P w K mg base CX0 5 "moved" (sp_moved K) := calOf T.g_moved T.d_moved (fun _ F => ok_moved T F) (fun _ _ _ _ _ _ us hl => match us, hl with | [_, _, _], _ => rfl)
theorem u_moved {aS aP : Addr} {files rows r fl : Int} {cs : List Cl} (hs : ScrAt K H aS files cs) (hp : H aP = some (.tup [.int r, .int fl])) (hb : Bd files rows) (hpl : Pl files rows (r, fl)) (hok : ∀ c ∈ cs, c.Ok files) (hl : cs.length < 5000)
    (k : ∀ q H', Ex H H' → H' q = some (.tup (plV (mvs cs files rows (r, fl)))) → Q (.ref q) H') : sp_moved K [.ref aS, .int rows, .ref aP] H Q E := ⟨aS, aP, files, rows, r, fl, cs, rfl, hs, hp, hb, hpl, hok, hl, k⟩
end
end Pp
-- PpD6
set_option maxRecDepth 100000
set_option maxHeartbeats 4000000
namespace Pp
open PySem PySem.Spec PyProof.Rows L2 Evl
section
variable {P : Program} {w : World} {K : PySem.W.Frag} {mg : Str → Option Value} {base : Heap} {H : Hp} {Q : VK} {E : XK}
abbrev s_Script___init__ : Stmt := inClass (top 43) 0
abbrev N_Script___init__ : List Str := ["self", "files", "calls", "call"]
theorem sc_Script___init__ : FnScope N_Script___init__ ["self", "files", "calls"] (defScope s_Script___init__) := ⟨rfl, rfl, rfl, by decide +kernel, rfl, by decide +kernel, by decide +kernel⟩
def sp_Script___init__ (K : PySem.W.Frag) : Sp := fun vs H Q _ => ∃ (a aL dx : Addr) (files : Int) (as : List Addr) (cs : List Cl), vs = [.ref a, .int files, .ref aL] ∧ H a = some (.ins (He.ga K "Script") dx []) ∧ (files = 2 ∨ files = 3) ∧ H aL = some (.lst (as.map V.ref)) ∧ CallsAt H as cs ∧ (∀ c ∈ cs, c.Ok files) ∧ cs.length < 5000 ∧
  ∀ st H', Ext [a] H H' → H' a = some (.ins (He.ga K "Script") dx [("width", .int files), ("steps", .ref st)]) → H' st = some (.tup (as.map V.ref)) → Q .non H'
theorem ok_Script___init__ (T : Txt K mg w) {f : Addr} {fd : FuncData} (F : DefAt K "__init__" "Script.__init__" s_Script___init__ f fd) : FnOk P w K mg base CX0 4 f fd ["self", "files", "calls"] (sp_Script___init__ K) := by
  refine ok0 F sc_Script___init__ (fun vs H Q E h => ?_) (fun cdv A outer s H vs Q E hr h => ?_)
  · walk_at "len"
  · obtain ⟨a, aL, dx, files, as, cs, rfl, ha, hf, hL, hcs, hok, hlen, kq⟩ := h
    refine ⟨_, (pss_cons (ps_if (pt_not (pt_val (pe_cal (cal_is_files T) hr px0 (pa_cons (pv 1) pa_nil)))) (pss_one ps_never) pss_nil)
  (pss_cons (ps_if (PW.pt (pw_or (pt_not (pt_val (pe_callB call_isiT (by rfl) T.b_isinstance (by decide +kernel) (pa_cons (pv 2) (pa_cons (pe_tup (pa_cons (pe_bltn (v := .ty "tuple") (by rfl) T.b_tuple (by decide +kernel) rfl) (pa_cons (pe_bltn (v := .ty "list") (by rfl) T.b_list (by decide +kernel) rfl) pa_nil))) pa_nil))))) (pw_or1 (pt_not (pt_val (pe_callB (cr_all rfl) (by rfl) T.b_all (by decide +kernel) (pa_cons (pe_lc (own := [("call", 3)]) (g := gName 3) (tt := tYes) rfl sc_Script___init__.nd (pi_list (pv 2)) (blkOk_by (own := [("call", 3)]) (N := N_Script___init__) (sc := defScope s_Script___init__) (by decide +kernel)) (fun _ _ _ _ _ => pg_name (i := 3) sc_Script___init__.nd rfl (Or.inl rfl)) (fun _ _ _ _ _ => pts_nil) (fun _ _ _ _ _ => (pe_cal (cal_is_call T) hr px0 (pa_cons (pv 1) (pa_cons (pv 3) pa_nil))))) pa_nil))))))) (pss_one ps_never) pss_nil)
  (pss_cons (ps_fld (pv 0) (pv 1) rfl)
  (pss_one (ps_fld (pv 0) (pe_callTy cr_tuple (by rfl) T.b_tuple (by decide +kernel) (pa_cons (pv 2) pa_nil)) rfl))))), ?_⟩
    walk_at "go"
    refine i_isiTL (by walk_at "lk") g ?_
    walk_at "go"
    refine lc_allL (xs := as.map V.ref) (by walk_at "lk") (fun _ => V.bl true) (by simp; have := hcs.len; omega) (fun _ => rfl) (fun i x H1 e1 hx Q1 q1 => ?_) (fun l H1 hl e1 g1 => ?_)
    · obtain ⟨pc, c, rfl, hi, hc1, hc2⟩ := hcs.get hx
      walk_at "go"
      refine u_is_callC (c := c) (by walk_at "tx") fun H3 e3 => ?_
      exact cvb (q1 _ e3) (isCall_ok.mpr (hok c (List.mem_of_getElem? hc1))).symm
    · have g2 : H1 l = some (.lst ((as.map fun _ => true).map V.bl)) := by rw [g1, List.map_map, List.map_map]; rfl
      walk_at "go"
      refine ⟨_, _, _, _, rfl, by walk_at "lk", T.c_Script, T.n_Script_width, by decide, ?_⟩
      generalize hU : upd _ _ _ = H3
      have ha1 : H1 a = some (.ins (He.ga K "Script") dx []) := by walk_at "lk"
      have u1 : Ext [a] H1 H3 := put_e ha1 (by intro _ z; cases z) (List.Mem.head _) hU
      have u2 : H3 a = some (.ins (He.ga K "Script") dx [("width", .int files)]) := al_g hU
      have hL1 : H1 aL = some (.lst (as.map V.ref)) := by walk_at "lk"
      have hL3 : H3 aL = some (.lst (as.map V.ref)) := put_o hU hL1 (ne_of hL1 ha1 (by intro z; cases z))
      have x1 : Ext [a] H H3 := Ext.xr (by walk_at "ex") u1
      walk_at "go"
      refine ⟨_, _, _, _, rfl, by walk_at "lk", T.c_Script, T.n_Script_steps, by simp, ?_⟩
      generalize hV : upd _ _ _ = H5
      have ha2 : H2 a = some (.ins (He.ga K "Script") dx [("width", .int files)]) := by walk_at "lk"
      have v1 : Ext [a] H2 H5 := put_e ha2 (by intro _ z; cases z) (List.Mem.head _) hV
      walk_at "go"
      exact kq p H5 ((x1.xl e).trans v1) (al_g hV) (v1.tup _ _ g)
theorem mak_Script (T : Txt K mg w) : Mak P w K mg base CX0 4 "Script" (He.ga K "Script") (sp_Script___init__ K) := makOf T.g_Script T.mk_Script T.d_Script___init__ (fun _ F => ok_Script___init__ T F) (fun _ _ _ _ _ _ us hl => match us, hl with | [_, _, _], _ => rfl)
theorem bd_mul {files rows : Int} (h : Bd files rows) : 0 < rows * files ∧ rows * files < 10000 := by
  obtain ⟨⟨h1, h2⟩, h3, h4⟩ := h
  refine ⟨Int.mul_pos h3 h1, ?_⟩
  have := Int.mul_le_mul (show rows ≤ 999 by omega) (show files ≤ 9 by omega) (by omega) (by omega)
  omega
theorem i_rg1 {n : Int} {R : It → Hp → Prop} (h1 : -(2 ^ 62) ≤ n) (h2 : n < 2 ^ 62) (k : R (Itr 0 n.toNat) H) : ∃ j : Int, [V.int n] = [.int j] ∧ -(2 ^ 62) ≤ j ∧ j < 2 ^ 62 ∧ R (Itr 0 j.toNat) H := ⟨n, rfl, h1, h2, k⟩
abbrev s_moves_of : Stmt := top 46
abbrev N_moves_of : List Str := ["script", "rows", "found", "number"]
theorem sc_moves_of : FnScope N_moves_of ["script", "rows"] (defScope s_moves_of) := ⟨rfl, rfl, rfl, by decide +kernel, rfl, by decide +kernel, by decide +kernel⟩
/-- where each number goes -/
def movesOf (files rows : Int) (cs : List Cl) (n : Nat) : Int := (mvs cs files rows ((n : Int) / files, (n : Int) % files)).1 * files + (mvs cs files rows ((n : Int) / files, (n : Int) % files)).2
def sp_moves_of (K : PySem.W.Frag) : Sp := fun vs H Q _ => ∃ (aS : Addr) (files rows : Int) (cs : List Cl), vs = [.ref aS, .int rows] ∧ ScrAt K H aS files cs ∧ Bd files rows ∧ (∀ c ∈ cs, c.Ok files) ∧ cs.length < 5000 ∧
  ∀ l H', Ex H H' → H l = none → H' l = some (.lst (((List.range (rows * files).toNat).map (movesOf files rows cs)).map V.int)) → Q (.ref l) H'
theorem ok_moves_of (T : Txt K mg w) {f : Addr} {fd : FuncData} (F : DefAt K "moves_of" "moves_of" s_moves_of f fd) : FnOk P w K mg base CX0 6 f fd ["script", "rows"] (sp_moves_of K) := by
  refine ok0 F sc_moves_of (fun vs H Q E h => ?_) (fun cdv A outer s H vs Q E hr h => ?_)
  · walk_at "len"
  · obtain ⟨aS, files, rows, cs, rfl, hs, hb, hok, hlen, kq⟩ := h
    have hs0 := hs
    obtain ⟨dx, st, as, hs1, hs2, hs3⟩ := hs
    have hb' := hb
    have hm := bd_mul hb
    obtain ⟨⟨hf, hf'⟩, hr0, hr'⟩ := hb'
    refine ⟨_, (pss_cons (ps_set (i := 2) sc_moves_of.nd rfl (Or.inl rfl) (pe_lst pa_nil))
  (pss_cons (ps_for PassesOwn.never rfl (pi_range1 rfl T.b_range (pa_cons (pe_op op_mul (pv 1) (pe_prp (pv 0) (prp_Script_files T) hr)) pa_nil)) (pg_name (i := 3) sc_moves_of.nd rfl (Or.inl rfl))
  (pss_one (ps_expr (pe_bm PySem.F.plainAttrs_list PySem.F.slot_list_append PySem.F.type_list_append mt_append (pv 2) (pa_cons (pe_cal (cal_number_of T) hr px0 (pa_cons (pe_prp (pv 0) (prp_Script_files T) hr) (pa_cons (pe_cal (cal_moved T) hr px0 (pa_cons (pv 0) (pa_cons (pv 1) (pa_cons (pe_cal (cal_place_of_moves T) hr px0 (pa_cons (pe_prp (pv 0) (prp_Script_files T) hr) (pa_cons (pv 3) pa_nil))) pa_nil)))) pa_nil))) pa_nil)))))
  (pss_one (ps_ret (pv 2))))), ?_⟩
    walk_at "go"
    refine i_rg1 (by omega) (by omega) ?_
    refine fr_R (fun i σ H' => (∃ o, σ = [some (.ref aS), some (.int rows), some (.ref p), o]) ∧ Ex H H' ∧ H' p = some (.lst (((List.range i).map (movesOf files rows cs)).map V.int))) ?_ ?_ ?_
    · exact ⟨⟨_, rfl⟩, by walk_at "ex", g⟩
    · rintro i σ H' hi ⟨⟨o, rfl⟩, e', h1⟩
      have hs1' := e' _ _ hs1
      have hn : (i : Int) < rows * files := by omega
      have hpl : Pl files rows ((i : Int) / files, (i : Int) % files) := ⟨⟨Int.ediv_nonneg (by omega) (by omega), Int.ediv_lt_of_lt_mul hf hn⟩, mod_bd hf⟩
      walk_at "go"
      refine u_place_of ⟨hf, hf'⟩ fun q3 H3 e3 g3 => ?_
      walk_at "go"
      refine u_moved ((hs0.ex e').ex e3) g3 hb hpl hok hlen fun q4 H4 e4 g4 => ?_
      have hpl' := mvs_pl hb hok hpl
      walk_at "go"
      refine u_number_of g4 ⟨hpl'.1.1, by have := hpl'.1.2; omega⟩ fun H5 e5 => ?_
      walk_at "go"
      refine i_app (((e3.trans e4).trans e5) _ _ h1) (by simp; omega) ?_
      refine ⟨⟨_, rfl⟩, Ex.mut (((e'.trans e3).trans e4).trans e5) hp, ?_⟩
      rw [upd_same, List.range_succ, List.map_append, List.map_append]
      rfl
    · rintro σ H' ⟨⟨o, rfl⟩, e', h1⟩
      walk_at "go"
      exact kq _ _ e' hp h1
theorem cal_moves_of (T : Txt K mg w) : Cal P w K mg base CX0 6 "moves_of" (sp_moves_of K) := calOf T.g_moves_of T.d_moves_of (fun _ F => ok_moves_of T F) (fun _ _ _ _ _ _ us hl => match us, hl with | [_, _], _ => rfl)
theorem u_moves_of {aS : Addr} {files rows : Int} {cs : List Cl} (hs : ScrAt K H aS files cs) (hb : Bd files rows) (hok : ∀ c ∈ cs, c.Ok files) (hl : cs.length < 5000)
    (k : ∀ l H', Ex H H' → H l = none → H' l = some (.lst (((List.range (rows * files).toNat).map (movesOf files rows cs)).map V.int)) → Q (.ref l) H') : sp_moves_of K [.ref aS, .int rows] H Q E := ⟨aS, files, rows, cs, rfl, hs, hb, hok, hl, k⟩
end
end Pp
-- PpH
set_option maxRecDepth 100000
set_option maxHeartbeats 4000000
/-! Lines: what stands in the heap; steps of what is shown. -/
namespace Pp
open PySem PySem.Spec PyProof.Rows L2 Evl
/-- places change by moves: the one at i goes to ms[i] -/
def fol (ms st : List Int) (k : Nat) : List Int := (List.range k).foldl (fun acc i => acc.set (ms.getD i 0).toNat (st.getD i 0)) (List.replicate ms.length 0)
def followL (ms st : List Int) : List Int := fol ms st ms.length
theorem fol_succ {ms st : List Int} {k : Nat} : fol ms st (k + 1) = (fol ms st k).set (ms.getD k 0).toNat (st.getD k 0) := by
  unfold fol
  rw [List.range_succ, List.foldl_append]
  rfl
theorem fol_len {ms st : List Int} : ∀ {k : Nat}, (fol ms st k).length = ms.length
  | 0 => by simp [fol]
  | k + 1 => by rw [fol_succ, List.length_set, fol_len]
/-- the pupils 0 .. n - 1 -/
def home (n : Nat) : List Int := (List.range n).map fun (i : Nat) => (i : Int)
theorem home_rg {n : Int} : rgV 0 n = (home n.toNat).map V.int := by
  unfold rgV home
  rw [List.map_map, Int.sub_zero]
  refine List.map_congr_left fun i _ => ?_
  show V.int (0 + (i : Int)) = V.int (i : Int)
  rw [Int.zero_add]
def movesL (files rows : Int) (cs : List Cl) : List Int := (List.range (rows * files).toNat).map (movesOf files rows cs)
def stepL (files rows : Int) (c : Cl) (st : List Int) : List Int := followL (movesL files rows [c]) st
/-- the line at t, its list at ls -/
structure LineAt (K : PySem.W.Frag) (H : Hp) (t ls : Addr) (files rows : Int) (st : List Int) : Prop where
  ob : ∃ dt, H t = some (.ins (He.ga K "Line") dt [("width", .int files), ("deep", .int rows), ("standing", .ref ls)])
  l : H ls = some (.lst (st.map V.int))
section
variable {K : PySem.W.Frag} {H H' : Hp} {t ls : Addr} {files rows : Int} {st : List Int}
theorem LineAt.ex (h : LineAt K H t ls files rows st) (e : Ex H H') : LineAt K H' t ls files rows st := by
  obtain ⟨⟨dt, h1⟩, h2⟩ := h
  exact ⟨⟨dt, e _ _ h1⟩, e _ _ h2⟩
theorem LineAt.ext {G : List Addr} (h : LineAt K H t ls files rows st) (e : Ext G H H') (n1 : t ∉ G) (n2 : ls ∉ G) : LineAt K H' t ls files rows st := by
  obtain ⟨⟨dt, h1⟩, h2⟩ := h
  exact ⟨⟨dt, e.keep _ _ h1 n1⟩, e.keep _ _ h2 n2⟩
end
section
variable {K : PySem.W.Frag} {H : Hp} {Q : VK} {E : XK} {D a dx : Addr} {f : Str} {fs : List (Str × V)} {v : V}
theorem u_getp (h : H a = some (.ins D dx fs)) (l : fs.lookup f = some v) (k : Q v H) : getSp D f [.ref a] H Q E := ⟨a, dx, fs, v, rfl, h, l, k⟩
theorem mk_e {H H2 : Hp} {x dx D : Addr} (hx : H x = none) (hd : H dx = none) (hne : dx ≠ x) (hU : upd (upd H dx (.own x)) x (.ins D dx []) = H2) : Ex H H2 := by
  rw [← hU]
  exact (Ex.new hd).trans (Ex.new (by rw [upd_ne (Ne.symm hne)]; exact hx))
theorem mk_n {H H2 : Hp} {x : Addr} (e : Ex H H2) {a : Addr} (h : H2 a = none) : H a = none := fresh_back e h
instance a_mak {D : Addr} {sp : Sp} {E : XK} {t : TA} {σ : L2.St} {H : Hp} {Q : VK} : St (rMak D sp E t σ H Q) (t σ H fun vs H1 => ∀ x dx, H1 x = none → H1 dx = none → dx ≠ x → sp (.ref x :: vs) (upd (upd H1 dx (.own x)) x (.ins D dx [])) (fun v H2 => v = .non ∧ Q (.ref x) H2) E) := ⟨fun k => k⟩
instance a_mak0 {D : Addr} {sp : Sp} {E : XK} {σ : L2.St} {H : Hp} {Q : VK} : St (rMak0 D sp E σ H Q) (∀ x dx, H x = none → H dx = none → dx ≠ x → sp [.ref x] (upd (upd H dx (.own x)) x (.ins D dx [])) (fun v H2 => v = .non ∧ Q (.ref x) H2) E) := ⟨fun k => k⟩
instance a_sup {C : Addr} {fld : Str} {ta : TA} {σ : L2.St} {H : Hp} {Q : XK} : St (tMkSup C fld ta σ H Q) (ta σ H fun vs H1 => ∃ v, vs = [v] ∧ ∀ d, H1 d = none → Q (.ref C) (some d) (upd H1 d (.xd [(fld, v)]))) := ⟨fun k => k⟩
instance a_one {Qd : V → Prop} {x : V} : St (∃ v, [x] = [v] ∧ Qd v) (Qd x) := ⟨fun k => ⟨x, rfl, k⟩⟩
instance a_lstRg {te : L2.St → Hp → (Int → Int → Hp → Prop) → Prop} {σ : L2.St} {H : Hp} {Q : VK} : St (tLstRg te σ H Q) (te σ H fun a b H1 => RgOk a b ∧ ∀ q, H1 q = none → Q (.ref q) (upd H1 q (.lst (rgV a b)))) := ⟨fun k => k⟩
instance a_rg1 {ta : TE} {σ : L2.St} {H : Hp} {Q : Int → Int → Hp → Prop} : St (tRg1 ta σ H Q) (ta σ H fun x H1 => ∃ n, x = .int n ∧ Q 0 n H1) := ⟨fun k => k⟩
instance a_intE {Qi : Int → Prop} {m : Int} : St (∃ i, V.int m = .int i ∧ Qi i) (Qi m) := ⟨fun k => ⟨m, rfl, k⟩⟩
instance a_gsub {to ti : TE} {t : TSet} {v : V} {σ : L2.St} {H : Hp} {Q : L2.St → Hp → Prop} : St (gSub to ti t v σ H Q) (to σ H fun o H1 => ti σ H1 fun i H2 => t o i v H2 fun H3 => Q σ H3) := ⟨fun k => k⟩
theorem i_rg {a b : Int} {P : Prop} (h : 0 ≤ b ∧ b ≤ 100000) (ha : a = 0) (k : P) : RgOk a b ∧ P := ⟨RgOk.of_le (by omega) (by omega) (by omega) h.1, k⟩
theorem i_rep {l : Addr} {k : Int} {xs : List V} (h : H l = some (.lst xs)) (hk : 0 ≤ k ∧ xs.length * k.toNat ≤ 100000 ∧ k < 2 ^ 63) (q : ∀ p H2, H p = none → Ex H H2 → H2 p = some (.lst (List.replicate k.toNat xs).flatten) → Q (.ref p) H2) : rRep (.ref l) (.int k) H Q :=
  ⟨l, k, xs, rfl, rfl, h, by omega, hk.2.2, sz_of hk.2.1, fun p hp => q p _ hp (Ex.new hp) upd_same⟩
theorem i_setL {p : Addr} {xs : List V} {k : Int} {j : Nat} {v : V} {Qh : Hp → Prop} (h : H p = some (.lst xs)) (e : k = (j : Int)) (hj : j < xs.length) (q : ∀ H2, upd H p (.lst (xs.set j v)) = H2 → Qh H2) : rSetL (.ref p) (.int k) v H Qh :=
  ⟨p, xs, k, j, rfl, rfl, h, by rw [e]; exact ixN_nat hj, q _ rfl⟩
theorem i_enum1 {R : It → Hp → Prop} {xs : List V} (h : H a = some (.lst xs)) (k : R (Ite K a) H) : ∃ b xs, [V.ref a] = [.ref b] ∧ SqL K H b xs ∧ R (Ite K b) H := ⟨a, xs, rfl, SqL.of h, k⟩
end
end Pp
-- PpQ
set_option maxRecDepth 100000
set_option maxHeartbeats 4000000
/-! == of lists, by what they hold. -/
namespace Pp
open PySem PySem.Spec PyProof.Rows L2 Evl
theorem pe_gc {X : Cx} {x : Str} {v : V} {pos : Pos} (hg : Gl X x) (h : ∃ u, X.mg x = some u ∧ RelV v u) (hd : (x == ("__debug__" : Str)) = false := by decide) : PE X (.Name x pos) (tC v) := by
  obtain ⟨u, hm, r⟩ := h
  exact pe_glob hg hm r hd
theorem eqvAll_ints : ∀ ns ms : List Int, PyData.eqvAll (ns.map PyData.int) (ms.map PyData.int) = decide (ns = ms)
  | [], [] => by simp [PyData.eqvAll]
  | [], _ :: _ => by simp [PyData.eqvAll]
  | _ :: _, [] => by simp [PyData.eqvAll]
  | n :: r, k :: q => by
    rw [List.map_cons, List.map_cons, PyData.eqvAll, PyData.eqv, eqvAll_ints r q, Bool.eq_iff_iff]
    simp
theorem eqv_ints (ns ms : List Int) : PyData.eqv (.list (ns.map PyData.int)) (.list (ms.map PyData.int)) = decide (ns = ms) := by
  rw [PyData.eqv]
  exact eqvAll_ints ns ms
theorem eqv_nil (ds : List PyData) : PyData.eqv (.list ds) (.list []) = ds.isEmpty := by
  rw [PyData.eqv]
  cases ds <;> rfl
/-- small data -/
structure Sh (n : Nat) (d : PyData) : Prop where
  lay : d.canLay0 = true
  dep : d.depth ≤ n
theorem shAll {n : Nat} : ∀ {ds : List PyData}, (∀ d ∈ ds, Sh n d) → PyData.canLayAll0 ds = true ∧ PyData.depthAll ds ≤ n
  | [], _ => ⟨by simp [PyData.canLayAll0], by simp [PyData.depthAll]⟩
  | d :: ds, h => by
    obtain ⟨h1, h2⟩ := shAll fun e he => h e (List.mem_cons_of_mem _ he)
    obtain ⟨h3, h4⟩ := h d (List.Mem.head _)
    refine ⟨by simp [PyData.canLayAll0, h1, h3], ?_⟩
    simp only [PyData.depthAll]
    omega
theorem Sh.list {n : Nat} {ds : List PyData} (h : ∀ d ∈ ds, Sh n d) : Sh (n + 1) (.list ds) := by
  obtain ⟨h1, h2⟩ := shAll h
  exact ⟨by simp only [PyData.canLay0]; exact h1, by simp only [PyData.depth]; omega⟩
theorem Sh.tuple {n : Nat} {ds : List PyData} (h : ∀ d ∈ ds, Sh n d) : Sh (n + 1) (.tuple ds) := by
  obtain ⟨h1, h2⟩ := shAll h
  exact ⟨by simp only [PyData.canLay0]; exact h1, by simp only [PyData.depth]; omega⟩
theorem Sh.int {i : Int} {n : Nat} : Sh n (.int i) ∨ n = 0 := by
  cases n with
  | zero => exact .inr rfl
  | succ n => exact .inl ⟨by simp [PyData.canLay0], by simp [PyData.depth]⟩
theorem sh_int {i : Int} {n : Nat} : Sh (n + 1) (.int i) := ⟨by simp [PyData.canLay0], by simp [PyData.depth]⟩
theorem Sh.mono {n m : Nat} {d : PyData} (h : Sh n d) (l : n ≤ m) : Sh m d := ⟨h.lay, Nat.le_trans h.dep l⟩
theorem Sh.ok {n : Nat} {d : PyData} (h : Sh n d) (l : n ≤ 64) : SeqAt.shaped d = true := by
  unfold SeqAt.shaped
  rw [Bool.and_eq_true]
  exact ⟨h.lay, decide_eq_true (Nat.le_trans h.dep l)⟩
/-- a call as data -/
def Cl.pd (c : Cl) : PyData := .tuple (.str c.word :: c.ns.map PyData.int)
theorem Cl.sh (c : Cl) : Sh 2 c.pd := by
  refine Sh.tuple (n := 1) fun d hd => ?_
  rcases List.mem_cons.mp hd with rfl | hd
  · refine ⟨?_, by simp [PyData.depth]⟩
    simp only [PyData.canLay0]
    cases c <;> (simp only [Cl.word]; decide +kernel)
  · obtain ⟨i, _, rfl⟩ := List.mem_map.mp hd
    exact sh_int
section
variable {K : PySem.W.Frag} {H : Hp} {Q : VK} {a b : Addr} {xs : List V} {ds : List PyData}
theorem dpInts : ∀ {ns : List Int}, DpAll K H (ns.map V.int) (ns.map PyData.int)
  | [] => .nil
  | n :: r => .cons (.int n) (dpInts (ns := r))
theorem Cl.dp {c : Cl} (h : H a = some (.tup c.vs)) : Dp K H (.ref a) c.pd := by
  rw [Cl.vs_wv] at h
  exact .tup (SqT.of h) (.cons (.str _) dpInts)
theorem dpCalls : ∀ {as : List Addr} {cs : List Cl}, CallsAt H as cs → DpAll K H (as.map V.ref) (cs.map Cl.pd)
  | _, _, .nil => .nil
  | _, _, .cons r t => .cons (Cl.dp r) (dpCalls t)
theorem i_eqI {ns ms : List Int} (h : H a = some (.lst (ns.map V.int))) (h' : H b = some (.lst (ms.map V.int))) (k : Q (.bl (decide (ns = ms))) H) : rEqD K (.ref a) (.ref b) H Q :=
  ⟨_, _, .lst (SqL.of h) dpInts, .lst (SqL.of h') dpInts, PySem.W.shaped_ints ns, PySem.W.shaped_ints ms, by rw [eqv_ints]; exact k⟩
theorem sh_nil : SeqAt.shaped (.list []) = true := by decide
theorem i_eqE {n : Nat} (h : H a = some (.lst xs)) (d : DpAll K H xs ds) (s : Sh n (.list ds)) (l : n ≤ 64) (h' : H b = some (.lst [])) (k : Q (.bl ds.isEmpty) H) : rEqD K (.ref a) (.ref b) H Q :=
  ⟨_, _, .lst (SqL.of h) d, .lst (SqL.of h') .nil, s.ok l, sh_nil, by rw [eqv_nil]; exact k⟩
theorem i_neE {n : Nat} (h : H a = some (.lst xs)) (d : DpAll K H xs ds) (s : Sh n (.list ds)) (l : n ≤ 64) (h' : H b = some (.lst [])) (k : Q (.bl (!ds.isEmpty)) H) : rNeD K (.ref a) (.ref b) H Q :=
  ⟨_, _, .lst (SqL.of h) d, .lst (SqL.of h') .nil, s.ok l, sh_nil, by rw [eqv_nil]; exact k⟩
theorem shCalls (cs : List Cl) : Sh 3 (.list (cs.map Cl.pd)) := Sh.list fun d hd => by
  obtain ⟨c, _, rfl⟩ := List.mem_map.mp hd
  exact c.sh
theorem i_eqC {as : List Addr} {cs : List Cl} (h : H a = some (.lst (as.map V.ref))) (d : CallsAt H as cs) (h' : H b = some (.lst [])) (k : Q (.bl cs.isEmpty) H) : rEqD K (.ref a) (.ref b) H Q :=
  i_eqE h (dpCalls d) (shCalls cs) (by decide) h' (by rw [show (cs.map Cl.pd).isEmpty = cs.isEmpty by cases cs <;> rfl]; exact k)
end
/-- a field is put -/
theorem i_put {K : PySem.W.Frag} {D a dx : Addr} {fl : Str} {fs : List (Str × V)} {H : Hp} {y : V} {Qh : Hp → Prop} (h : H a = some (.ins D dx fs)) (c : Cls K D) (n : NoAttr K D fl) (l : fs.length < 1000)
    (k : ∀ H2, Ext [a] H H2 → H2 a = some (.ins D dx (putF fl y fs)) → (∀ b o, b ≠ a → H b = some o → H2 b = some o) → Qh H2) :
    ∃ b C dx fs, V.ref a = .ref b ∧ H b = some (.ins C dx fs) ∧ Cls K C ∧ NoAttr K C fl ∧ fs.length < 1000 ∧ Qh (upd H b (.ins C dx (putF fl y fs))) :=
  ⟨a, D, dx, fs, rfl, h, c, n, l, k _ (Ext.put h (by intro _ z; cases z) (List.Mem.head _)) upd_same fun b o hb e => by rw [upd_ne hb]; exact e⟩
/-- what a write keeps -/
theorem i_wr {H : Hp} {a : Addr} {o u : HO} {Qh : Hp → Prop} (h : H a = some u) (nt : ∀ xs, u ≠ .tup xs) (k : ∀ H2, Ext [a] H H2 → H2 a = some o → (∀ b o, b ≠ a → H b = some o → H2 b = some o) → Qh H2) : Qh (upd H a o) :=
  k _ (Ext.put h nt (List.Mem.head _)) upd_same fun b o hb e => by rw [upd_ne hb]; exact e
theorem mut_fresh {H0 H H2 : Hp} {a : Addr} (e : Ex H0 H) (f : Ext [a] H H2) (n : H0 a = none) : Ex H0 H2 := fun b o hb => f.keep b o (e b o hb) (by
  intro z
  have : b = a := by simpa using z
  rw [this, n] at hb
  cases hb)
theorem ext_nil {G : List Addr} {H H' : Hp} {a : Addr} (e : Ext [a] H H') (m : a ∈ G) : Ext G H H' := e.mono fun b hb => by
  have : b = a := by simpa using hb
  rw [this]
  exact m
theorem i_met2 {D a dx : Addr} {m : Str} {fs : List (Str × V)} {H : Hp} {P : Prop} (h : H a = some (.ins D dx fs)) (l : fs.lookup m = none) (k : P) : ∃ b dx fs, V.ref a = .ref b ∧ H b = some (.ins D dx fs) ∧ fs.lookup m = none ∧ P := ⟨a, dx, fs, rfl, h, l, k⟩
end Pp
-- PpL
set_option maxRecDepth 100000
set_option maxHeartbeats 4000000
namespace Pp
open PySem PySem.Spec PyProof.Rows L2 Evl
section
variable {P : Program} {w : World} {K : PySem.W.Frag} {mg : Str → Option Value} {base : Heap} {H : Hp} {Q : VK} {E : XK}
abbrev s_Line_files : Stmt := inClass (top 47) 4
abbrev N_Line_files : List Str := ["self"]
theorem sc_Line_files : FnScope N_Line_files ["self"] (defScope s_Line_files) := ⟨rfl, rfl, rfl, by decide +kernel, rfl, by decide +kernel, by decide +kernel⟩
abbrev sp_Line_files (K : PySem.W.Frag) : Sp := getSp (He.ga K "Line") "width"
theorem ok_Line_files (T : Txt K mg w) {f : Addr} {fd : FuncData} (F : DefAt K "files" "Line.files" s_Line_files f fd) : FnOk P w K mg base CX0 1 f fd ["self"] (sp_Line_files K) := by
  refine ok0 F sc_Line_files (fun vs H Q E h => ?_) (fun cdv A outer s H vs Q E hr h => ?_)
  · walk_at "len"
  · obtain ⟨a, dx, fs, v, rfl, ha, hl, kq⟩ := h
    refine ⟨_, (pss_one (ps_ret (pe_fld (pv 0) (by rfl)))), ?_⟩
    walk_at "go"
    exact ⟨a, _, dx, fs, v, rfl, ha, T.c_Line, T.n_Line_width, hl, kq⟩
theorem prp_Line_files (T : Txt K mg w) : Prp P w K mg base 1 (He.ga K "Line") "files" (getSp (He.ga K "Line") "width") := prpOf T.c_Line T.p_Line_files (fun _ _ F => ok_Line_files T F) (fun _ _ _ _ _ _ us hl => match us, hl with | [_], _ => rfl)
abbrev s_Line_rows : Stmt := inClass (top 47) 5
abbrev N_Line_rows : List Str := ["self"]
theorem sc_Line_rows : FnScope N_Line_rows ["self"] (defScope s_Line_rows) := ⟨rfl, rfl, rfl, by decide +kernel, rfl, by decide +kernel, by decide +kernel⟩
abbrev sp_Line_rows (K : PySem.W.Frag) : Sp := getSp (He.ga K "Line") "deep"
theorem ok_Line_rows (T : Txt K mg w) {f : Addr} {fd : FuncData} (F : DefAt K "rows" "Line.rows" s_Line_rows f fd) : FnOk P w K mg base CX0 1 f fd ["self"] (sp_Line_rows K) := by
  refine ok0 F sc_Line_rows (fun vs H Q E h => ?_) (fun cdv A outer s H vs Q E hr h => ?_)
  · walk_at "len"
  · obtain ⟨a, dx, fs, v, rfl, ha, hl, kq⟩ := h
    refine ⟨_, (pss_one (ps_ret (pe_fld (pv 0) (by rfl)))), ?_⟩
    walk_at "go"
    exact ⟨a, _, dx, fs, v, rfl, ha, T.c_Line, T.n_Line_deep, hl, kq⟩
theorem prp_Line_rows (T : Txt K mg w) : Prp P w K mg base 1 (He.ga K "Line") "rows" (getSp (He.ga K "Line") "deep") := prpOf T.c_Line T.p_Line_rows (fun _ _ F => ok_Line_rows T F) (fun _ _ _ _ _ _ us hl => match us, hl with | [_], _ => rfl)
abbrev s_Line___len__ : Stmt := inClass (top 47) 2
abbrev N_Line___len__ : List Str := ["self"]
theorem sc_Line___len__ : FnScope N_Line___len__ ["self"] (defScope s_Line___len__) := ⟨rfl, rfl, rfl, by decide +kernel, rfl, by decide +kernel, by decide +kernel⟩
abbrev sp_Line___len__ (K : PySem.W.Frag) : Sp := sp_lenO (He.ga K "Line") "standing"
theorem ok_Line___len__ (T : Txt K mg w) {f : Addr} {fd : FuncData} (F : DefAt K "__len__" "Line.__len__" s_Line___len__ f fd) : FnOk P w K mg base CX0 1 f fd ["self"] (sp_Line___len__ K) := by
  refine ok0 F sc_Line___len__ (fun vs H Q E h => ?_) (fun cdv A outer s H vs Q E hr h => ?_)
  · walk_at "len"
  · obtain ⟨a, dx, l, fs, xs, rfl, ha, hl, hx, kq⟩ := h
    refine ⟨_, (pss_one (ps_ret (pe_callB cr_len (by rfl) T.b_len PySem.boot_len (pa_cons (pe_fld (pv 0) (by rfl)) pa_nil)))), ?_⟩
    walk_at "go"
    refine ⟨a, _, dx, fs, .ref l, rfl, ha, T.c_Line, T.n_Line_standing, hl, ?_⟩
    walk_at "go"
    exact kq
theorem len_Line (T : Txt K mg w) : LenC P w K mg base 1 (He.ga K "Line") "standing" := by
  obtain ⟨fd, F⟩ := T.d_Line___len__
  exact ⟨_, fd, ["self"], ok_Line___len__ T F, T.a_Line___len__, F.bindsN (fun _ _ _ _ _ _ us hl => match us, hl with | [_], _ => rfl), rfl⟩
abbrev s_Line_order : Stmt := inClass (top 47) 6
abbrev N_Line_order : List Str := ["self"]
theorem sc_Line_order : FnScope N_Line_order ["self"] (defScope s_Line_order) := ⟨rfl, rfl, rfl, by decide +kernel, rfl, by decide +kernel, by decide +kernel⟩
def sp_Line_order (K : PySem.W.Frag) : Sp := fun vs H Q _ => ∃ (t ls : Addr) (files rows : Int) (st : List Int), vs = [.ref t] ∧ LineAt K H t ls files rows st ∧ ∀ l H', Ex H H' → H l = none → H' l = some (.lst (st.map V.int)) → Q (.ref l) H'
theorem ok_Line_order (T : Txt K mg w) {f : Addr} {fd : FuncData} (F : DefAt K "order" "Line.order" s_Line_order f fd) : FnOk P w K mg base CX0 1 f fd ["self"] (sp_Line_order K) := by
  refine ok0 F sc_Line_order (fun vs H Q E h => ?_) (fun cdv A outer s H vs Q E hr h => ?_)
  · walk_at "len"
  · obtain ⟨t, ls, files, rows, st, rfl, hL, kq⟩ := h
    obtain ⟨⟨dt, h1⟩, h2⟩ := hL
    refine ⟨_, (pss_one (ps_ret (pe_callTy cr_list (by rfl) T.b_list (by decide +kernel) (pa_cons (pe_fld (pv 0) (by rfl)) pa_nil)))), ?_⟩
    walk_at "go"
    exact kq _ _ e hp g
theorem met_Line_order (T : Txt K mg w) : Met P w K mg base CX0 1 (He.ga K "Line") "order" (sp_Line_order K) := metOf T.c_Line T.a_Line_order T.d_Line_order (fun _ F => ok_Line_order T F) (fun _ _ _ _ _ _ us hl => match us, hl with | [_], _ => rfl)
theorem u_Line_order {t ls : Addr} {files rows : Int} {st : List Int} (h : LineAt K H t ls files rows st) (k : ∀ l H', Ex H H' → H l = none → H' l = some (.lst (st.map V.int)) → Q (.ref l) H') : sp_Line_order K [.ref t] H Q E := ⟨t, ls, files, rows, st, rfl, h, k⟩
abbrev s_Line_follow : Stmt := inClass (top 47) 12
abbrev N_Line_follow : List Str := ["self", "moves", "later", "number", "goal"]
theorem sc_Line_follow : FnScope N_Line_follow ["self", "moves"] (defScope s_Line_follow) := ⟨rfl, rfl, rfl, by decide +kernel, rfl, by decide +kernel, by decide +kernel⟩
def sp_Line_follow (K : PySem.W.Frag) : Sp := fun vs H Q _ => ∃ (t ls m : Addr) (files rows : Int) (st ms : List Int), vs = [.ref t, .ref m] ∧ LineAt K H t ls files rows st ∧ H m = some (.lst (ms.map V.int)) ∧ ms.length = st.length ∧ st.length < 50000 ∧ (∀ x ∈ ms, 0 ≤ x ∧ x < (st.length : Int)) ∧
  ∀ ls' H', Ext [t] H H' → H ls' = none → LineAt K H' t ls' files rows (followL ms st) → Q .non H'
theorem ok_Line_follow (T : Txt K mg w) {f : Addr} {fd : FuncData} (F : DefAt K "follow" "Line.follow" s_Line_follow f fd) : FnOk P w K mg base CX0 1 f fd ["self", "moves"] (sp_Line_follow K) := by
  refine ok0 F sc_Line_follow (fun vs H Q E h => ?_) (fun cdv A outer s H vs Q E hr h => ?_)
  · walk_at "len"
  · obtain ⟨t, ls, m, files, rows, st, ms, rfl, hL, hm, hlen, hbig, hin, kq⟩ := h
    obtain ⟨⟨dt, h1⟩, h2⟩ := hL
    refine ⟨_, (pss_cons (ps_set (i := 2) sc_Line_follow.nd rfl (Or.inl rfl) (pe_op op_rep (pe_lst (pa_cons pe_int pa_nil)) (pe_callB cr_len (by rfl) T.b_len PySem.boot_len (pa_cons (pv 1) pa_nil))))
  (pss_cons (ps_for PassesOwn.never rfl (pi_enum (by rfl) T.b_enumerate (pa_cons (pv 1) pa_nil)) (pg_tup (by rfl) (pgs_cons (pg_name (i := 3) sc_Line_follow.nd rfl (Or.inl rfl)) (pgs_cons (pg_name (i := 4) sc_Line_follow.nd rfl (Or.inl rfl)) pgs_nil)))
  (pss_one (ps_asg (pe_ix ix_list (pe_fld (pv 0) (by rfl)) (pv 3) (fun _ _ => rfl)) (pg_sub (pv 2) (pv 4) set_list))))
  (pss_one (ps_fld (pv 0) (pv 2) rfl)))), ?_⟩
    walk_at "go"
    refine i_rep g ⟨by simp; try omega, by simp; omega, by simp; omega⟩ fun l H3 hl e3 g3 => ?_
    walk_at "go"
    have hln : H l = none := fresh_back e hl
    refine fr_E (xs := ms.map V.int) (fun i σ H' => (∃ o1 o2, σ = [some (.ref t), some (.ref m), some (.ref l), o1, o2]) ∧ Ex H H' ∧ H' l = some (.lst ((fol ms st i).map V.int))) ?_ ?_ ?_ ?_ rfl
    · refine ⟨⟨_, _, rfl⟩, by walk_at "ex", ?_⟩
      rw [g3]
      unfold fol
      simp
    · rintro i σ H' hi ⟨_, e', _⟩
      exact e' _ _ hm
    · rintro i x σ H4 H5 hx ⟨⟨o1, o2, rfl⟩, e', h3⟩ e5
      obtain ⟨z, hz, rfl⟩ := ints_at hx
      have hms : ms[i]? = some z := by
        rw [List.getElem?_map] at hx
        cases hq : ms[i]? with
        | none => rw [hq] at hx; cases hx
        | some y => rw [hq] at hx; rw [V.int.inj (Option.some.inj hx)]
      have hil : i < ms.length := (List.getElem?_eq_some_iff.mp hms).1
      have hst : atI (st.map V.int) (i : Int) = some (.int (st.getD i 0)) := atI_at (by
        rw [List.getElem?_map, List.getD_eq_getElem?_getD, List.getElem?_eq_getElem (show i < st.length by omega)]
        rfl)
      have h1' := e' _ _ h1
      have h2' := e' _ _ h2
      have hzz := hin z hz
      walk_at "go"
      refine i_setL (e5 _ _ h3) (j := z.toNat) (by omega) (by rw [List.length_map, fol_len]; omega) fun H6 hU => ?_
      refine ⟨⟨_, _, rfl⟩, ?_, ?_⟩
      · rw [← hU]
        exact Ex.mut (e'.trans e5) hln
      · rw [al_g hU, fol_succ, List.map_set]
        rw [show ms.getD i 0 = z by rw [List.getD_eq_getElem?_getD, hms]; rfl]
    · rintro σ H4 ⟨⟨o1, o2, rfl⟩, e', h3⟩
      walk_at "go"
      have h1' := e' _ _ h1
      refine ⟨_, _, _, _, rfl, h1', T.c_Line, T.n_Line_standing, by simp, ?_⟩
      generalize hU : upd _ _ _ = H5
      walk_at "go"
      refine kq l H5 (Ext.xr e' (put_e h1' (by intro _ z; cases z) (List.Mem.head _) hU)) hln ⟨⟨dt, ?_⟩, ?_⟩
      · rw [al_g hU]
        rfl
      · rw [List.length_map] at h3
        exact put_o hU h3 (ne_of h3 h1' (by intro z; cases z))
theorem met_Line_follow (T : Txt K mg w) : Met P w K mg base CX0 1 (He.ga K "Line") "follow" (sp_Line_follow K) := metOf T.c_Line T.a_Line_follow T.d_Line_follow (fun _ F => ok_Line_follow T F) (fun _ _ _ _ _ _ us hl => match us, hl with | [_, _], _ => rfl)
theorem u_Line_follow {t ls m : Addr} {files rows : Int} {st ms : List Int} (hL : LineAt K H t ls files rows st) (hm : H m = some (.lst (ms.map V.int))) (h1 : ms.length = st.length) (h2 : st.length < 50000) (h3 : ∀ x ∈ ms, 0 ≤ x ∧ x < (st.length : Int))
    (k : ∀ ls' H', Ext [t] H H' → H ls' = none → LineAt K H' t ls' files rows (followL ms st) → Q .non H') : sp_Line_follow K [.ref t, .ref m] H Q E := ⟨t, ls, m, files, rows, st, ms, rfl, hL, hm, h1, h2, h3, k⟩
abbrev s_Line___init__ : Stmt := inClass (top 47) 0
abbrev N_Line___init__ : List Str := ["self", "files", "rows"]
theorem sc_Line___init__ : FnScope N_Line___init__ ["self", "files", "rows"] (defScope s_Line___init__) := ⟨rfl, rfl, rfl, by decide +kernel, rfl, by decide +kernel, by decide +kernel⟩
def sp_Line___init__ (K : PySem.W.Frag) : Sp := fun vs H Q _ => ∃ (a dx : Addr) (files rows : Int), vs = [.ref a, .int files, .int rows] ∧ H a = some (.ins (He.ga K "Line") dx []) ∧ (files = 2 ∨ files = 3) ∧ (1 ≤ rows ∧ rows ≤ 400) ∧
  ∀ ls H', Ext [a] H H' → H ls = none → LineAt K H' a ls files rows (home (files * rows).toNat) → Q .non H'
theorem ok_Line___init__ (T : Txt K mg w) {f : Addr} {fd : FuncData} (F : DefAt K "__init__" "Line.__init__" s_Line___init__ f fd) : FnOk P w K mg base CX0 3 f fd ["self", "files", "rows"] (sp_Line___init__ K) := by
  refine ok0 F sc_Line___init__ (fun vs H Q E h => ?_) (fun cdv A outer s H vs Q E hr h => ?_)
  · walk_at "len"
  · obtain ⟨a, dx, files, rows, rfl, ha, hf, hr1, kq⟩ := h
    have hm : 0 ≤ files * rows ∧ files * rows ≤ 100000 := by rcases hf with rfl | rfl <;> omega
    refine ⟨_, (pss_cons (ps_if (pt_not (pt_val (pe_cal (cal_is_files T) hr px0 (pa_cons (pv 1) pa_nil)))) (pss_one ps_never) pss_nil)
  (pss_cons (ps_if (PW.pt (pw_or (pt_not (pt_val (pe_cal (cal_is_rows T) hr px0 (pa_cons (pv 2) pa_nil)))) (pw_or1 (pt_cmpR op_gt (pv 2) (pe_gc (by rfl) T.i_MOST_ROWS_lines) (nomark _))))) (pss_one ps_never) pss_nil)
  (pss_cons (ps_fld (pv 0) (pv 1) rfl)
  (pss_cons (ps_fld (pv 0) (pv 2) rfl)
  (pss_one (ps_fld (pv 0) (pe_listRg rfl (by rfl) T.b_list (prg_1 (by rfl) T.b_range (pe_op op_mul (pv 1) (pv 2)))) rfl)))))), ?_⟩
    walk_at "go"
    have x0 : Ex H H2 := by walk_at "ex"
    refine i_put (x0 _ _ ha) T.c_Line T.n_Line_width (by simp) fun H3 u1 u2 _ => ?_
    have u2 : H3 a = some (.ins (He.ga K "Line") dx [("width", .int files)]) := u2
    walk_at "go"
    refine i_put u2 T.c_Line T.n_Line_deep (by simp) fun H4 v1 v2 _ => ?_
    have v2 : H4 a = some (.ins (He.ga K "Line") dx [("width", .int files), ("deep", .int rows)]) := v2
    walk_at "go"
    refine i_rg hm rfl ?_
    rw [home_rg]
    walk_at "go"
    have v2' := e _ _ v2
    refine i_put v2' T.c_Line T.n_Line_standing (by simp) fun H6 w1 w2 w3 => ?_
    walk_at "go"
    have x1 : Ext [a] H H4 := (Ext.xr x0 u1).trans v1
    have pa : p ≠ a := ne_of g v2' (by intro z; cases z)
    refine kq p H6 ((x1.xl e).trans w1) (x1.live _ hp) ⟨⟨dx, w2⟩, w3 p _ pa g⟩
theorem mak_Line (T : Txt K mg w) : Mak P w K mg base CX0 3 "Line" (He.ga K "Line") (sp_Line___init__ K) := makOf T.g_Line T.mk_Line T.d_Line___init__ (fun _ F => ok_Line___init__ T F) (fun _ _ _ _ _ _ us hl => match us, hl with | [_, _, _], _ => rfl)
abbrev s_Line_is_home : Stmt := inClass (top 47) 11
abbrev N_Line_is_home : List Str := ["self"]
theorem sc_Line_is_home : FnScope N_Line_is_home ["self"] (defScope s_Line_is_home) := ⟨rfl, rfl, rfl, by decide +kernel, rfl, by decide +kernel, by decide +kernel⟩
def sp_Line_is_home (K : PySem.W.Frag) : Sp := fun vs H Q _ => ∃ (t ls : Addr) (files rows : Int) (st : List Int), vs = [.ref t] ∧ LineAt K H t ls files rows st ∧ st.length < 50000 ∧ RetV (.bl (decide (st = home st.length))) H Q
theorem ok_Line_is_home (T : Txt K mg w) {f : Addr} {fd : FuncData} (F : DefAt K "is_home" "Line.is_home" s_Line_is_home f fd) : FnOk P w K mg base CX0 1 f fd ["self"] (sp_Line_is_home K) := by
  refine ok0 F sc_Line_is_home (fun vs H Q E h => ?_) (fun cdv A outer s H vs Q E hr h => ?_)
  · walk_at "len"
  · obtain ⟨t, ls, files, rows, st, rfl, hL, hb, kq⟩ := h
    obtain ⟨⟨dt, h1⟩, h2⟩ := hL
    refine ⟨_, (pss_one (ps_ret (pe_cmpR (op_eqD hr.units) (pe_fld (pv 0) (by rfl)) (pe_listRg rfl (by rfl) T.b_list (prg_1 (by rfl) T.b_range (pe_callB cr_len (by rfl) T.b_len PySem.boot_len (pa_cons (pe_fld (pv 0) (by rfl)) pa_nil)))) (nomark _)))), ?_⟩
    walk_at "go"
    refine i_rg ⟨by simp, by simp; omega⟩ rfl ?_
    rw [home_rg]
    walk_at "go"
    refine i_eqI (by walk_at "lk") g ?_
    exact cvb (kq _ e) (by simp)
theorem met_Line_is_home (T : Txt K mg w) : Met P w K mg base CX0 1 (He.ga K "Line") "is_home" (sp_Line_is_home K) := metOf T.c_Line T.a_Line_is_home T.d_Line_is_home (fun _ F => ok_Line_is_home T F) (fun _ _ _ _ _ _ us hl => match us, hl with | [_], _ => rfl)
abbrev s_Line_do : Stmt := inClass (top 47) 13
abbrev N_Line_do : List Str := ["self", "thing"]
theorem sc_Line_do : FnScope N_Line_do ["self", "thing"] (defScope s_Line_do) := ⟨rfl, rfl, rfl, by decide +kernel, rfl, by decide +kernel, by decide +kernel⟩
def sp_Line_do (K : PySem.W.Frag) : Sp := fun vs H Q _ => ∃ (t ls aC : Addr) (files rows : Int) (st : List Int) (c : Cl), vs = [.ref t, .ref aC] ∧ LineAt K H t ls files rows st ∧ H aC = some (.tup c.vs) ∧ c.Ok files ∧ (files = 2 ∨ files = 3) ∧ Bd files rows ∧ st.length = (rows * files).toNat ∧
  ∀ ls' H', Ext [t] H H' → H ls' = none → LineAt K H' t ls' files rows (stepL files rows c st) → Q .non H'
theorem ok_Line_do (T : Txt K mg w) {f : Addr} {fd : FuncData} (F : DefAt K "do" "Line.do" s_Line_do f fd) : FnOk P w K mg base CX0 7 f fd ["self", "thing"] (sp_Line_do K) := by
  refine ok0 F sc_Line_do (fun vs H Q E h => ?_) (fun cdv A outer s H vs Q E hr h => ?_)
  · walk_at "len"
  · obtain ⟨t, ls, aC, files, rows, st, c, rfl, hL, hc, hok, hf, hb, hlen, kq⟩ := h
    have hL0 := hL
    obtain ⟨⟨dt, h1⟩, h2⟩ := hL
    refine ⟨_, (pss_one (ps_if (PW.pt (pw_and (pt_val (pe_callB call_isi (by rfl) T.b_isinstance (by decide +kernel) (pa_cons (pv 1) (pa_cons (pe_glob (v := .ref (He.ga K "Script")) (by rfl) T.g_Script rfl) pa_nil)))) (pw_and1 (pt_cmpR op_eq (pe_fld (pv 1) (by rfl)) (pe_fld (pv 0) (by rfl)) (nomark _))))) (pss_one (ps_expr (pe_met (met_Line_follow T) hr px0 (pv 0) (pa_cons (pe_cal (cal_moves_of T) hr px0 (pa_cons (pv 1) (pa_cons (pe_fld (pv 0) (by rfl)) pa_nil))) pa_nil)))) (pss_one (ps_if (pt_val (pe_cal (cal_is_call T) hr px0 (pa_cons (pe_fld (pv 0) (by rfl)) (pa_cons (pv 1) pa_nil)))) (pss_one (ps_expr (pe_met (met_Line_follow T) hr px0 (pv 0) (pa_cons (pe_cal (cal_moves_of T) hr px0 (pa_cons (pe_mak (mak_Script T) hr pass0 (pa_cons (pe_fld (pv 0) (by rfl)) (pa_cons (pe_lst (pa_cons (pv 1) pa_nil)) pa_nil))) (pa_cons (pe_fld (pv 0) (by rfl)) pa_nil))) pa_nil)))) (pss_one ps_never))))), ?_⟩
    walk_at "go"
    refine ⟨_, _, _, _, false, rfl, .own _, .base (.tup hc), T.y_Script, ?_⟩
    walk_at "go"
    refine u_is_callC hc fun H2 e => ?_
    walk_at "go"
    refine i_t (isCall_ok.mpr hok) ?_
    walk_at "go"
    intro x dx hx hdx hne
    generalize hU : upd (upd _ _ _) _ _ = H4
    have e4 := mk_e hx hdx hne hU
    have e03 : Ex H H2 := by walk_at "ex"
    have xn : H x = none := fresh_back e03 hx
    refine ⟨x, p, dx, files, [aC], [c], rfl, al_g hU, hf, by walk_at "lk", .cons (by walk_at "tx") .nil, by simpa using hok, by simp, fun st5 H5 x5 g5 t5 => ⟨rfl, ?_⟩⟩
    have e5 : Ex H H5 := mut_fresh (e03.trans e4) x5 xn
    have h1' := e5 _ _ h1
    walk_at "go"
    refine u_moves_of ⟨dx, st5, [aC], g5, t5, .cons (e5 _ _ hc) .nil⟩ hb (by simpa using hok) (by simp) fun m H6 e6 hm g6 => ?_
    walk_at "go"
    refine u_Line_follow (ms := movesL files rows [c]) (hL0.ex (e5.trans e6)) g6 (by simp [movesL, hlen]) (by have := bd_mul hb; omega) ?_ fun ls' H7 x7 hl7 l7 => ?_
    · intro z hz
      obtain ⟨n, hn, rfl⟩ := List.mem_map.mp hz
      have hn := List.mem_range.mp hn
      have hb' := bd_mul hb
      have h := num_bd (mvs_pl (cs := [c]) hb (by simpa using hok) (p := ((n : Int) / files, (n : Int) % files)) ⟨⟨Int.ediv_nonneg (by omega) (by have := hb.1; omega), Int.ediv_lt_of_lt_mul hb.1.1 (by omega)⟩, mod_bd hb.1.1⟩)
      exact ⟨h.1, by rw [hlen, Int.toNat_of_nonneg (by omega)]; exact h.2⟩
    · walk_at "go"
      exact kq ls' H7 (Ext.xr (e5.trans e6) x7) (fresh_back (e5.trans e6) hl7) l7
theorem met_Line_do (T : Txt K mg w) : Met P w K mg base CX0 7 (He.ga K "Line") "do" (sp_Line_do K) := metOf T.c_Line T.a_Line_do T.d_Line_do (fun _ F => ok_Line_do T F) (fun _ _ _ _ _ _ us hl => match us, hl with | [_, _], _ => rfl)
end
end Pp
-- PpR
set_option maxRecDepth 100000
set_option maxHeartbeats 4000000
/-! index, slices, sorted. -/
namespace Pp
open PySem PySem.Spec PyProof.Rows L2 Evl
theorem cut_nat {xs : List V} {a b : Nat} : cutV xs (some (a : Int)) (some (b : Int)) = (xs.drop a).take (b - a) := by
  unfold cutV
  have ha : HT.sIx xs.length 0 (some (a : Int)) = min a xs.length := by
    simp only [HT.sIx]
    rw [if_neg (by omega)]
    omega
  have hb : HT.sIx xs.length xs.length (some (b : Int)) = min b xs.length := by
    simp only [HT.sIx]
    rw [if_neg (by omega)]
    omega
  rw [ha, hb]
  by_cases h : a ≤ xs.length
  · rw [Nat.min_eq_left h]
    by_cases h2 : b ≤ xs.length
    · rw [Nat.min_eq_left h2]
    · rw [Nat.min_eq_right (by omega), List.take_of_length_le (by rw [List.length_drop]; omega), List.take_of_length_le (by rw [List.length_drop]; omega)]
  · rw [show min a xs.length = xs.length by omega, List.drop_length, List.drop_of_length_le (show xs.length ≤ a by omega)]
    simp
theorem cut_int {xs : List V} {a b : Int} (ha : 0 ≤ a) (hb : 0 ≤ b) : cutV xs (some a) (some b) = (xs.drop a.toNat).take (b.toNat - a.toNat) := by
  have := cut_nat (xs := xs) (a := a.toNat) (b := b.toNat)
  rw [Int.toNat_of_nonneg ha, Int.toNat_of_nonneg hb] at this
  exact this
theorem cut_ints {ns : List Int} {a b : Int} (ha : 0 ≤ a) (hb : 0 ≤ b) : cutV (ns.map V.int) (some a) (some b) = (((ns.drop a.toNat).take (b.toNat - a.toNat))).map V.int := by
  rw [cut_int ha hb, List.map_take, List.map_drop]
section
variable {K : PySem.W.Frag} {H : Hp} {Q : VK} {a : Addr} {ns : List Int} {n : Int}
theorem flat_ints (ns : List Int) : (ns.map V.int).all flatV = true := by
  rw [List.all_map, List.all_eq_true]
  intro x _
  rfl
theorem i_index (h : H a = some (.lst (ns.map V.int))) (m : n ∈ ns) (k : Q (.int (ns.idxOf n : Nat)) H) : rIndex K (.ref a) [.int n] H Q := by
  have hl : ns.idxOf n < ns.length := List.idxOf_lt_length_iff.mpr m
  refine ⟨a, ns.map V.int, .int n, ns.idxOf n, .int n, rfl, rfl, SqL.of h, rfl, flat_ints ns, ?_, by simp [eqV], ?_, k⟩
  · rw [List.getElem?_map, List.getElem?_eq_getElem hl]
    simp
  · intro i z hi hz
    obtain ⟨y, hy, rfl⟩ := ints_at hz
    rw [List.getElem?_map] at hz
    cases hq : ns[i]? with
    | none => rw [hq] at hz; cases hz
    | some x =>
      rw [hq] at hz
      have hxy : x = y := V.int.inj (Option.some.inj hz)
      subst hxy
      have hne : x ≠ n := by
        have hi2 : i < ns.length := by omega
        rw [List.getElem?_eq_getElem hi2] at hq
        have := List.not_of_lt_findIdx (p := fun y => y == n) (xs := ns) (i := i) (by exact hi)
        rw [Option.some.inj hq] at this
        simpa using this
      simp [eqV, hne]
theorem i_sortedI (h : H a = some (.lst (ns.map V.int))) (k : ∀ (ns' : List Int) p H2, ns'.Perm ns → ns'.Pairwise (· ≤ ·) → H p = none → Ex H H2 → H2 p = some (.lst (ns'.map V.int)) → Q (.ref p) H2) : rSortedI K [.ref a] H Q :=
  ⟨a, ns, rfl, SqL.of h, fun ns' p hp hs hn => k ns' p _ hp hs hn (Ex.new hn) upd_same⟩
end
/-- the row of n in st, f to a row -/
def rowL (f : Nat) (st : List Int) (n : Int) : List Int := (st.drop (st.idxOf n / f * f)).take f
theorem row_cut {files : Int} (hf : 0 < files) (st : List Int) (n : Int) : cutV (st.map V.int) (some (((st.idxOf n : Nat) : Int) / files * files)) (some ((((st.idxOf n : Nat) : Int) / files + 1) * files)) = (rowL files.toNat st n).map V.int := by
  obtain ⟨f, rfl⟩ := Int.eq_ofNat_of_zero_le (Int.le_of_lt hf)
  have e1 : ((st.idxOf n : Nat) : Int) / (f : Int) * (f : Int) = ((st.idxOf n / f * f : Nat) : Int) := by simp
  have e2 : (((st.idxOf n : Nat) : Int) / (f : Int) + 1) * (f : Int) = (((st.idxOf n / f + 1) * f : Nat) : Int) := by simp
  rw [e1, e2, cut_nat, ← List.map_drop, ← List.map_take]
  unfold rowL
  rw [Int.toNat_natCast, Nat.succ_mul, Nat.add_sub_cancel_left]
end Pp
-- PpM
set_option maxRecDepth 100000
set_option maxHeartbeats 4000000
namespace Pp
open PySem PySem.Spec PyProof.Rows L2 Evl
section
variable {P : Program} {w : World} {K : PySem.W.Frag} {mg : Str → Option Value} {base : Heap} {H : Hp} {Q : VK} {E : XK}
abbrev s_Line_place_of : Stmt := inClass (top 47) 8
abbrev N_Line_place_of : List Str := ["self", "pupil"]
theorem sc_Line_place_of : FnScope N_Line_place_of ["self", "pupil"] (defScope s_Line_place_of) := ⟨rfl, rfl, rfl, by decide +kernel, rfl, by decide +kernel, by decide +kernel⟩
def sp_Line_place_of (K : PySem.W.Frag) : Sp := fun vs H Q E => ∃ (t ls : Addr) (files rows : Int) (st : List Int) (n : Int), vs = [.ref t, .int n] ∧ LineAt K H t ls files rows st ∧ (0 < files ∧ files < 10) ∧ st.length < 50000 ∧
  (0 ≤ n ∧ n < (st.length : Int) → n ∈ st ∧ ∀ q H', Ex H H' → H' q = some (.tup [.int ((st.idxOf n : Nat) / files), .int ((st.idxOf n : Nat) % files)]) → Q (.ref q) H') ∧
  (¬ (0 ≤ n ∧ n < (st.length : Int)) → ∀ d H', Ex H H' → E (.ref (He.ga K "NoPupil")) d H')
theorem ok_Line_place_of (T : Txt K mg w) (U : TxtX P K mg) {f : Addr} {fd : FuncData} (F : DefAt K "place_of" "Line.place_of" s_Line_place_of f fd) : FnOk P w K mg base (L2.CX P w) 3 f fd ["self", "pupil"] (sp_Line_place_of K) := by
  refine okX F sc_Line_place_of (fun vs H Q E h => ?_) (fun cdv A outer s H vs Q E hr h => ?_)
  · walk_at "len"
  · obtain ⟨t, ls, files, rows, st, n, rfl, hL, hf, hb, k1, k2⟩ := h
    obtain ⟨⟨dt, h1⟩, h2⟩ := hL
    refine ⟨_, (pss_cons (ps_if (pt_not (pt_val (pe_cal (cal_is_index T) hr px0 (pa_cons (pv 1) (pa_cons (pe_callB cr_len (by rfl) T.b_len PySem.boot_len (pa_cons (pe_fld (pv 0) (by rfl)) pa_nil)) pa_nil))))) (pss_one (ps_raise rfl (takes_of rfl rfl rfl rfl) (pmk_sup U.x_NoPupil S_NoPupil hr (pa_cons (pv 1) pa_nil)))) pss_nil)
  (pss_one (ps_ret (pe_cal (cal_place_of_moves T) hr px0 (pa_cons (pe_fld (pv 0) (by rfl)) (pa_cons (pe_bm PySem.F.plainAttrs_list PySem.F.slot_list_index PySem.F.type_list_index mt_index (pe_fld (pv 0) (by rfl)) (pa_cons (pv 1) pa_nil)) pa_nil)))))), ?_⟩
    walk_at "go"
    rw [List.length_map]
    by_cases hv : 0 ≤ n ∧ n < (st.length : Int)
    · obtain ⟨hm, kq⟩ := k1 hv
      refine i_f (by rw [decide_eq_true hv]; rfl) ?_
      walk_at "go"
      refine i_index (by walk_at "lk") hm ?_
      walk_at "go"
      refine u_place_of hf fun q H3 e3 g3 => ?_
      exact kq q H3 (by walk_at "ex") g3
    · refine i_t (by rw [decide_eq_false hv]; rfl) ?_
      walk_at "go"
      exact k2 hv _ _ (by walk_at "ex")
theorem met_Line_place_of (T : Txt K mg w) (U : TxtX P K mg) : Met P w K mg base (L2.CX P w) 3 (He.ga K "Line") "place_of" (sp_Line_place_of K) := metOf T.c_Line T.a_Line_place_of T.d_Line_place_of (fun _ F => ok_Line_place_of T U F) (fun _ _ _ _ _ _ us hl => match us, hl with | [_, _], _ => rfl)
theorem u_Line_place_of {t ls : Addr} {files rows : Int} {st : List Int} {n : Int} (hL : LineAt K H t ls files rows st) (hf : 0 < files ∧ files < 10) (hb : st.length < 50000)
    (k1 : 0 ≤ n ∧ n < (st.length : Int) → n ∈ st ∧ ∀ q H', Ex H H' → H' q = some (.tup [.int ((st.idxOf n : Nat) / files), .int ((st.idxOf n : Nat) % files)]) → Q (.ref q) H')
    (k2 : ¬ (0 ≤ n ∧ n < (st.length : Int)) → ∀ d H', Ex H H' → E (.ref (He.ga K "NoPupil")) d H') : sp_Line_place_of K [.ref t, .int n] H Q E := ⟨t, ls, files, rows, st, n, rfl, hL, hf, hb, k1, k2⟩
abbrev s_Line_row_of : Stmt := inClass (top 47) 9
abbrev N_Line_row_of : List Str := ["self", "pupil", "row", "some", "other"]
theorem sc_Line_row_of : FnScope N_Line_row_of ["self", "pupil"] (defScope s_Line_row_of) := ⟨rfl, rfl, rfl, by decide +kernel, rfl, by decide +kernel, by decide +kernel⟩
def sp_Line_row_of (K : PySem.W.Frag) : Sp := fun vs H Q E => ∃ (t ls : Addr) (files rows : Int) (st : List Int) (n : Int), vs = [.ref t, .int n] ∧ LineAt K H t ls files rows st ∧ (0 < files ∧ files < 10) ∧ st.length < 50000 ∧
  (0 ≤ n ∧ n < (st.length : Int) → n ∈ st ∧ ∀ l (ns : List Int) H', Ex H H' → H l = none → ns.Perm ((rowL files.toNat st n).filter fun x => decide (x ≠ n)) → ns.Pairwise (· ≤ ·) → H' l = some (.lst (ns.map V.int)) → Q (.ref l) H') ∧
  (¬ (0 ≤ n ∧ n < (st.length : Int)) → ∀ d H', Ex H H' → E (.ref (He.ga K "NoPupil")) d H')
theorem ok_Line_row_of (T : Txt K mg w) (U : TxtX P K mg) {f : Addr} {fd : FuncData} (F : DefAt K "row_of" "Line.row_of" s_Line_row_of f fd) : FnOk P w K mg base (L2.CX P w) 4 f fd ["self", "pupil"] (sp_Line_row_of K) := by
  refine okX F sc_Line_row_of (fun vs H Q E h => ?_) (fun cdv A outer s H vs Q E hr h => ?_)
  · walk_at "len"
  · obtain ⟨t, ls, files, rows, st, n, rfl, hL, hf, hb, k1, k2⟩ := h
    have hL0 := hL
    obtain ⟨⟨dt, h1⟩, h2⟩ := hL
    refine ⟨_, (pss_cons (ps_set (i := 2) sc_Line_row_of.nd rfl (Or.inl rfl) (pe_ix ix_tup (pe_met (met_Line_place_of T U) hr (pxE (passes_call (takes_of rfl rfl rfl rfl) fun _ _ _ _ h => h)) (pv 0) (pa_cons (pv 1) pa_nil)) pe_int (fun _ _ => rfl)))
  (pss_cons (ps_set (i := 3) sc_Line_row_of.nd rfl (Or.inl rfl) (pe_slice sl_list (pe_fld (pv 0) (by rfl)) (po_some (pe_op op_mul (pv 2) (pe_fld (pv 0) (by rfl)))) (po_some (pe_op op_mul (pe_op op_add (pv 2) pe_int) (pe_fld (pv 0) (by rfl))))))
  (pss_one (ps_ret (pe_callB cr_sortedI (by rfl) T.b_sorted (by decide +kernel) (pa_cons (pe_lc (own := [("other", 4)]) (g := gName 4) rfl sc_Line_row_of.nd (pi_list (pv 3)) (blkOk_by (own := [("other", 4)]) (N := N_Line_row_of) (sc := defScope s_Line_row_of) (by decide +kernel)) (fun _ _ _ _ _ => pg_name (i := 4) sc_Line_row_of.nd rfl (Or.inl rfl)) (fun _ _ _ _ _ => pts_one (pt_cmpR op_ne (pv 4) (pv 1) (nomark _))) (fun _ _ _ _ _ => (pv 4))) pa_nil)))))), ?_⟩
    walk_at "go"
    refine u_Line_place_of hL0 hf hb (fun hv => ⟨(k1 hv).1, fun q H3 e3 g3 => ?_⟩) k2
    have kq := (k1 hv).2
    have hnn : 0 ≤ ((st.idxOf n : Nat) : Int) / files := Int.ediv_nonneg (by omega) (by omega)
    have hlt : ((st.idxOf n : Nat) : Int) / files ≤ (st.idxOf n : Nat) := Int.ediv_le_self _ (by omega)
    have hil : st.idxOf n < st.length := List.idxOf_lt_length_iff.mpr (k1 hv).1
    walk_at "go"
    rw [row_cut hf.1] at g
    refine lc_intsF g (fun x => decide (x ≠ n)) V.int (by unfold rowL; rw [List.length_take, List.length_drop]; omega) (fun _ => rfl) (fun m H4 e4 _ Qb q1 => ?_) (fun m H4 e4 _ Q1 q1 => ?_) (fun l H4 hl e4 g4 => ?_)
    · walk_at "go"
      rw [dec_int]
      have := q1 _ (Ex.refl _)
      rw [show (!(m == n)) = decide (m ≠ n) by by_cases hmn : m = n <;> simp [hmn]]
      exact this
    · walk_at "go"
      exact q1 _ (Ex.refl _)
    · walk_at "go"
      refine i_sortedI g4 fun ns l5 H5 hp5 hs5 hl5 e5 g5 => ?_
      exact kq l5 ns H5 (by walk_at "ex") (fresh_back (by walk_at "ex") hl5) hp5 hs5 g5
theorem met_Line_row_of (T : Txt K mg w) (U : TxtX P K mg) : Met P w K mg base (L2.CX P w) 4 (He.ga K "Line") "row_of" (sp_Line_row_of K) := metOf T.c_Line T.a_Line_row_of T.d_Line_row_of (fun _ F => ok_Line_row_of T U F) (fun _ _ _ _ _ _ us hl => match us, hl with | [_, _], _ => rfl)
theorem u_Line_row_of {t ls : Addr} {files rows : Int} {st : List Int} {n : Int} (hL : LineAt K H t ls files rows st) (hf : 0 < files ∧ files < 10) (hb : st.length < 50000)
    (k1 : 0 ≤ n ∧ n < (st.length : Int) → n ∈ st ∧ ∀ l (ns : List Int) H', Ex H H' → H l = none → ns.Perm ((rowL files.toNat st n).filter fun x => decide (x ≠ n)) → ns.Pairwise (· ≤ ·) → H' l = some (.lst (ns.map V.int)) → Q (.ref l) H')
    (k2 : ¬ (0 ≤ n ∧ n < (st.length : Int)) → ∀ d H', Ex H H' → E (.ref (He.ga K "NoPupil")) d H') : sp_Line_row_of K [.ref t, .int n] H Q E := ⟨t, ls, files, rows, st, n, rfl, hL, hf, hb, k1, k2⟩
end
end Pp
-- PpI
set_option maxRecDepth 100000
set_option maxHeartbeats 4000000
/-! The plain law of standing; the parade in the heap. -/
namespace Pp
open PySem PySem.Spec PyProof.Rows L2 Evl
/-! ### moves undo moves -/
theorem fol_get {ms st : List Int} (inj : ∀ i j : Nat, i < ms.length → j < ms.length → (ms.getD i 0).toNat = (ms.getD j 0).toNat → i = j) (bd : ∀ i : Nat, i < ms.length → (ms.getD i 0).toNat < ms.length) :
    ∀ k, k ≤ ms.length → ∀ i, i < k → (fol ms st k)[(ms.getD i 0).toNat]? = some (st.getD i 0)
  | 0, _, i, hi => absurd hi (Nat.not_lt_zero _)
  | k + 1, hk, i, hi => by
    rw [fol_succ]
    by_cases e : i = k
    · subst e
      rw [List.getElem?_set_self (by rw [fol_len]; exact bd i (by omega))]
    · have hne : (ms.getD k 0).toNat ≠ (ms.getD i 0).toNat := fun z => e (inj k i (by omega) (by omega) z).symm
      rw [List.getElem?_set_ne hne]
      exact fol_get inj bd k (by omega) i (by omega)
/-- where a number goes by one call -/
def mvn (files rows : Int) (c : Cl) (n : Int) : Int := (mv c files rows (n / files) (n % files)).1 * files + (mv c files rows (n / files) (n % files)).2
theorem mvn_is {files rows : Int} {c : Cl} {n : Nat} : movesOf files rows [c] n = mvn files rows c (n : Int) := rfl
theorem pl_of {files rows n : Int} (b : Bd files rows) (h0 : 0 ≤ n) (h1 : n < rows * files) : Pl files rows (n / files, n % files) :=
  ⟨⟨Int.ediv_nonneg h0 (Int.le_of_lt b.1.1), Int.ediv_lt_of_lt_mul b.1.1 h1⟩, mod_bd b.1.1⟩
theorem mvn_bd {files rows n : Int} {c : Cl} (b : Bd files rows) (o : c.Ok files) (h0 : 0 ≤ n) (h1 : n < rows * files) : 0 ≤ mvn files rows c n ∧ mvn files rows c n < rows * files :=
  num_bd (mv_pl b o (pl_of b h0 h1))
theorem mvn_turn {files rows n : Int} {c : Cl} (b : Bd files rows) (o : c.Ok files) (h0 : 0 ≤ n) (h1 : n < rows * files) : mvn files rows c.turn (mvn files rows c n) = n := by
  have hp := pl_of b h0 h1
  have hq := mv_pl b o hp
  have ht := mv_turn b o hp
  unfold mvn
  simp only at ht
  generalize mv c files rows (n / files) (n % files) = q at ht hq ⊢
  obtain ⟨d1, d2⟩ := div_of (a := q.1 * files + q.2) (b := files) (q := q.1) (r := q.2) (by rw [Int.mul_comm]) hq.2.1 hq.2.2
  rw [d1, d2, ht]
  have := dm (a := n) (b := files)
  rw [Int.mul_comm] at this
  exact this
theorem moves_len {files rows : Int} {cs : List Cl} : (movesL files rows cs).length = (rows * files).toNat := by simp [movesL]
theorem moves_at {files rows : Int} {c : Cl} {i : Nat} (h : i < (rows * files).toNat) : (movesL files rows [c]).getD i 0 = mvn files rows c (i : Int) := by
  unfold movesL
  rw [List.getD_eq_getElem?_getD, List.getElem?_map, List.getElem?_range h]
  rfl
theorem moves_inj {files rows : Int} {c : Cl} (b : Bd files rows) (o : c.Ok files) : ∀ i j : Nat, i < (movesL files rows [c]).length → j < (movesL files rows [c]).length → ((movesL files rows [c]).getD i 0).toNat = ((movesL files rows [c]).getD j 0).toNat → i = j := by
  intro i j hi hj e
  rw [moves_len] at hi hj
  rw [moves_at hi, moves_at hj] at e
  have b1 := mvn_bd (c := c) (n := (i : Int)) b o (by omega) (by omega)
  have b2 := mvn_bd (c := c) (n := (j : Int)) b o (by omega) (by omega)
  have e2 : mvn files rows c (i : Int) = mvn files rows c (j : Int) := by omega
  have t1 := mvn_turn (c := c) (n := (i : Int)) b o (by omega) (by omega)
  have t2 := mvn_turn (c := c) (n := (j : Int)) b o (by omega) (by omega)
  rw [e2, t2] at t1
  omega
theorem moves_bd {files rows : Int} {c : Cl} (b : Bd files rows) (o : c.Ok files) : ∀ i : Nat, i < (movesL files rows [c]).length → ((movesL files rows [c]).getD i 0).toNat < (movesL files rows [c]).length := by
  intro i hi
  rw [moves_len] at hi ⊢
  rw [moves_at hi]
  have b1 := mvn_bd (c := c) (n := (i : Int)) b o (by omega) (by omega)
  omega
theorem step_len {files rows : Int} {c : Cl} {st : List Int} : (stepL files rows c st).length = (rows * files).toNat := by
  unfold stepL followL
  rw [fol_len, moves_len]
theorem step_get {files rows : Int} {c : Cl} {st : List Int} (b : Bd files rows) (o : c.Ok files) {i : Nat} (h : i < (rows * files).toNat) : (stepL files rows c st)[(mvn files rows c (i : Int)).toNat]? = some (st.getD i 0) := by
  have g := fol_get (st := st) (moves_inj b o) (moves_bd b o) _ (Nat.le_refl _) i (by rw [moves_len]; exact h)
  rw [moves_at h] at g
  exact g
theorem step_turn {files rows : Int} {c : Cl} {st : List Int} (b : Bd files rows) (o : c.Ok files) (hl : st.length = (rows * files).toNat) : stepL files rows c.turn (stepL files rows c st) = st := by
  refine List.ext_getElem? fun j => ?_
  by_cases hj : j < (rows * files).toNat
  · have b1 := mvn_bd (c := c) (n := (j : Int)) b o (by omega) (by omega)
    have t1 := mvn_turn (c := c) (n := (j : Int)) b o (by omega) (by omega)
    have g1 := step_get (st := st) b o hj
    have hk : (mvn files rows c (j : Int)).toNat < (rows * files).toNat := by omega
    have g2 := step_get (st := stepL files rows c st) b (turn_ok o) hk
    rw [Int.toNat_of_nonneg b1.1, t1, Int.toNat_natCast, List.getD_eq_getElem?_getD, g1] at g2
    rw [g2, List.getD_eq_getElem?_getD, List.getElem?_eq_getElem (by omega)]
    rfl
  · rw [List.getElem?_eq_none (by rw [step_len]; omega), List.getElem?_eq_none (by omega)]
theorem step_mem {files rows : Int} {c : Cl} {st : List Int} (b : Bd files rows) (o : c.Ok files) (hl : st.length = (rows * files).toNat) {x : Int} (h : x ∈ st) : x ∈ stepL files rows c st := by
  obtain ⟨i, hi, rfl⟩ := List.getElem_of_mem h
  have g := step_get (st := st) b o (i := i) (by omega)
  rw [List.getD_eq_getElem?_getD, List.getElem?_eq_getElem hi] at g
  exact List.mem_of_getElem? g
/-! ### a parade, plain -/
structure Pd where
  files : Int
  rows : Int
  done : List Cl
  undone : List Cl
  gone : List Int
def standL (files rows : Int) (cs : List Cl) : List Int := cs.foldl (fun st c => stepL files rows c st) (home (rows * files).toNat)
def Pd.st (d : Pd) : List Int := standL d.files d.rows d.done
structure Pd.Ok (d : Pd) : Prop where
  fr : d.files = 2 ∨ d.files = 3
  rr : 1 ≤ d.rows ∧ d.rows ≤ 100
  dn : ∀ c ∈ d.done, c.Ok d.files
  un : ∀ c ∈ d.undone, c.Ok d.files
  ld : d.done.length + d.undone.length ≤ 200
  gn : d.gone.Nodup
  gi : ∀ g ∈ d.gone, 0 ≤ g ∧ g < d.rows * d.files
  gl : d.gone.length ≤ 60
theorem Pd.Ok.bd {d : Pd} (o : d.Ok) : Bd d.files d.rows := by
  have h1 := o.fr
  have h2 := o.rr
  exact ⟨⟨by omega, by omega⟩, by omega, by omega⟩
theorem home_len {n : Nat} : (home n).length = n := by simp [home]
theorem stand_snoc {files rows : Int} {cs : List Cl} {c : Cl} : standL files rows (cs ++ [c]) = stepL files rows c (standL files rows cs) := by
  unfold standL
  rw [List.foldl_append]
  rfl
theorem stand_len {files rows : Int} {cs : List Cl} : (standL files rows cs).length = (rows * files).toNat := by
  rcases List.eq_nil_or_concat cs with rfl | ⟨ds, c, rfl⟩
  · exact home_len
  · rw [List.concat_eq_append, stand_snoc, step_len]
theorem stand_mem {files rows : Int} (b : Bd files rows) : ∀ (n : Nat) {cs : List Cl}, cs.length = n → (∀ c ∈ cs, c.Ok files) → ∀ x : Int, 0 ≤ x → x < rows * files → x ∈ standL files rows cs := by
  intro n
  induction n with
  | zero =>
    intro cs hn _ x h0 h1
    rw [List.length_eq_zero_iff.mp hn]
    refine List.mem_map.mpr ⟨x.toNat, List.mem_range.mpr (by omega), by omega⟩
  | succ n ih =>
    intro cs hn o x h0 h1
    rcases List.eq_nil_or_concat cs with rfl | ⟨ds, c, rfl⟩
    · cases hn
    · rw [List.concat_eq_append] at hn o ⊢
      rw [stand_snoc]
      exact step_mem b (o c (by simp)) stand_len (ih (by simpa using hn) (fun d hd => o d (by simp [hd])) x h0 h1)
def goneK (g : List Int) : List (Key × V) := g.map fun i => (Sum.inl i, V.bl true)
/-! ### in the heap -/
structure ParL (K : PySem.W.Frag) (H : Hp) (p t ls l1 l2 l3 m : Addr) (d : Pd) (as1 as2 : List Addr) (xs3 : List V) : Prop where
  nd : [p, t, ls, l1, l2, l3, m].Nodup
  ob : ∃ dp, H p = some (.ins (He.ga K "Parade") dp [("troop", .ref t), ("calls_done", .ref l1), ("calls_undone", .ref l2), ("stands", .ref l3), ("missing", .ref m)])
  ln : LineAt K H t ls d.files d.rows d.st
  o1 : H l1 = some (.lst (as1.map V.ref))
  c1 : CallsAt H as1 d.done
  o2 : H l2 = some (.lst (as2.map V.ref))
  c2 : CallsAt H as2 d.undone
  o3 : H l3 = some (.lst xs3)
  n3 : xs3.length = d.done.length + 1
  om : H m = some (.dK (goneK d.gone))
/-- the parade at p, its things at fp -/
def ParAt (K : PySem.W.Frag) (H : Hp) (p : Addr) (fp : List Addr) (d : Pd) : Prop := ∃ t ls l1 l2 l3 m as1 as2 xs3, fp = [p, t, ls, l1, l2, l3, m] ∧ ParL K H p t ls l1 l2 l3 m d as1 as2 xs3
theorem ParL.ex {K : PySem.W.Frag} {H H' : Hp} {p t ls l1 l2 l3 m : Addr} {d : Pd} {as1 as2 : List Addr} {xs3 : List V} (h : ParL K H p t ls l1 l2 l3 m d as1 as2 xs3) (e : Ex H H') : ParL K H' p t ls l1 l2 l3 m d as1 as2 xs3 := by
  obtain ⟨dp, ob⟩ := h.ob
  exact ⟨h.nd, ⟨dp, e _ _ ob⟩, h.ln.ex e, e _ _ h.o1, h.c1.ex e, e _ _ h.o2, h.c2.ex e, e _ _ h.o3, h.n3, e _ _ h.om⟩
theorem ParL.ext {K : PySem.W.Frag} {G : List Addr} {H H' : Hp} {p t ls l1 l2 l3 m : Addr} {d : Pd} {as1 as2 : List Addr} {xs3 : List V} (h : ParL K H p t ls l1 l2 l3 m d as1 as2 xs3) (e : Ext G H H') (n : ∀ b ∈ [p, t, ls, l1, l2, l3, m], b ∉ G) : ParL K H' p t ls l1 l2 l3 m d as1 as2 xs3 := by
  obtain ⟨dp, ob⟩ := h.ob
  exact ⟨h.nd, ⟨dp, e.keep _ _ ob (n _ (by simp))⟩, h.ln.ext e (n _ (by simp)) (n _ (by simp)), e.keep _ _ h.o1 (n _ (by simp)), h.c1.ext e, e.keep _ _ h.o2 (n _ (by simp)), h.c2.ext e, e.keep _ _ h.o3 (n _ (by simp)), h.n3, e.keep _ _ h.om (n _ (by simp))⟩
theorem ParAt.ext {K : PySem.W.Frag} {G : List Addr} {H H' : Hp} {p : Addr} {fp : List Addr} {d : Pd} (h : ParAt K H p fp d) (e : Ext G H H') (n : ∀ b ∈ fp, b ∉ G) : ParAt K H' p fp d := by
  obtain ⟨t, ls, l1, l2, l3, m, as1, as2, xs3, rfl, h⟩ := h
  exact ⟨t, ls, l1, l2, l3, m, as1, as2, xs3, rfl, h.ext e n⟩
theorem ParAt.ex {K : PySem.W.Frag} {H H' : Hp} {p : Addr} {fp : List Addr} {d : Pd} (h : ParAt K H p fp d) (e : Ex H H') : ParAt K H' p fp d := h.ext (exExt (G := []) e) fun _ _ z => nomatch z
theorem ParAt.live {K : PySem.W.Frag} {H : Hp} {p : Addr} {fp : List Addr} {d : Pd} (h : ParAt K H p fp d) : ∀ b ∈ fp, H b ≠ none := by
  obtain ⟨t, ls, l1, l2, l3, m, as1, as2, xs3, rfl, h⟩ := h
  obtain ⟨dp, ob⟩ := h.ob
  obtain ⟨dt, ol⟩ := h.ln.ob
  intro b hb
  simp only [List.mem_cons, List.not_mem_nil, or_false] at hb
  rcases hb with rfl | rfl | rfl | rfl | rfl | rfl | rfl
  · rw [ob]; simp
  · rw [ol]; simp
  · rw [h.ln.l]; simp
  · rw [h.o1]; simp
  · rw [h.o2]; simp
  · rw [h.o3]; simp
  · rw [h.om]; simp
end Pp
-- PpN
set_option maxRecDepth 100000
set_option maxHeartbeats 4000000
namespace Pp
open PySem PySem.Spec PyProof.Rows L2 Evl
section
variable {P : Program} {w : World} {K : PySem.W.Frag} {mg : Str → Option Value} {base : Heap} {H : Hp} {Q : VK} {E : XK}
theorem i_lenO {D a dx l : Addr} {fl : Str} {fs : List (Str × V)} {xs : List V} (h : H a = some (.ins D dx fs)) (hl : fs.lookup fl = some (.ref l)) (hx : H l = some (.lst xs)) (k : Q (.int xs.length) H) : rLenO D fl [.ref a] H Q := ⟨a, dx, l, fs, xs, rfl, h, hl, hx, k⟩
abbrev s_Parade_files : Stmt := inClass (top 52) 2
abbrev N_Parade_files : List Str := ["self"]
theorem sc_Parade_files : FnScope N_Parade_files ["self"] (defScope s_Parade_files) := ⟨rfl, rfl, rfl, by decide +kernel, rfl, by decide +kernel, by decide +kernel⟩
def sp_Parade_files (K : PySem.W.Frag) : Sp := fun vs H Q _ => ∃ (p dp t dt : Addr) (fs fs2 : List (Str × V)) (n : V), vs = [.ref p] ∧ H p = some (.ins (He.ga K "Parade") dp fs) ∧ fs.lookup ("troop" : Str) = some (.ref t) ∧ H t = some (.ins (He.ga K "Line") dt fs2) ∧ fs2.lookup ("width" : Str) = some n ∧ Q n H
theorem ok_Parade_files (T : Txt K mg w) {f : Addr} {fd : FuncData} (F : DefAt K "files" "Parade.files" s_Parade_files f fd) : FnOk P w K mg base CX0 3 f fd ["self"] (sp_Parade_files K) := by
  refine ok0 F sc_Parade_files (fun vs H Q E h => ?_) (fun cdv A outer s H vs Q E hr h => ?_)
  · walk_at "len"
  · obtain ⟨p, dp, t, dt, fs, fs2, n, rfl, h1, h2, h3, h4, kq⟩ := h
    refine ⟨_, (pss_one (ps_ret (pe_prp (pe_fld (pv 0) (by rfl)) (prp_Line_files T) hr))), ?_⟩
    walk_at "go"
    refine ⟨p, _, dp, fs, .ref t, rfl, h1, T.c_Parade, T.n_Parade_troop, h2, ?_⟩
    exact ⟨t, dt, fs2, rfl, h3, t, dt, fs2, n, rfl, h3, h4, kq⟩
theorem prp_Parade_files (T : Txt K mg w) : Prp P w K mg base 3 (He.ga K "Parade") "files" (sp_Parade_files K) := prpOf T.c_Parade T.p_Parade_files (fun _ _ F => ok_Parade_files T F) (fun _ _ _ _ _ _ us hl => match us, hl with | [_], _ => rfl)
theorem u_Parade_files {p dp t dt : Addr} {fs fs2 : List (Str × V)} {n : V} (h1 : H p = some (.ins (He.ga K "Parade") dp fs)) (h2 : fs.lookup ("troop" : Str) = some (.ref t)) (h3 : H t = some (.ins (He.ga K "Line") dt fs2)) (h4 : fs2.lookup ("width" : Str) = some n) (k : Q n H) : sp_Parade_files K [.ref p] H Q E := ⟨p, dp, t, dt, fs, fs2, n, rfl, h1, h2, h3, h4, k⟩
abbrev s_Parade_rows : Stmt := inClass (top 52) 3
abbrev N_Parade_rows : List Str := ["self"]
theorem sc_Parade_rows : FnScope N_Parade_rows ["self"] (defScope s_Parade_rows) := ⟨rfl, rfl, rfl, by decide +kernel, rfl, by decide +kernel, by decide +kernel⟩
def sp_Parade_rows (K : PySem.W.Frag) : Sp := fun vs H Q _ => ∃ (p dp t dt : Addr) (fs fs2 : List (Str × V)) (n : V), vs = [.ref p] ∧ H p = some (.ins (He.ga K "Parade") dp fs) ∧ fs.lookup ("troop" : Str) = some (.ref t) ∧ H t = some (.ins (He.ga K "Line") dt fs2) ∧ fs2.lookup ("deep" : Str) = some n ∧ Q n H
theorem ok_Parade_rows (T : Txt K mg w) {f : Addr} {fd : FuncData} (F : DefAt K "rows" "Parade.rows" s_Parade_rows f fd) : FnOk P w K mg base CX0 3 f fd ["self"] (sp_Parade_rows K) := by
  refine ok0 F sc_Parade_rows (fun vs H Q E h => ?_) (fun cdv A outer s H vs Q E hr h => ?_)
  · walk_at "len"
  · obtain ⟨p, dp, t, dt, fs, fs2, n, rfl, h1, h2, h3, h4, kq⟩ := h
    refine ⟨_, (pss_one (ps_ret (pe_prp (pe_fld (pv 0) (by rfl)) (prp_Line_rows T) hr))), ?_⟩
    walk_at "go"
    refine ⟨p, _, dp, fs, .ref t, rfl, h1, T.c_Parade, T.n_Parade_troop, h2, ?_⟩
    exact ⟨t, dt, fs2, rfl, h3, t, dt, fs2, n, rfl, h3, h4, kq⟩
theorem prp_Parade_rows (T : Txt K mg w) : Prp P w K mg base 3 (He.ga K "Parade") "rows" (sp_Parade_rows K) := prpOf T.c_Parade T.p_Parade_rows (fun _ _ F => ok_Parade_rows T F) (fun _ _ _ _ _ _ us hl => match us, hl with | [_], _ => rfl)
theorem u_Parade_rows {p dp t dt : Addr} {fs fs2 : List (Str × V)} {n : V} (h1 : H p = some (.ins (He.ga K "Parade") dp fs)) (h2 : fs.lookup ("troop" : Str) = some (.ref t)) (h3 : H t = some (.ins (He.ga K "Line") dt fs2)) (h4 : fs2.lookup ("deep" : Str) = some n) (k : Q n H) : sp_Parade_rows K [.ref p] H Q E := ⟨p, dp, t, dt, fs, fs2, n, rfl, h1, h2, h3, h4, k⟩
abbrev s_Parade_check_call : Stmt := inClass (top 52) 4
abbrev N_Parade_check_call : List Str := ["self", "call"]
theorem sc_Parade_check_call : FnScope N_Parade_check_call ["self", "call"] (defScope s_Parade_check_call) := ⟨rfl, rfl, rfl, by decide +kernel, rfl, by decide +kernel, by decide +kernel⟩
def sp_Parade_check_call (K : PySem.W.Frag) : Sp := fun vs H Q E => ∃ (p aC : Addr) (fp : List Addr) (d : Pd) (c : Cl), vs = [.ref p, .ref aC] ∧ ParAt K H p fp d ∧ H aC = some (.tup c.vs) ∧
  (c.Ok d.files ∧ szOf c ≤ 16 → RetV .non H Q) ∧ (¬ (c.Ok d.files ∧ szOf c ≤ 16) → ∀ x H', Ex H H' → E (.ref (He.ga K "NoCall")) x H')
theorem ok_Parade_check_call (T : Txt K mg w) (U : TxtX P K mg) {f : Addr} {fd : FuncData} (F : DefAt K "check_call" "Parade.check_call" s_Parade_check_call f fd) : FnOk P w K mg base (L2.CX P w) 5 f fd ["self", "call"] (sp_Parade_check_call K) := by
  refine okX F sc_Parade_check_call (fun vs H Q E h => ?_) (fun cdv A outer s H vs Q E hr h => ?_)
  · walk_at "len"
  · obtain ⟨p, aC, fp, d, c, rfl, hP, hc, k1, k2⟩ := h
    obtain ⟨t, ls, l1, l2, l3, m, as1, as2, xs3, rfl, hL⟩ := hP
    obtain ⟨dp, hob⟩ := hL.ob
    obtain ⟨dt, htr⟩ := hL.ln.ob
    refine ⟨_, (pss_one (ps_if (PW.pt (pw_or (pt_not (pt_val (pe_cal (cal_is_call T) hr px0 (pa_cons (pe_prp (pv 0) (prp_Parade_files T) hr) (pa_cons (pv 1) pa_nil))))) (pw_or1 (pt_cmpR op_gt (pe_cal (cal_size_of T) hr px0 (pa_cons (pv 1) pa_nil)) (pe_gc (by rfl) T.i_MOST_SIZE) (nomark _))))) (pss_one (ps_raise rfl (takes_of rfl rfl rfl rfl) (pmk_sup U.x_NoCall S_NoCall hr (pa_cons (pv 1) pa_nil)))) pss_nil)), ?_⟩
    walk_at "go"
    refine u_is_callC hc fun H2 e => ?_
    walk_at "go"
    by_cases ho : c.Ok d.files
    · refine i_f (by rw [isCall_ok.mpr ho]; rfl) ?_
      walk_at "go"
      refine u_size_of (by walk_at "tx") fun H3 e3 => ?_
      walk_at "go"
      refine i_dec (fun h => ?_) (fun h => ?_) <;> walk_at "go"
      · exact k2 (fun z => by omega) _ _ (by walk_at "ex")
      · exact k1 ⟨ho, by omega⟩ _ (by walk_at "ex")
    · refine i_t (by rw [Bool.eq_false_iff.mpr (fun z => ho (isCall_ok.mp z))]; rfl) ?_
      walk_at "go"
      exact k2 (fun z => ho z.1) _ _ (by walk_at "ex")
theorem met_Parade_check_call (T : Txt K mg w) (U : TxtX P K mg) : Met P w K mg base (L2.CX P w) 5 (He.ga K "Parade") "check_call" (sp_Parade_check_call K) := metOf T.c_Parade T.a_Parade_check_call T.d_Parade_check_call (fun _ F => ok_Parade_check_call T U F) (fun _ _ _ _ _ _ us hl => match us, hl with | [_, _], _ => rfl)
abbrev s_Parade_check_pupil : Stmt := inClass (top 52) 5
abbrev N_Parade_check_pupil : List Str := ["self", "pupil"]
theorem sc_Parade_check_pupil : FnScope N_Parade_check_pupil ["self", "pupil"] (defScope s_Parade_check_pupil) := ⟨rfl, rfl, rfl, by decide +kernel, rfl, by decide +kernel, by decide +kernel⟩
def sp_Parade_check_pupil (K : PySem.W.Frag) : Sp := fun vs H Q E => ∃ (p : Addr) (fp : List Addr) (d : Pd) (n : Int), vs = [.ref p, .int n] ∧ ParAt K H p fp d ∧ (0 ≤ d.rows * d.files) ∧
  (0 ≤ n ∧ n < d.rows * d.files → RetV .non H Q) ∧ (¬ (0 ≤ n ∧ n < d.rows * d.files) → ∀ x H', Ex H H' → E (.ref (He.ga K "NoPupil")) x H')
theorem ok_Parade_check_pupil (T : Txt K mg w) (U : TxtX P K mg) {f : Addr} {fd : FuncData} (F : DefAt K "check_pupil" "Parade.check_pupil" s_Parade_check_pupil f fd) : FnOk P w K mg base (L2.CX P w) 3 f fd ["self", "pupil"] (sp_Parade_check_pupil K) := by
  refine okX F sc_Parade_check_pupil (fun vs H Q E h => ?_) (fun cdv A outer s H vs Q E hr h => ?_)
  · walk_at "len"
  · obtain ⟨p, fp, d, n, rfl, hP, h0, k1, k2⟩ := h
    obtain ⟨t, ls, l1, l2, l3, m, as1, as2, xs3, rfl, hL⟩ := hP
    obtain ⟨dp, hob⟩ := hL.ob
    obtain ⟨dt, htr⟩ := hL.ln.ob
    have hst := hL.ln.l
    have hlen : (((d.st.map V.int).length : Nat) : Int) = d.rows * d.files := by
      rw [List.length_map]
      unfold Pd.st
      rw [stand_len]
      omega
    refine ⟨_, (pss_one (ps_if (pt_not (pt_val (pe_cal (cal_is_index T) hr px0 (pa_cons (pv 1) (pa_cons (pe_callB (cr_lenOwn (len_Line T) hr) (by rfl) T.b_len PySem.boot_len (pa_cons (pe_fld (pv 0) (by rfl)) pa_nil)) pa_nil))))) (pss_one (ps_raise rfl (takes_of rfl rfl rfl rfl) (pmk_sup U.x_NoPupil S_NoPupil hr (pa_cons (pv 1) pa_nil)))) pss_nil)), ?_⟩
    walk_at "go"
    rw [hlen]
    by_cases hv : 0 ≤ n ∧ n < d.rows * d.files
    · refine i_f (by rw [decide_eq_true hv]; rfl) ?_
      walk_at "go"
      exact k1 hv _ (by walk_at "ex")
    · refine i_t (by rw [decide_eq_false hv]; rfl) ?_
      walk_at "go"
      exact k2 hv _ _ (by walk_at "ex")
theorem met_Parade_check_pupil (T : Txt K mg w) (U : TxtX P K mg) : Met P w K mg base (L2.CX P w) 3 (He.ga K "Parade") "check_pupil" (sp_Parade_check_pupil K) := metOf T.c_Parade T.a_Parade_check_pupil T.d_Parade_check_pupil (fun _ F => ok_Parade_check_pupil T U F) (fun _ _ _ _ _ _ us hl => match us, hl with | [_, _], _ => rfl)
abbrev s_Parade_done : Stmt := inClass (top 52) 10
abbrev N_Parade_done : List Str := ["self"]
theorem sc_Parade_done : FnScope N_Parade_done ["self"] (defScope s_Parade_done) := ⟨rfl, rfl, rfl, by decide +kernel, rfl, by decide +kernel, by decide +kernel⟩
def sp_Parade_done (K : PySem.W.Frag) : Sp := fun vs H Q _ => ∃ (p : Addr) (fp : List Addr) (d : Pd), vs = [.ref p] ∧ ParAt K H p fp d ∧ ∀ l (as : List Addr) H', Ex H H' → H l = none → CallsAt H as d.done → H' l = some (.lst (as.map V.ref)) → Q (.ref l) H'
theorem ok_Parade_done (T : Txt K mg w) {f : Addr} {fd : FuncData} (F : DefAt K "done" "Parade.done" s_Parade_done f fd) : FnOk P w K mg base CX0 1 f fd ["self"] (sp_Parade_done K) := by
  refine ok0 F sc_Parade_done (fun vs H Q E h => ?_) (fun cdv A outer s H vs Q E hr h => ?_)
  · walk_at "len"
  · obtain ⟨p, fp, d, rfl, hP, kq⟩ := h
    obtain ⟨t, ls, l1, l2, l3, m, as1, as2, xs3, rfl, hL⟩ := hP
    obtain ⟨dp, hob⟩ := hL.ob
    have ho1 := hL.o1
    refine ⟨_, (pss_one (ps_ret (pe_callTy cr_list (by rfl) T.b_list (by decide +kernel) (pa_cons (pe_fld (pv 0) (by rfl)) pa_nil)))), ?_⟩
    walk_at "go"
    exact kq _ as1 _ e (by assumption) hL.c1 g
theorem met_Parade_done (T : Txt K mg w) : Met P w K mg base CX0 1 (He.ga K "Parade") "done" (sp_Parade_done K) := metOf T.c_Parade T.a_Parade_done T.d_Parade_done (fun _ F => ok_Parade_done T F) (fun _ _ _ _ _ _ us hl => match us, hl with | [_], _ => rfl)
abbrev s_Parade_away : Stmt := inClass (top 52) 15
abbrev N_Parade_away : List Str := ["self"]
theorem sc_Parade_away : FnScope N_Parade_away ["self"] (defScope s_Parade_away) := ⟨rfl, rfl, rfl, by decide +kernel, rfl, by decide +kernel, by decide +kernel⟩
def sp_Parade_away (K : PySem.W.Frag) : Sp := fun vs H Q _ => ∃ (p : Addr) (fp : List Addr) (d : Pd), vs = [.ref p] ∧ ParAt K H p fp d ∧ d.gone.length ≤ 60 ∧ ∀ l (ns : List Int) H', Ex H H' → H l = none → ns.Perm d.gone → ns.Pairwise (· ≤ ·) → H' l = some (.lst (ns.map V.int)) → Q (.ref l) H'
theorem ok_Parade_away (T : Txt K mg w) {f : Addr} {fd : FuncData} (F : DefAt K "away" "Parade.away" s_Parade_away f fd) : FnOk P w K mg base CX0 1 f fd ["self"] (sp_Parade_away K) := by
  refine ok0 F sc_Parade_away (fun vs H Q E h => ?_) (fun cdv A outer s H vs Q E hr h => ?_)
  · walk_at "len"
  · obtain ⟨p, fp, d, rfl, hP, hl, kq⟩ := h
    obtain ⟨t, ls, l1, l2, l3, m, as1, as2, xs3, rfl, hL⟩ := hP
    obtain ⟨dp, hob⟩ := hL.ob
    have hm := hL.om
    refine ⟨_, (pss_one (ps_ret (pe_callB (cr_sorD rfl) (by rfl) T.b_sorted (by decide +kernel) (pa_cons (pe_fld (pv 0) (by rfl)) pa_nil)))), ?_⟩
    walk_at "go"
    refine ⟨m, _, d.gone, rfl, Rd.of hm, by simp [goneK], by omega, fun ns l hp hs hn => ?_⟩
    exact kq l ns _ (Ex.new hn) hn hp hs upd_same
theorem met_Parade_away (T : Txt K mg w) : Met P w K mg base CX0 1 (He.ga K "Parade") "away" (sp_Parade_away K) := metOf T.c_Parade T.a_Parade_away T.d_Parade_away (fun _ F => ok_Parade_away T F) (fun _ _ _ _ _ _ us hl => match us, hl with | [_], _ => rfl)
end
end Pp
-- PpO
set_option maxRecDepth 100000
set_option maxHeartbeats 4000000
namespace Pp
open PySem PySem.Spec PyProof.Rows L2 Evl
section
variable {P : Program} {w : World} {K : PySem.W.Frag} {mg : Str → Option Value} {base : Heap} {H : Hp} {Q : VK} {E : XK}
theorem u_Line_do {t ls aC : Addr} {files rows : Int} {st : List Int} {c : Cl} (h1 : LineAt K H t ls files rows st) (h2 : H aC = some (.tup c.vs)) (h3 : c.Ok files) (h4 : files = 2 ∨ files = 3) (h5 : Bd files rows) (h6 : st.length = (rows * files).toNat)
    (k : ∀ ls' H', Ext [t] H H' → H ls' = none → LineAt K H' t ls' files rows (stepL files rows c st) → Q .non H') : sp_Line_do K [.ref t, .ref aC] H Q E := ⟨t, ls, aC, files, rows, st, c, rfl, h1, h2, h3, h4, h5, h6, k⟩
abbrev s_Parade_advance : Stmt := inClass (top 52) 6
abbrev N_Parade_advance : List Str := ["self", "call"]
theorem sc_Parade_advance : FnScope N_Parade_advance ["self", "call"] (defScope s_Parade_advance) := ⟨rfl, rfl, rfl, by decide +kernel, rfl, by decide +kernel, by decide +kernel⟩
def sp_Parade_advance (K : PySem.W.Frag) : Sp := fun vs H Q _ => ∃ (p aC : Addr) (fp : List Addr) (d : Pd) (c : Cl), vs = [.ref p, .ref aC] ∧ ParAt K H p fp d ∧ H aC = some (.tup c.vs) ∧ c.Ok d.files ∧ (d.files = 2 ∨ d.files = 3) ∧ Bd d.files d.rows ∧ d.done.length < 5000 ∧
  ∀ fp' H', Ext fp H H' → (∀ b ∈ fp', b ∈ fp ∨ H b = none) → ParAt K H' p fp' { d with done := d.done ++ [c] } → Q .non H'
theorem ok_Parade_advance (T : Txt K mg w) {f : Addr} {fd : FuncData} (F : DefAt K "advance" "Parade.advance" s_Parade_advance f fd) : FnOk P w K mg base CX0 8 f fd ["self", "call"] (sp_Parade_advance K) := by
  refine ok0 F sc_Parade_advance (fun vs H Q E h => ?_) (fun cdv A outer s H vs Q E hr h => ?_)
  · walk_at "len"
  · obtain ⟨p, aC, fp, d, c, rfl, hP, hc, hok, hf, hb, hlen, kq⟩ := h
    obtain ⟨t, ls, l1, l2, l3, m, as1, as2, xs3, rfl, hL⟩ := hP
    obtain ⟨dp, hob⟩ := hL.ob
    obtain ⟨dt, htr⟩ := hL.ln.ob
    have hnd := hL.nd
    have hca := hL.c1.len
    refine ⟨_, (pss_cons (ps_expr (pe_met (met_Line_do T) hr px0 (pe_fld (pv 0) (by rfl)) (pa_cons (pv 1) pa_nil)))
  (pss_cons (ps_expr (pe_bm PySem.F.plainAttrs_list PySem.F.slot_list_append PySem.F.type_list_append mt_append (pe_fld (pv 0) (by rfl)) (pa_cons (pv 1) pa_nil)))
  (pss_one (ps_expr (pe_bm PySem.F.plainAttrs_list PySem.F.slot_list_append PySem.F.type_list_append mt_append (pe_fld (pv 0) (by rfl)) (pa_cons (pe_met0 (met_Line_order T) hr px0 (pe_fld (pv 0) (by rfl))) pa_nil)))))), ?_⟩
    walk_at "go"
    refine u_Line_do hL.ln hc hok hf hb (by unfold Pd.st; exact stand_len) fun ls' H1 x1 hn1 hl1 => ?_
    have hob1 := x1.keep _ _ hob (by walk_at "nm")
    have o11 := x1.keep _ _ hL.o1 (by walk_at "nm")
    have o31 := x1.keep _ _ hL.o3 (by walk_at "nm")
    walk_at "go"
    refine i_app o11 (by rw [List.length_map]; omega) ?_
    refine i_wr o11 (by intro _ z; cases z) fun H2 x2 g2 k2 => ?_
    obtain ⟨⟨dt1, htr1⟩, hls1⟩ := hl1
    have hob2 := k2 _ _ (by walk_at "nm") hob1
    have htr2 := k2 _ _ (by walk_at "nm") htr1
    have hls2 := k2 _ _ (ne_of_none hL.o1 hn1).symm hls1
    have o32 := k2 _ _ (by walk_at "nm") o31
    walk_at "go"
    refine u_Line_order ⟨⟨dt1, htr2⟩, hls2⟩ fun lo H3 e3 hlo g3 => ?_
    walk_at "go"
    refine i_app (e3 _ _ o32) (by have := hL.n3; omega) ?_
    refine i_wr (e3 _ _ o32) (by intro _ z; cases z) fun H4 x4 g4 k4 => ?_
    have E1 : Ext [p, t, ls, l1, l2, l3, m] H H4 := (((ext_nil x1 (by simp)).trans (ext_nil x2 (by simp))).xl e3).trans (ext_nil x4 (by simp))
    have np : p ≠ ls' := ne_of_none hob hn1
    have nt : t ≠ ls' := ne_of_none htr hn1
    have n1 : l1 ≠ ls' := ne_of_none hL.o1 hn1
    have n2 : l2 ≠ ls' := ne_of_none hL.o2 hn1
    have n3 : l3 ≠ ls' := ne_of_none hL.o3 hn1
    have nm : m ≠ ls' := ne_of_none hL.om hn1
    refine kq [p, t, ls', l1, l2, l3, m] H4 E1 (fun b hb' => ?_) ⟨t, ls', l1, l2, l3, m, as1 ++ [aC], as2, xs3 ++ [.ref lo], rfl, ?_⟩
    · simp only [List.mem_cons, List.not_mem_nil, or_false] at hb' ⊢
      rcases hb' with rfl | rfl | rfl | rfl | rfl | rfl | rfl <;> first | exact .inr hn1 | (left; simp)
    · have c1 : CallsAt H4 as1 d.done := hL.c1.ext E1
      refine ⟨by grind, ⟨dp, k4 _ _ (by walk_at "nm") (e3 _ _ hob2)⟩, ⟨⟨dt1, k4 _ _ (by walk_at "nm") (e3 _ _ htr2)⟩, ?_⟩, ?_, ?_, ?_, hL.c2.ext E1, g4, by simp [hL.n3], ?_⟩
      · rw [k4 _ _ (Ne.symm n3) (e3 _ _ hls2)]
        unfold Pd.st
        simp only
        rw [stand_snoc]
      · rw [k4 _ _ (by walk_at "nm") (e3 _ _ g2)]
        simp
      · exact CallsAt.snoc c1 (E1.tup _ _ hc)
      · exact k4 _ _ (by walk_at "nm") (e3 _ _ (k2 _ _ (by walk_at "nm") (x1.keep _ _ hL.o2 (by walk_at "nm"))))
      · exact k4 _ _ (by walk_at "nm") (e3 _ _ (k2 _ _ (by walk_at "nm") (x1.keep _ _ hL.om (by walk_at "nm"))))
theorem met_Parade_advance (T : Txt K mg w) : Met P w K mg base CX0 8 (He.ga K "Parade") "advance" (sp_Parade_advance K) := metOf T.c_Parade T.a_Parade_advance T.d_Parade_advance (fun _ F => ok_Parade_advance T F) (fun _ _ _ _ _ _ us hl => match us, hl with | [_, _], _ => rfl)
theorem u_Parade_advance {p aC : Addr} {fp : List Addr} {d : Pd} {c : Cl} (h1 : ParAt K H p fp d) (h2 : H aC = some (.tup c.vs)) (h3 : c.Ok d.files) (h4 : d.files = 2 ∨ d.files = 3) (h5 : Bd d.files d.rows) (h6 : d.done.length < 5000)
    (k : ∀ fp' H', Ext fp H H' → (∀ b ∈ fp', b ∈ fp ∨ H b = none) → ParAt K H' p fp' { d with done := d.done ++ [c] } → Q .non H') : sp_Parade_advance K [.ref p, .ref aC] H Q E := ⟨p, aC, fp, d, c, rfl, h1, h2, h3, h4, h5, h6, k⟩
end
end Pp
-- PpS
set_option maxRecDepth 100000
set_option maxHeartbeats 4000000
namespace Pp
open PySem PySem.Spec PyProof.Rows L2 Evl
/-- the classes that the desk catches -/
def Rf (K : PySem.W.Frag) (cls : Value) : Prop := cls = .ref (He.ga K "Wrong") ∨ cls = .ref (He.ga K "NoCall") ∨ cls = .ref (He.ga K "NoPupil") ∨ cls = .ref (He.ga K "Away") ∨ cls = .ref (He.ga K "There") ∨ cls = .ref (He.ga K "Full") ∨ cls = .ref (He.ga K "Nothing")
def Ref (K : PySem.W.Frag) (H : Hp) (E : XK) : Prop := ∀ cls x H', Rf K cls → Ex H H' → E cls x H'
section
variable {P : Program} {w : World} {K : PySem.W.Frag} {mg : Str → Option Value} {base : Heap} {H : Hp} {Q : VK} {E : XK}
theorem u_check_call {p aC : Addr} {fp : List Addr} {d : Pd} {c : Cl} (h1 : ParAt K H p fp d) (h2 : H aC = some (.tup c.vs)) (k1 : c.Ok d.files ∧ szOf c ≤ 16 → RetV .non H Q) (k2 : ¬ (c.Ok d.files ∧ szOf c ≤ 16) → Ref K H E) : sp_Parade_check_call K [.ref p, .ref aC] H Q E :=
  ⟨p, aC, fp, d, c, rfl, h1, h2, k1, fun n x H' e => k2 n _ x H' (.inr (.inl rfl)) e⟩
theorem u_check_pupil {p : Addr} {fp : List Addr} {d : Pd} {n : Int} (h1 : ParAt K H p fp d) (h2 : 0 ≤ d.rows * d.files) (k1 : 0 ≤ n ∧ n < d.rows * d.files → RetV .non H Q) (k2 : ¬ (0 ≤ n ∧ n < d.rows * d.files) → Ref K H E) : sp_Parade_check_pupil K [.ref p, .int n] H Q E :=
  ⟨p, fp, d, n, rfl, h1, h2, k1, fun m x H' e => k2 m _ x H' (.inr (.inr (.inl rfl))) e⟩
theorem Ext.widen {G G2 : List Addr} {H H3 H4 : Hp} (e : Ext G H H3) (f : Ext G2 H3 H4) (n : ∀ b ∈ G2, b ∈ G ∨ H b = none) : Ext G H H4 :=
  ⟨fun b o h m => f.keep b o (e.keep b o h m) fun z => (n b z).elim m fun q => (by rw [q] at h; cases h), fun b xs h => f.tup b xs (e.tup b xs h), fun b h => e.live b (f.live b h)⟩
theorem fr_trans {G G2 G3 : List Addr} {H H3 : Hp} (e : Ext G H H3) (n : ∀ b ∈ G2, b ∈ G ∨ H b = none) (n2 : ∀ b ∈ G3, b ∈ G2 ∨ H3 b = none) : ∀ b ∈ G3, b ∈ G ∨ H b = none := fun b hb => (n2 b hb).elim (n b) fun q => .inr (e.live b q)
theorem CallsAt.unsnoc {H : Hp} {c : Cl} : ∀ {as : List Addr} {cs : List Cl}, CallsAt H as (cs ++ [c]) → ∃ bs b, as = bs ++ [b] ∧ CallsAt H bs cs ∧ H b = some (.tup c.vs)
  | [], [], h => nomatch h
  | [], _ :: _, h => nomatch h
  | [a], [], .cons r .nil => ⟨[], a, rfl, .nil, r⟩
  | _ :: _ :: _, [], .cons _ t => nomatch t
  | a :: as, d :: cs, .cons r t => by
    obtain ⟨bs, b, h1, h2, h3⟩ := CallsAt.unsnoc (as := as) (cs := cs) t
    exact ⟨a :: bs, b, by rw [h1]; rfl, .cons r h2, h3⟩
abbrev s_Parade_do : Stmt := inClass (top 52) 7
abbrev N_Parade_do : List Str := ["self", "call"]
theorem sc_Parade_do : FnScope N_Parade_do ["self", "call"] (defScope s_Parade_do) := ⟨rfl, rfl, rfl, by decide +kernel, rfl, by decide +kernel, by decide +kernel⟩
def sp_Parade_do (K : PySem.W.Frag) : Sp := fun vs H Q E => ∃ (pP aC : Addr) (fp : List Addr) (d : Pd) (c : Cl), vs = [.ref pP, .ref aC] ∧ ParAt K H pP fp d ∧ d.Ok ∧ H aC = some (.tup c.vs) ∧
  ((c.Ok d.files ∧ szOf c ≤ 16) ∧ d.done.length < 200 → ∀ fp' H', Ext fp H H' → (∀ b ∈ fp', b ∈ fp ∨ H b = none) → ParAt K H' pP fp' { d with done := d.done ++ [c], undone := [] } → Q .non H') ∧
  (¬ ((c.Ok d.files ∧ szOf c ≤ 16) ∧ d.done.length < 200) → Ref K H E)
theorem ok_Parade_do (T : Txt K mg w) (U : TxtX P K mg) {f : Addr} {fd : FuncData} (F : DefAt K "do" "Parade.do" s_Parade_do f fd) : FnOk P w K mg base (L2.CX P w) 9 f fd ["self", "call"] (sp_Parade_do K) := by
  refine okX F sc_Parade_do (fun vs H Q E h => ?_) (fun cdv A outer s H vs Q E hr h => ?_)
  · walk_at "len"
  · obtain ⟨pP, aC, fp, d, c, rfl, hP, hO, hc, k1, k2⟩ := h
    have hP0 := hP
    obtain ⟨t, ls, l1, l2, l3, m, as1, as2, xs3, rfl, hL⟩ := hP
    obtain ⟨dp, hob⟩ := hL.ob
    obtain ⟨dt, htr⟩ := hL.ln.ob
    have hnd := hL.nd
    have ho1 := hL.o1
    refine ⟨_, (pss_cons (ps_expr (pe_met (met_Parade_check_call T U) hr (pxE (passes_call (takes_of rfl rfl rfl rfl) fun _ _ _ _ h => h)) (pv 0) (pa_cons (pv 1) pa_nil)))
  (pss_cons (ps_if (pt_cmpR op_ge (pe_callB cr_len (by rfl) T.b_len PySem.boot_len (pa_cons (pe_fld (pv 0) (by rfl)) pa_nil)) (pe_gc (by rfl) T.i_MOST_CALLS) (nomark _)) (pss_one (ps_raise rfl (takes_of rfl rfl rfl rfl) (pmk_sup U.x_Full S_Full hr (pa_cons (pe_gc (by rfl) T.i_MOST_CALLS) pa_nil)))) pss_nil)
  (pss_cons (ps_fld (pv 0) (pe_lst pa_nil) rfl)
  (pss_one (ps_expr (pe_met (met_Parade_advance T) hr px0 (pv 0) (pa_cons (pv 1) pa_nil))))))), ?_⟩
    walk_at "go"
    refine u_check_call hP0 hc (fun hv H1 e1 => ?_) (fun hv => k2 fun z => hv z.1)
    walk_at "go"
    rw [List.length_map, hL.c1.len]
    refine i_dec (fun h => ?_) (fun h => ?_)
    · walk_at "go"
      exact k2 (fun z => by omega) _ _ _ (.inr (.inr (.inr (.inr (.inr (.inl rfl)))))) (by walk_at "ex")
    · have hlt : d.done.length < 200 := by omega
      walk_at "go"
      have e2 : Ex H H2 := by walk_at "ex"
      have pn : H p = none := fresh_back e1 hp
      refine i_put (e2 _ _ hob) T.c_Parade T.n_Parade_calls_undone (by simp) fun H3 x3 g3 k3 => ?_
      have q1 : pP ≠ p := ne_of_none hob pn
      have q2 : t ≠ p := ne_of_none htr pn
      have q3 : ls ≠ p := ne_of_none hL.ln.l pn
      have q4 : l1 ≠ p := ne_of_none ho1 pn
      have q5 : l3 ≠ p := ne_of_none hL.o3 pn
      have q6 : m ≠ p := ne_of_none hL.om pn
      have E3 : Ext [pP, t, ls, l1, l2, l3, m] H H3 := Ext.xr e2 (ext_nil x3 (by simp))
      have P3 : ParL K H3 pP t ls l1 p l3 m { d with undone := [] } as1 [] xs3 :=
        ⟨by grind, ⟨dp, g3⟩, ⟨⟨dt, k3 _ _ (by walk_at "nm") (e2 _ _ htr)⟩, k3 _ _ (by walk_at "nm") (e2 _ _ hL.ln.l)⟩, k3 _ _ (by walk_at "nm") (e2 _ _ ho1), hL.c1.ext E3, k3 _ _ (Ne.symm q1) g, .nil, k3 _ _ (by walk_at "nm") (e2 _ _ hL.o3), hL.n3, k3 _ _ (by walk_at "nm") (e2 _ _ hL.om)⟩
      have n3 : ∀ b ∈ [pP, t, ls, l1, p, l3, m], b ∈ [pP, t, ls, l1, l2, l3, m] ∨ H b = none := by
        intro b hb
        simp only [List.mem_cons, List.not_mem_nil, or_false] at hb ⊢
        rcases hb with rfl | rfl | rfl | rfl | rfl | rfl | rfl <;> first | exact .inr pn | (left; simp)
      walk_at "go"
      refine u_Parade_advance ⟨t, ls, l1, p, l3, m, as1, [], xs3, rfl, P3⟩ (E3.tup _ _ hc) hv.1 hO.fr hO.bd (by show d.done.length < 5000; omega) fun fp4 H4 E4 n4 P4 => ?_
      walk_at "go"
      exact k1 ⟨hv, hlt⟩ fp4 H4 (E3.widen E4 n3) (fr_trans E3 n3 n4) P4
theorem met_Parade_do (T : Txt K mg w) (U : TxtX P K mg) : Met P w K mg base (L2.CX P w) 9 (He.ga K "Parade") "do" (sp_Parade_do K) := metOf T.c_Parade T.a_Parade_do T.d_Parade_do (fun _ F => ok_Parade_do T U F) (fun _ _ _ _ _ _ us hl => match us, hl with | [_, _], _ => rfl)
theorem u_Parade_do {pP aC : Addr} {fp : List Addr} {d : Pd} {c : Cl} (h1 : ParAt K H pP fp d) (h2 : d.Ok) (h3 : H aC = some (.tup c.vs))
    (k1 : (c.Ok d.files ∧ szOf c ≤ 16) ∧ d.done.length < 200 → ∀ fp' H', Ext fp H H' → (∀ b ∈ fp', b ∈ fp ∨ H b = none) → ParAt K H' pP fp' { d with done := d.done ++ [c], undone := [] } → Q .non H')
    (k2 : ¬ ((c.Ok d.files ∧ szOf c ≤ 16) ∧ d.done.length < 200) → Ref K H E) : sp_Parade_do K [.ref pP, .ref aC] H Q E := ⟨pP, aC, fp, d, c, rfl, h1, h2, h3, k1, k2⟩
abbrev s_Parade_again : Stmt := inClass (top 52) 9
abbrev N_Parade_again : List Str := ["self", "call"]
theorem sc_Parade_again : FnScope N_Parade_again ["self"] (defScope s_Parade_again) := ⟨rfl, rfl, rfl, by decide +kernel, rfl, by decide +kernel, by decide +kernel⟩
def sp_Parade_again (K : PySem.W.Frag) : Sp := fun vs H Q E => ∃ (pP : Addr) (fp : List Addr) (d : Pd), vs = [.ref pP] ∧ ParAt K H pP fp d ∧ d.Ok ∧
  (∀ cs c, d.undone = cs ++ [c] → ∀ fp' aC H', Ext fp H H' → (∀ b ∈ fp', b ∈ fp ∨ H b = none) → ParAt K H' pP fp' { d with done := d.done ++ [c], undone := cs } → H' aC = some (.tup c.vs) → Q (.ref aC) H') ∧
  (d.undone = [] → Ref K H E)
theorem ok_Parade_again (T : Txt K mg w) (U : TxtX P K mg) {f : Addr} {fd : FuncData} (F : DefAt K "again" "Parade.again" s_Parade_again f fd) : FnOk P w K mg base (L2.CX P w) 9 f fd ["self"] (sp_Parade_again K) := by
  refine okX F sc_Parade_again (fun vs H Q E h => ?_) (fun cdv A outer s H vs Q E hr h => ?_)
  · walk_at "len"
  · obtain ⟨pP, fp, d, rfl, hP, hO, k1, k2⟩ := h
    have hP0 := hP
    obtain ⟨t, ls, l1, l2, l3, m, as1, as2, xs3, rfl, hL⟩ := hP
    obtain ⟨dp, hob⟩ := hL.ob
    obtain ⟨dt, htr⟩ := hL.ln.ob
    have hnd := hL.nd
    have ho2 := hL.o2
    refine ⟨_, (pss_cons (ps_if (pt_cmpR (op_eqD hr.units) (pe_fld (pv 0) (by rfl)) (pe_lst pa_nil) (nomark _)) (pss_one (ps_raise rfl (takes_of rfl rfl rfl rfl) (pmk_own0 PySem.F.excBase_ValueError U.x_Nothing.q U.x_Nothing.g U.x_Nothing.k (raises_own U.x_Nothing.ex U.x_Nothing.ty) (by rfl)))) pss_nil)
  (pss_cons (ps_set (i := 1) sc_Parade_again.nd rfl (Or.inl rfl) (pe_bm0 PySem.F.plainAttrs_list PySem.F.slot_list_pop PySem.F.type_list_pop mt_pop (pe_fld (pv 0) (by rfl))))
  (pss_cons (ps_expr (pe_met (met_Parade_advance T) hr px0 (pv 0) (pa_cons (pv 1) pa_nil)))
  (pss_one (ps_ret (pv 1)))))), ?_⟩
    walk_at "go"
    refine i_eqC (by walk_at "lk") (hL.c2.ex e) g ?_
    walk_at "go"
    rcases List.eq_nil_or_concat d.undone with hu | ⟨cs, c, hu⟩
    · refine i_t (by rw [hu]; rfl) ?_
      walk_at "go"
      exact k2 hu _ _ _ (.inr (.inr (.inr (.inr (.inr (.inr rfl)))))) (by walk_at "ex")
    · rw [List.concat_eq_append] at hu
      refine i_f (by rw [hu]; simp) ?_
      have hc2 := hL.c2
      rw [hu] at hc2
      obtain ⟨bs, b, rfl, hbs, hbc⟩ := hc2.unsnoc
      rw [List.map_append] at ho2
      walk_at "go"
      refine i_pop (e _ _ ho2) ?_
      refine i_wr (e _ _ ho2) (by intro _ z; cases z) fun H3 x3 g3 k3 => ?_
      have E3 : Ext [pP, t, ls, l1, l2, l3, m] H H3 := Ext.xr e (ext_nil x3 (by simp))
      have hob3 := k3 _ _ (by walk_at "nm") (e _ _ hob)
      have P3 : ParL K H3 pP t ls l1 l2 l3 m { d with undone := cs } as1 bs xs3 :=
        ⟨hnd, ⟨dp, hob3⟩, ⟨⟨dt, k3 _ _ (by walk_at "nm") (e _ _ htr)⟩, k3 _ _ (by walk_at "nm") (e _ _ hL.ln.l)⟩, k3 _ _ (by walk_at "nm") (e _ _ hL.o1), hL.c1.ext E3, g3, hbs.ext E3, k3 _ _ (by walk_at "nm") (e _ _ hL.o3), hL.n3, k3 _ _ (by walk_at "nm") (e _ _ hL.om)⟩
      have hcu : c ∈ d.undone := by rw [hu]; simp
      walk_at "go"
      refine u_Parade_advance ⟨t, ls, l1, l2, l3, m, as1, bs, xs3, rfl, P3⟩ (E3.tup _ _ hbc) (hO.un c hcu) hO.fr hO.bd (by have := hO.ld; show d.done.length < 5000; omega) fun fp4 H4 E4 n4 P4 => ?_
      walk_at "go"
      exact k1 cs c hu fp4 b H4 (E3.widen E4 fun b hb => .inl hb) (fr_trans E3 (fun b hb => .inl hb) n4) P4 (E4.tup _ _ (E3.tup _ _ hbc))
theorem met_Parade_again (T : Txt K mg w) (U : TxtX P K mg) : Met P w K mg base (L2.CX P w) 9 (He.ga K "Parade") "again" (sp_Parade_again K) := metOf T.c_Parade T.a_Parade_again T.d_Parade_again (fun _ F => ok_Parade_again T U F) (fun _ _ _ _ _ _ us hl => match us, hl with | [_], _ => rfl)
theorem u_Parade_again {pP : Addr} {fp : List Addr} {d : Pd} (h1 : ParAt K H pP fp d) (h2 : d.Ok)
    (k1 : ∀ cs c, d.undone = cs ++ [c] → ∀ fp' aC H', Ext fp H H' → (∀ b ∈ fp', b ∈ fp ∨ H b = none) → ParAt K H' pP fp' { d with done := d.done ++ [c], undone := cs } → H' aC = some (.tup c.vs) → Q (.ref aC) H')
    (k2 : d.undone = [] → Ref K H E) : sp_Parade_again K [.ref pP] H Q E := ⟨pP, fp, d, rfl, h1, h2, k1, k2⟩
abbrev s_Parade_back : Stmt := inClass (top 52) 8
abbrev N_Parade_back : List Str := ["self", "call"]
theorem sc_Parade_back : FnScope N_Parade_back ["self"] (defScope s_Parade_back) := ⟨rfl, rfl, rfl, by decide +kernel, rfl, by decide +kernel, by decide +kernel⟩
def sp_Parade_back (K : PySem.W.Frag) : Sp := fun vs H Q E => ∃ (pP : Addr) (fp : List Addr) (d : Pd), vs = [.ref pP] ∧ ParAt K H pP fp d ∧ d.Ok ∧
  (∀ cs c, d.done = cs ++ [c] → ∀ fp' aC H', Ext fp H H' → (∀ b ∈ fp', b ∈ fp ∨ H b = none) → ParAt K H' pP fp' { d with done := cs, undone := d.undone ++ [c] } → H' aC = some (.tup c.vs) → Q (.ref aC) H') ∧
  (d.done = [] → Ref K H E)
theorem ok_Parade_back (T : Txt K mg w) (U : TxtX P K mg) {f : Addr} {fd : FuncData} (F : DefAt K "back" "Parade.back" s_Parade_back f fd) : FnOk P w K mg base (L2.CX P w) 8 f fd ["self"] (sp_Parade_back K) := by
  refine okX F sc_Parade_back (fun vs H Q E h => ?_) (fun cdv A outer s H vs Q E hr h => ?_)
  · walk_at "len"
  · obtain ⟨pP, fp, d, rfl, hP, hO, k1, k2⟩ := h
    have hP0 := hP
    obtain ⟨t, ls, l1, l2, l3, m, as1, as2, xs3, rfl, hL⟩ := hP
    obtain ⟨dp, hob⟩ := hL.ob
    obtain ⟨dt, htr⟩ := hL.ln.ob
    have hnd := hL.nd
    have ho1 := hL.o1
    refine ⟨_, (pss_cons (ps_if (pt_cmpR (op_eqD hr.units) (pe_fld (pv 0) (by rfl)) (pe_lst pa_nil) (nomark _)) (pss_one (ps_raise rfl (takes_of rfl rfl rfl rfl) (pmk_own0 PySem.F.excBase_ValueError U.x_Nothing.q U.x_Nothing.g U.x_Nothing.k (raises_own U.x_Nothing.ex U.x_Nothing.ty) (by rfl)))) pss_nil)
  (pss_cons (ps_set (i := 1) sc_Parade_back.nd rfl (Or.inl rfl) (pe_bm0 PySem.F.plainAttrs_list PySem.F.slot_list_pop PySem.F.type_list_pop mt_pop (pe_fld (pv 0) (by rfl))))
  (pss_cons (ps_expr (pe_bm0 PySem.F.plainAttrs_list PySem.F.slot_list_pop PySem.F.type_list_pop mt_pop (pe_fld (pv 0) (by rfl))))
  (pss_cons (ps_expr (pe_bm PySem.F.plainAttrs_list PySem.F.slot_list_append PySem.F.type_list_append mt_append (pe_fld (pv 0) (by rfl)) (pa_cons (pv 1) pa_nil)))
  (pss_cons (ps_expr (pe_met (met_Line_do T) hr px0 (pe_fld (pv 0) (by rfl)) (pa_cons (pe_cal (cal_turned T) hr px0 (pa_cons (pv 1) pa_nil)) pa_nil)))
  (pss_one (ps_ret (pv 1)))))))), ?_⟩
    walk_at "go"
    refine i_eqC (by walk_at "lk") (hL.c1.ex e) g ?_
    walk_at "go"
    rcases List.eq_nil_or_concat d.done with hu | ⟨cs, c, hu⟩
    · refine i_t (by rw [hu]; rfl) ?_
      walk_at "go"
      exact k2 hu _ _ _ (.inr (.inr (.inr (.inr (.inr (.inr rfl)))))) (by walk_at "ex")
    · rw [List.concat_eq_append] at hu
      refine i_f (by rw [hu]; simp) ?_
      have hc1 := hL.c1
      rw [hu] at hc1
      obtain ⟨bs, b, rfl, hbs, hbc⟩ := hc1.unsnoc
      have hcu : c ∈ d.done := by rw [hu]; simp
      have hcok := hO.dn c hcu
      rw [List.map_append] at ho1
      rcases List.eq_nil_or_concat xs3 with hx | ⟨ys, y, hx⟩
      · have := hL.n3
        rw [hx] at this
        cases this
      rw [List.concat_eq_append] at hx
      subst hx
      have hn3 := hL.n3
      rw [hu] at hn3
      simp only [List.length_append, List.length_cons, List.length_nil] at hn3
      walk_at "go"
      refine i_pop (e _ _ ho1) ?_
      refine i_wr (e _ _ ho1) (by intro _ z; cases z) fun H3 x3 g3 k3 => ?_
      have hob3 := k3 _ _ (by walk_at "nm") (e _ _ hob)
      have o33 := k3 _ _ (by walk_at "nm") (e _ _ hL.o3)
      walk_at "go"
      refine i_pop o33 ?_
      refine i_wr o33 (by intro _ z; cases z) fun H4 x4 g4 k4 => ?_
      have hob4 := k4 _ _ (by walk_at "nm") hob3
      have o24 := k4 _ _ (by walk_at "nm") (k3 _ _ (by walk_at "nm") (e _ _ hL.o2))
      have hca := hL.c2.len
      walk_at "go"
      refine i_app o24 (by rw [List.length_map]; have := hO.ld; omega) ?_
      refine i_wr o24 (by intro _ z; cases z) fun H5 x5 g5 k5 => ?_
      have E5 : Ext [pP, t, ls, l1, l2, l3, m] H H5 := ((Ext.xr e (ext_nil x3 (by simp))).trans (ext_nil x4 (by simp))).trans (ext_nil x5 (by simp))
      have hob5 := k5 _ _ (by walk_at "nm") hob4
      have hbc5 := E5.tup _ _ hbc
      have l5 : LineAt K H5 t ls d.files d.rows d.st := ⟨⟨dt, k5 _ _ (by walk_at "nm") (k4 _ _ (by walk_at "nm") (k3 _ _ (by walk_at "nm") (e _ _ htr)))⟩, k5 _ _ (by walk_at "nm") (k4 _ _ (by walk_at "nm") (k3 _ _ (by walk_at "nm") (e _ _ hL.ln.l)))⟩
      obtain ⟨⟨dt5, htr5⟩, hls5⟩ := l5
      walk_at "go"
      refine ⟨b, c, rfl, hbc5, fun q6 H6 e6 g6 => ?_⟩
      walk_at "go"
      refine u_Line_do (LineAt.ex ⟨⟨dt5, htr5⟩, hls5⟩ e6) g6 (turn_ok hcok) hO.fr hO.bd (by unfold Pd.st; exact stand_len) fun ls' H7 x7 hn7 l7 => ?_
      have hst : stepL d.files d.rows c.turn d.st = standL d.files d.rows cs := by
        unfold Pd.st
        rw [hu, stand_snoc, step_turn hO.bd hcok stand_len]
      rw [hst] at l7
      have hn : H ls' = none := E5.live _ (fresh_back e6 hn7)
      have np : pP ≠ ls' := ne_of_none hob hn
      have nt : t ≠ ls' := ne_of_none htr hn
      have n1 : l1 ≠ ls' := ne_of_none hL.o1 hn
      have n2 : l2 ≠ ls' := ne_of_none hL.o2 hn
      have n3 : l3 ≠ ls' := ne_of_none hL.o3 hn
      have nm : m ≠ ls' := ne_of_none hL.om hn
      have E7 : Ext [pP, t, ls, l1, l2, l3, m] H H7 := (E5.xl e6).trans (ext_nil x7 (by simp))
      have kp : ∀ a o, a ∉ [t] → H5 a = some o → H7 a = some o := fun a o ha h => x7.keep _ _ (e6 _ _ h) ha
      walk_at "go"
      refine k1 cs c hu [pP, t, ls', l1, l2, l3, m] b H7 E7 (fun b hb' => ?_) ⟨t, ls', l1, l2, l3, m, bs, as2 ++ [b], ys, rfl, ?_⟩ (E7.tup _ _ hbc)
      · simp only [List.mem_cons, List.not_mem_nil, or_false] at hb' ⊢
        rcases hb' with rfl | rfl | rfl | rfl | rfl | rfl | rfl <;> first | exact .inr hn | (left; simp)
      · refine ⟨by grind, ⟨dp, kp _ _ (by walk_at "nm") hob5⟩, l7, kp _ _ (by walk_at "nm") (k5 _ _ (by walk_at "nm") (k4 _ _ (by walk_at "nm") g3)), hbs.ext E7, ?_, (hL.c2.snoc hbc).ext E7, kp _ _ (by walk_at "nm") (k5 _ _ (by walk_at "nm") g4), by show ys.length = cs.length + 1; omega, kp _ _ (by walk_at "nm") (k5 _ _ (by walk_at "nm") (k4 _ _ (by walk_at "nm") (k3 _ _ (by walk_at "nm") (e _ _ hL.om))))⟩
        rw [kp _ _ (by walk_at "nm") g5]
        simp
theorem met_Parade_back (T : Txt K mg w) (U : TxtX P K mg) : Met P w K mg base (L2.CX P w) 8 (He.ga K "Parade") "back" (sp_Parade_back K) := metOf T.c_Parade T.a_Parade_back T.d_Parade_back (fun _ F => ok_Parade_back T U F) (fun _ _ _ _ _ _ us hl => match us, hl with | [_], _ => rfl)
theorem u_Parade_back {pP : Addr} {fp : List Addr} {d : Pd} (h1 : ParAt K H pP fp d) (h2 : d.Ok)
    (k1 : ∀ cs c, d.done = cs ++ [c] → ∀ fp' aC H', Ext fp H H' → (∀ b ∈ fp', b ∈ fp ∨ H b = none) → ParAt K H' pP fp' { d with done := cs, undone := d.undone ++ [c] } → H' aC = some (.tup c.vs) → Q (.ref aC) H')
    (k2 : d.done = [] → Ref K H E) : sp_Parade_back K [.ref pP] H Q E := ⟨pP, fp, d, rfl, h1, h2, k1, k2⟩
end
end Pp
-- PpT0
set_option maxRecDepth 100000
set_option maxHeartbeats 4000000
/-! The dict of those away. -/
namespace Pp
open PySem PySem.Spec PyProof.Rows L2 Evl
theorem gone_get {g : List Int} {n : Int} : valV (goneK g) (.inl n) = if n ∈ g then some (.bl true) else none := by
  induction g with
  | nil => rfl
  | cons a r ih =>
    unfold goneK at ih ⊢
    rw [List.map_cons]
    by_cases e : a = n
    · subst e
      rw [valV_pos rfl, if_pos (List.mem_cons_self)]
    · rw [valV_neg (fun z => e (Sum.inl.inj z)), ih]
      by_cases m : n ∈ r
      · rw [if_pos m, if_pos (List.mem_cons_of_mem _ m)]
      · rw [if_neg m, if_neg (fun z => (List.mem_cons.mp z).elim (fun q => e q.symm) m)]
theorem gone_put {g : List Int} {n : Int} (h : n ∉ g) : putK (goneK g) (.inl n) (.bl true) = goneK (g ++ [n]) := by
  rw [putK_new _ (by rw [gone_get, if_neg h])]
  unfold goneK
  rw [List.map_append]
  rfl
theorem gone_drop {g : List Int} {n : Int} : dropK (goneK g) (.inl n) = goneK (g.filter fun x => decide (x ≠ n)) := by
  unfold dropK goneK
  rw [List.filter_map]
  congr 1
  refine List.filter_congr fun x _ => ?_
  show decide (Sum.inl x ≠ Sum.inl n) = decide (x ≠ n)
  rw [Bool.eq_iff_iff]
  simp
def dinV (x y : V) (H : Hp) (Q : VK) : Prop := ∃ a o, x = .ref a ∧ DGet H a y o ∧ Q (.bl o.isSome) H
def dnotV (x y : V) (H : Hp) (Q : VK) : Prop := ∃ a o, x = .ref a ∧ DGet H a y o ∧ Q (.bl (!o.isSome)) H
section
variable {σ : L2.St} {H : Hp} {Q : VK} {td ty tv : TE} {m : Addr} {g : List Int} {n : Int} {nx bk ct : L2.St → Hp → Prop} {rt : VK}
instance a_din : St (tDIn ty td σ H Q) (ty σ H fun y H1 => td σ H1 fun x H2 => dinV x y H2 Q) := ⟨fun k => k⟩
instance a_dnotin : St (tDNotIn ty td σ H Q) (ty σ H fun y H1 => td σ H1 fun x H2 => dnotV x y H2 Q) := ⟨fun k => k⟩
instance a_dput : St (sDPut td ty tv ⟨nx, rt, bk, ct⟩ σ H) (tv σ H fun v H1 => td σ H1 fun x H2 => ty σ H2 fun y H3 => ∃ a H4, x = .ref a ∧ DPut H3 a y v H4 ∧ nx σ H4) := ⟨fun k => k⟩
instance a_dpop : St (tDPop1 td ty σ H Q) (td σ H fun x H1 => ∃ a, x = .ref a ∧ IsD H1 a ∧ ty σ H1 fun y H2 => ∃ kvs k v, H2 a = some (.dK kvs) ∧ y = kV k ∧ valV kvs k = some v ∧ Q v (upd H2 a (.dK (dropK kvs k)))) := ⟨fun k => k⟩
theorem i_dinV (h : H m = some (.dK (goneK g))) (k : Q (.bl (decide (n ∈ g))) H) : dinV (.ref m) (.int n) H Q := by
  refine ⟨m, valV (goneK g) (.inl n), rfl, DGet.k (k := .inl n) h, ?_⟩
  rw [gone_get]
  by_cases hm : n ∈ g
  · rw [if_pos hm]
    rw [decide_eq_true hm] at k
    exact k
  · rw [if_neg hm]
    rw [decide_eq_false hm] at k
    exact k
theorem i_dnotinV (h : H m = some (.dK (goneK g))) (k : Q (.bl (!decide (n ∈ g))) H) : dnotV (.ref m) (.int n) H Q := i_dinV (Q := fun v H1 => ∃ b, v = .bl b ∧ Q (.bl (!b)) H1) h ⟨_, rfl, k⟩ |> fun ⟨a, o, h1, h2, b, h3, h4⟩ => ⟨a, o, h1, h2, by cases h3; exact h4⟩
theorem i_dput {Qh : Hp → Prop} (h : H m = some (.dK (goneK g))) (hg : g.length < 100000) (nm : n ∉ g) (k : ∀ H2, Ext [m] H H2 → H2 m = some (.dK (goneK (g ++ [n]))) → (∀ b o, b ≠ m → H b = some o → H2 b = some o) → Qh H2) :
    ∃ a H4, V.ref m = .ref a ∧ DPut H a (.int n) (.bl true) H4 ∧ Qh H4 := by
  refine ⟨m, _, rfl, DPut.k (k := .inl n) h (sz_lt (by simpa [goneK] using hg)), ?_⟩
  rw [gone_put nm]
  exact k _ (Ext.put h (by intro _ z; cases z) (List.Mem.head _)) upd_same fun b o hb e => by rw [upd_ne hb]; exact e
theorem i_dpop {ty : TE} (h : H m = some (.dK (goneK g))) (k : ty σ H fun y H2 => ∃ kvs k v, H2 m = some (.dK kvs) ∧ y = kV k ∧ valV kvs k = some v ∧ Q v (upd H2 m (.dK (dropK kvs k)))) :
    ∃ a, V.ref m = .ref a ∧ IsD H a ∧ ty σ H fun y H2 => ∃ kvs k v, H2 a = some (.dK kvs) ∧ y = kV k ∧ valV kvs k = some v ∧ Q v (upd H2 a (.dK (dropK kvs k))) := ⟨m, rfl, .inl ⟨_, Rd.of h⟩, k⟩
theorem i_dpop2 (h : H m = some (.dK (goneK g))) (nm : n ∈ g) (k : ∀ H2, Ext [m] H H2 → H2 m = some (.dK (goneK (g.filter fun x => decide (x ≠ n)))) → (∀ b o, b ≠ m → H b = some o → H2 b = some o) → Q (.bl true) H2) :
    ∃ kvs k v, H m = some (.dK kvs) ∧ V.int n = kV k ∧ valV kvs k = some v ∧ Q v (upd H m (.dK (dropK kvs k))) := by
  refine ⟨_, .inl n, .bl true, h, rfl, by rw [gone_get, if_pos nm], ?_⟩
  rw [gone_drop]
  exact k _ (Ext.put h (by intro _ z; cases z) (List.Mem.head _)) upd_same fun b o hb e => by rw [upd_ne hb]; exact e
end
/-! ### rules within a comprehension: the module's part by name -/
section
variable {X : Cx} {K : PySem.W.Frag}
theorem pe_fldK {e : Expr} {ta : TE} {f : Str} {pos : Pos} (he : PE X e ta) (hb : attributeBase e f X.env (eval e X.env) = eval e X.env) (hK : X.K = K) : PE X (.Attribute e f pos) (tFld K ta f) := by
  subst hK
  exact pe_fld he hb
theorem op_inK (hK : X.K = K) : OpR X (compareOp .In) (rIn K false) := by
  subst hK
  exact op_in_seq
theorem op_notInK (hK : X.K = K) : OpR X (compareOp .NotIn) (rIn K true) := by
  subst hK
  exact op_notIn_seq
theorem sl_listK (hK : X.K = K) : SlR X (rSlL K) := by
  subst hK
  exact sl_list
theorem ix_listK (hK : X.K = K) : IxR X (rIxL K) := by
  subst hK
  exact ix_list
theorem ix_tupK (hK : X.K = K) : IxR X (rIxT K) := by
  subst hK
  exact ix_tup
end
end Pp
-- PpT1
set_option maxRecDepth 100000
set_option maxHeartbeats 4000000
namespace Pp
open PySem PySem.Spec PyProof.Rows L2 Evl
section
variable {P : Program} {w : World} {K : PySem.W.Frag} {mg : Str → Option Value} {base : Heap} {H : Hp} {Q : VK} {E : XK}
theorem Pd.Ok.n0 {d : Pd} (o : d.Ok) : 0 ≤ d.rows * d.files := by
  have := bd_mul o.bd
  omega
abbrev s_Parade_leave : Stmt := inClass (top 52) 13
abbrev N_Parade_leave : List Str := ["self", "pupil"]
theorem sc_Parade_leave : FnScope N_Parade_leave ["self", "pupil"] (defScope s_Parade_leave) := ⟨rfl, rfl, rfl, by decide +kernel, rfl, by decide +kernel, by decide +kernel⟩
def sp_Parade_leave (K : PySem.W.Frag) : Sp := fun vs H Q E => ∃ (pP : Addr) (fp : List Addr) (d : Pd) (n : Int), vs = [.ref pP, .int n] ∧ ParAt K H pP fp d ∧ d.Ok ∧
  ((0 ≤ n ∧ n < d.rows * d.files) ∧ n ∉ d.gone → ∀ H', Ext fp H H' → ParAt K H' pP fp { d with gone := d.gone ++ [n] } → Q .non H') ∧
  (¬ ((0 ≤ n ∧ n < d.rows * d.files) ∧ n ∉ d.gone) → Ref K H E)
theorem ok_Parade_leave (T : Txt K mg w) (U : TxtX P K mg) {f : Addr} {fd : FuncData} (F : DefAt K "leave" "Parade.leave" s_Parade_leave f fd) : FnOk P w K mg base (L2.CX P w) 4 f fd ["self", "pupil"] (sp_Parade_leave K) := by
  refine okX F sc_Parade_leave (fun vs H Q E h => ?_) (fun cdv A outer s H vs Q E hr h => ?_)
  · walk_at "len"
  · obtain ⟨pP, fp, d, n, rfl, hP, hO, k1, k2⟩ := h
    have hP0 := hP
    obtain ⟨t, ls, l1, l2, l3, m, as1, as2, xs3, rfl, hL⟩ := hP
    obtain ⟨dp, hob⟩ := hL.ob
    obtain ⟨dt, htr⟩ := hL.ln.ob
    have hnd := hL.nd
    have hom := hL.om
    refine ⟨_, (pss_cons (ps_expr (pe_met (met_Parade_check_pupil T U) hr (pxE (passes_call (takes_of rfl rfl rfl rfl) fun _ _ _ _ h => h)) (pv 0) (pa_cons (pv 1) pa_nil)))
  (pss_cons (ps_if (by exact (pt_cmp (pc_din (by exact (Nat.lt_of_le_of_lt (Nat.add_le_add_left (by decide : 1 ≤ 64) _) hr.units)) (pv 1) (pe_fld (pv 0) (by rfl))))) (pss_one (ps_raise rfl (takes_of rfl rfl rfl rfl) (pmk_sup U.x_Away S_Away hr (pa_cons (pv 1) pa_nil)))) pss_nil)
  (pss_one (ps_dput (by exact (Nat.lt_of_le_of_lt (Nat.add_le_add_left (by decide : 1 ≤ 64) _) hr.units)) (pe_fld (pv 0) (by rfl)) (pv 1) pe_bl rfl)))), ?_⟩
    walk_at "go"
    refine u_check_pupil hP0 hO.n0 (fun hv H1 e1 => ?_) (fun hv => k2 fun z => hv z.1)
    walk_at "go"
    refine i_dec (fun h => ?_) (fun h => ?_)
    · walk_at "go"
      exact k2 (fun z => z.2 h) _ _ _ (.inr (.inr (.inr (.inl rfl)))) (by walk_at "ex")
    · walk_at "go"
      refine i_dput (e1 _ _ hom) (by have := hO.gl; omega) h fun H2 x2 g2 k3 => ?_
      have E2 : Ext [pP, t, ls, l1, l2, l3, m] H H2 := Ext.xr e1 (ext_nil x2 (by simp))
      exact k1 ⟨hv, h⟩ H2 E2 ⟨t, ls, l1, l2, l3, m, as1, as2, xs3, rfl, hnd, ⟨dp, k3 _ _ (by walk_at "nm") (e1 _ _ hob)⟩, ⟨⟨dt, k3 _ _ (by walk_at "nm") (e1 _ _ htr)⟩, k3 _ _ (by walk_at "nm") (e1 _ _ hL.ln.l)⟩, k3 _ _ (by walk_at "nm") (e1 _ _ hL.o1), hL.c1.ext E2, k3 _ _ (by walk_at "nm") (e1 _ _ hL.o2), hL.c2.ext E2, k3 _ _ (by walk_at "nm") (e1 _ _ hL.o3), hL.n3, g2⟩
theorem met_Parade_leave (T : Txt K mg w) (U : TxtX P K mg) : Met P w K mg base (L2.CX P w) 4 (He.ga K "Parade") "leave" (sp_Parade_leave K) := metOf T.c_Parade T.a_Parade_leave T.d_Parade_leave (fun _ F => ok_Parade_leave T U F) (fun _ _ _ _ _ _ us hl => match us, hl with | [_, _], _ => rfl)
theorem u_Parade_leave {pP : Addr} {fp : List Addr} {d : Pd} {n : Int} (h1 : ParAt K H pP fp d) (h2 : d.Ok)
    (k1 : (0 ≤ n ∧ n < d.rows * d.files) ∧ n ∉ d.gone → ∀ H', Ext fp H H' → ParAt K H' pP fp { d with gone := d.gone ++ [n] } → Q .non H')
    (k2 : ¬ ((0 ≤ n ∧ n < d.rows * d.files) ∧ n ∉ d.gone) → Ref K H E) : sp_Parade_leave K [.ref pP, .int n] H Q E := ⟨pP, fp, d, n, rfl, h1, h2, k1, k2⟩
abbrev s_Parade_come : Stmt := inClass (top 52) 14
abbrev N_Parade_come : List Str := ["self", "pupil"]
theorem sc_Parade_come : FnScope N_Parade_come ["self", "pupil"] (defScope s_Parade_come) := ⟨rfl, rfl, rfl, by decide +kernel, rfl, by decide +kernel, by decide +kernel⟩
def sp_Parade_come (K : PySem.W.Frag) : Sp := fun vs H Q E => ∃ (pP : Addr) (fp : List Addr) (d : Pd) (n : Int), vs = [.ref pP, .int n] ∧ ParAt K H pP fp d ∧ d.Ok ∧
  ((0 ≤ n ∧ n < d.rows * d.files) ∧ n ∈ d.gone → ∀ H', Ext fp H H' → ParAt K H' pP fp { d with gone := d.gone.filter fun x => decide (x ≠ n) } → Q .non H') ∧
  (¬ ((0 ≤ n ∧ n < d.rows * d.files) ∧ n ∈ d.gone) → Ref K H E)
theorem ok_Parade_come (T : Txt K mg w) (U : TxtX P K mg) {f : Addr} {fd : FuncData} (F : DefAt K "come" "Parade.come" s_Parade_come f fd) : FnOk P w K mg base (L2.CX P w) 4 f fd ["self", "pupil"] (sp_Parade_come K) := by
  refine okX F sc_Parade_come (fun vs H Q E h => ?_) (fun cdv A outer s H vs Q E hr h => ?_)
  · walk_at "len"
  · obtain ⟨pP, fp, d, n, rfl, hP, hO, k1, k2⟩ := h
    have hP0 := hP
    obtain ⟨t, ls, l1, l2, l3, m, as1, as2, xs3, rfl, hL⟩ := hP
    obtain ⟨dp, hob⟩ := hL.ob
    obtain ⟨dt, htr⟩ := hL.ln.ob
    have hnd := hL.nd
    have hom := hL.om
    refine ⟨_, (pss_cons (ps_expr (pe_met (met_Parade_check_pupil T U) hr (pxE (passes_call (takes_of rfl rfl rfl rfl) fun _ _ _ _ h => h)) (pv 0) (pa_cons (pv 1) pa_nil)))
  (pss_cons (ps_if (by exact (pt_cmp (pc_dnotin (by exact (Nat.lt_of_le_of_lt (Nat.add_le_add_left (by decide : 1 ≤ 64) _) hr.units)) (pv 1) (pe_fld (pv 0) (by rfl))))) (pss_one (ps_raise rfl (takes_of rfl rfl rfl rfl) (pmk_sup U.x_There S_There hr (pa_cons (pv 1) pa_nil)))) pss_nil)
  (pss_one (ps_expr (pe_dpop1 (pe_fld (pv 0) (by rfl)) (pv 1) ⟨by rfl, by rfl, by rfl, by rfl⟩))))), ?_⟩
    walk_at "go"
    refine u_check_pupil hP0 hO.n0 (fun hv H1 e1 => ?_) (fun hv => k2 fun z => hv z.1)
    walk_at "go"
    by_cases h : n ∈ d.gone
    · refine i_f (by simp [h]) ?_
      walk_at "go"
      refine i_dpop2 (e1 _ _ hom) h fun H2 x2 g2 k3 => ?_
      have E2 : Ext [pP, t, ls, l1, l2, l3, m] H H2 := Ext.xr e1 (ext_nil x2 (by simp))
      walk_at "go"
      exact k1 ⟨hv, h⟩ H2 E2 ⟨t, ls, l1, l2, l3, m, as1, as2, xs3, rfl, hnd, ⟨dp, k3 _ _ (by walk_at "nm") (e1 _ _ hob)⟩, ⟨⟨dt, k3 _ _ (by walk_at "nm") (e1 _ _ htr)⟩, k3 _ _ (by walk_at "nm") (e1 _ _ hL.ln.l)⟩, k3 _ _ (by walk_at "nm") (e1 _ _ hL.o1), hL.c1.ext E2, k3 _ _ (by walk_at "nm") (e1 _ _ hL.o2), hL.c2.ext E2, k3 _ _ (by walk_at "nm") (e1 _ _ hL.o3), hL.n3, g2⟩
    · refine i_t (by simp [h]) ?_
      walk_at "go"
      exact k2 (fun z => h z.2) _ _ _ (.inr (.inr (.inr (.inr (.inl rfl))))) (by walk_at "ex")
theorem met_Parade_come (T : Txt K mg w) (U : TxtX P K mg) : Met P w K mg base (L2.CX P w) 4 (He.ga K "Parade") "come" (sp_Parade_come K) := metOf T.c_Parade T.a_Parade_come T.d_Parade_come (fun _ F => ok_Parade_come T U F) (fun _ _ _ _ _ _ us hl => match us, hl with | [_, _], _ => rfl)
theorem u_Parade_come {pP : Addr} {fp : List Addr} {d : Pd} {n : Int} (h1 : ParAt K H pP fp d) (h2 : d.Ok)
    (k1 : (0 ≤ n ∧ n < d.rows * d.files) ∧ n ∈ d.gone → ∀ H', Ext fp H H' → ParAt K H' pP fp { d with gone := d.gone.filter fun x => decide (x ≠ n) } → Q .non H')
    (k2 : ¬ ((0 ≤ n ∧ n < d.rows * d.files) ∧ n ∈ d.gone) → Ref K H E) : sp_Parade_come K [.ref pP, .int n] H Q E := ⟨pP, fp, d, n, rfl, h1, h2, k1, k2⟩
abbrev s_Parade_place_of : Stmt := inClass (top 52) 17
abbrev N_Parade_place_of : List Str := ["self", "pupil"]
theorem sc_Parade_place_of : FnScope N_Parade_place_of ["self", "pupil"] (defScope s_Parade_place_of) := ⟨rfl, rfl, rfl, by decide +kernel, rfl, by decide +kernel, by decide +kernel⟩
def sp_Parade_place_of (K : PySem.W.Frag) : Sp := fun vs H Q E => ∃ (pP : Addr) (fp : List Addr) (d : Pd) (n : Int), vs = [.ref pP, .int n] ∧ ParAt K H pP fp d ∧ d.Ok ∧
  (0 ≤ n ∧ n < d.rows * d.files → ∀ q H', Ex H H' → H' q = some (.tup [.int ((d.st.idxOf n : Nat) / d.files), .int ((d.st.idxOf n : Nat) % d.files)]) → Q (.ref q) H') ∧
  (¬ (0 ≤ n ∧ n < d.rows * d.files) → Ref K H E)
theorem ok_Parade_place_of (T : Txt K mg w) (U : TxtX P K mg) {f : Addr} {fd : FuncData} (F : DefAt K "place_of" "Parade.place_of" s_Parade_place_of f fd) : FnOk P w K mg base (L2.CX P w) 4 f fd ["self", "pupil"] (sp_Parade_place_of K) := by
  refine okX F sc_Parade_place_of (fun vs H Q E h => ?_) (fun cdv A outer s H vs Q E hr h => ?_)
  · walk_at "len"
  · obtain ⟨pP, fp, d, n, rfl, hP, hO, k1, k2⟩ := h
    obtain ⟨t, ls, l1, l2, l3, m, as1, as2, xs3, rfl, hL⟩ := hP
    obtain ⟨dp, hob⟩ := hL.ob
    obtain ⟨dt, htr⟩ := hL.ln.ob
    have h0 := hO.n0
    have hm := bd_mul hO.bd
    have hlen : ((d.st.length : Nat) : Int) = d.rows * d.files := by
      unfold Pd.st
      rw [stand_len]
      omega
    refine ⟨_, (pss_one (ps_ret (pe_met (met_Line_place_of T U) hr (pxE (passes_call (takes_of rfl rfl rfl rfl) fun _ _ _ _ h => h)) (pe_fld (pv 0) (by rfl)) (pa_cons (pv 1) pa_nil)))), ?_⟩
    walk_at "go"
    refine u_Line_place_of hL.ln hO.bd.1 (by omega) (fun hv => ?_) (fun hv x H' e => ?_)
    · rw [hlen] at hv
      exact ⟨stand_mem hO.bd _ rfl hO.dn n hv.1 hv.2, k1 hv⟩
    · rw [hlen] at hv
      exact k2 hv _ x H' (.inr (.inr (.inl rfl))) e
theorem met_Parade_place_of (T : Txt K mg w) (U : TxtX P K mg) : Met P w K mg base (L2.CX P w) 4 (He.ga K "Parade") "place_of" (sp_Parade_place_of K) := metOf T.c_Parade T.a_Parade_place_of T.d_Parade_place_of (fun _ F => ok_Parade_place_of T U F) (fun _ _ _ _ _ _ us hl => match us, hl with | [_, _], _ => rfl)
theorem u_Parade_place_of {pP : Addr} {fp : List Addr} {d : Pd} {n : Int} (h1 : ParAt K H pP fp d) (h2 : d.Ok)
    (k1 : 0 ≤ n ∧ n < d.rows * d.files → ∀ q H', Ex H H' → H' q = some (.tup [.int ((d.st.idxOf n : Nat) / d.files), .int ((d.st.idxOf n : Nat) % d.files)]) → Q (.ref q) H')
    (k2 : ¬ (0 ≤ n ∧ n < d.rows * d.files) → Ref K H E) : sp_Parade_place_of K [.ref pP, .int n] H Q E := ⟨pP, fp, d, n, rfl, h1, h2, k1, k2⟩
abbrev s_Parade_mates : Stmt := inClass (top 52) 18
abbrev N_Parade_mates : List Str := ["self", "pupil", "other"]
theorem sc_Parade_mates : FnScope N_Parade_mates ["self", "pupil"] (defScope s_Parade_mates) := ⟨rfl, rfl, rfl, by decide +kernel, rfl, by decide +kernel, by decide +kernel⟩
def sp_Parade_mates (K : PySem.W.Frag) : Sp := fun vs H Q E => ∃ (pP : Addr) (fp : List Addr) (d : Pd) (n : Int), vs = [.ref pP, .int n] ∧ ParAt K H pP fp d ∧ d.Ok ∧
  (0 ≤ n ∧ n < d.rows * d.files → ∀ l (ns : List Int) H', Ex H H' → H l = none → ns.Perm ((rowL d.files.toNat d.st n).filter fun x => decide (x ≠ n)) → ns.Pairwise (· ≤ ·) → H' l = some (.lst ((ns.filter fun x => !decide (x ∈ d.gone)).map V.int)) → Q (.ref l) H') ∧
  (¬ (0 ≤ n ∧ n < d.rows * d.files) → Ref K H E)
theorem ok_Parade_mates (T : Txt K mg w) (U : TxtX P K mg) {f : Addr} {fd : FuncData} (F : DefAt K "mates" "Parade.mates" s_Parade_mates f fd) : FnOk P w K mg base (L2.CX P w) 5 f fd ["self", "pupil"] (sp_Parade_mates K) := by
  refine okX F sc_Parade_mates (fun vs H Q E h => ?_) (fun cdv A outer s H vs Q E hr h => ?_)
  · walk_at "len"
  · obtain ⟨pP, fp, d, n, rfl, hP, hO, k1, k2⟩ := h
    obtain ⟨t, ls, l1, l2, l3, m, as1, as2, xs3, rfl, hL⟩ := hP
    obtain ⟨dp, hob⟩ := hL.ob
    obtain ⟨dt, htr⟩ := hL.ln.ob
    have h0 := hO.n0
    have hm := bd_mul hO.bd
    have hlen : ((d.st.length : Nat) : Int) = d.rows * d.files := by
      unfold Pd.st
      rw [stand_len]
      omega
    refine ⟨_, (pss_one (ps_ret (pe_lc (own := [("other", 2)]) (g := gName 2) rfl sc_Parade_mates.nd (pi_list (pe_met (met_Line_row_of T U) hr (pxE (passes_call (takes_of rfl rfl rfl rfl) fun _ _ _ _ h => h)) (pe_fld (pv 0) (by rfl)) (pa_cons (pv 1) pa_nil))) (blkOk_by (own := [("other", 2)]) (N := N_Parade_mates) (sc := defScope s_Parade_mates) (by decide +kernel)) (fun _ _ _ _ _ => pg_name (i := 2) sc_Parade_mates.nd rfl (Or.inl rfl)) (fun _ _ _ _ _ => pts_one (by exact (pt_cmp (pc_dnotin (by exact (Nat.lt_of_le_of_lt (Nat.add_le_add_left (by decide : 1 ≤ 64) _) hr.units)) (pv 2) (pe_fldK (K := K) (pv 0) (by rfl) rfl))))) (fun _ _ _ _ _ => (pv 2))))), ?_⟩
    walk_at "go"
    refine u_Line_row_of hL.ln hO.bd.1 (by omega) (fun hv => ?_) (fun hv x H' e => ?_)
    · rw [hlen] at hv
      refine ⟨stand_mem hO.bd _ rfl hO.dn n hv.1 hv.2, fun l ns H1 e1 hl1 hp hs g1 => ?_⟩
      have hnl : ns.length ≤ 40000 := by
        have h1 := hp.length_eq
        have h2 := List.length_filter_le (fun x => decide (x ≠ n)) (rowL d.files.toNat d.st n)
        have h3 : (rowL d.files.toNat d.st n).length ≤ d.st.length := by unfold rowL; rw [List.length_take, List.length_drop]; omega
        omega
      walk_at "go"
      refine lc_intsF g1 (fun x => !decide (x ∈ d.gone)) V.int hnl (fun _ => rfl) (fun z H4 e4 _ Qb q1 => ?_) (fun z H4 e4 _ Q1 q1 => ?_) (fun l4 H4 hl4 e4 g4 => ?_)
      · have hob4 := e4 _ _ (e1 _ _ hob)
        have hm4 := e4 _ _ (e1 _ _ hL.om)
        walk_at "go"
        exact q1 _ (Ex.refl _)
      · walk_at "go"
        exact q1 _ (Ex.refl _)
      · exact k1 hv l4 ns H4 (e1.trans e4) (fresh_back e1 hl4) hp hs g4
    · rw [hlen] at hv
      exact k2 hv _ x H' (.inr (.inr (.inl rfl))) e
theorem met_Parade_mates (T : Txt K mg w) (U : TxtX P K mg) : Met P w K mg base (L2.CX P w) 5 (He.ga K "Parade") "mates" (sp_Parade_mates K) := metOf T.c_Parade T.a_Parade_mates T.d_Parade_mates (fun _ F => ok_Parade_mates T U F) (fun _ _ _ _ _ _ us hl => match us, hl with | [_, _], _ => rfl)
theorem u_Parade_mates {pP : Addr} {fp : List Addr} {d : Pd} {n : Int} (h1 : ParAt K H pP fp d) (h2 : d.Ok)
    (k1 : 0 ≤ n ∧ n < d.rows * d.files → ∀ l (ns : List Int) H', Ex H H' → H l = none → ns.Perm ((rowL d.files.toNat d.st n).filter fun x => decide (x ≠ n)) → ns.Pairwise (· ≤ ·) → H' l = some (.lst ((ns.filter fun x => !decide (x ∈ d.gone)).map V.int)) → Q (.ref l) H')
    (k2 : ¬ (0 ≤ n ∧ n < d.rows * d.files) → Ref K H E) : sp_Parade_mates K [.ref pP, .int n] H Q E := ⟨pP, fp, d, n, rfl, h1, h2, k1, k2⟩
end
end Pp
-- PpV
set_option maxRecDepth 100000
set_option maxHeartbeats 4000000
/-! Comprehensions that lay lists; ranges with a step; rows shown. -/
namespace Pp
open PySem PySem.Spec PyProof.Rows L2 Evl
/-- new lists in order -/
def RowsAt (H : Hp) (rs : List Addr) (c : Nat → List V) (n : Nat) : Prop := rs.length = n ∧ ∀ i, i < n → ∃ r, rs[i]? = some r ∧ H r = some (.lst (c i))
theorem RowsAt.ex {H H' : Hp} {rs : List Addr} {c : Nat → List V} {n : Nat} (h : RowsAt H rs c n) (e : Ex H H') : RowsAt H' rs c n := ⟨h.1, fun i hi => by
  obtain ⟨r, h1, h2⟩ := h.2 i hi
  exact ⟨r, h1, e _ _ h2⟩⟩
section
variable {K : PySem.W.Frag} {σ : L2.St} {H : Hp} {Q : VK} {te : TE} {vs : List Nat} {j : Nat}
theorem lc_lists {J : It} {n : Nat} {G : Hp → Prop} {Y : Nat → Hp → V → Hp → Prop} (w : Walk J n G Y) (hG : ∀ H', Ex H H' → G H') (c : Nat → List V) (hz : n ≤ 40000) (hw : ∀ x, wipe ((wipe σ vs).set j (some x)) vs = wipe σ vs)
    (he : ∀ (i : Nat) (x : V) H1 H2, Ex H H1 → i < n → Y i H1 x H2 → Ex H1 H2 ∧ ∀ Q1 : VK, (∀ r H3, Ex H2 H3 → H2 r = none → H3 r = some (.lst (c i)) → Q1 (.ref r) H3) → te ((wipe σ vs).set j (some x)) H2 Q1)
    (k : ∀ p H2 (rs : List Addr), H p = none → Ex H H2 → H2 p = some (.lst (rs.map V.ref)) → RowsAt H2 rs c n → Q (.ref p) H2) : lcR (gName j) tYes te vs σ Q J H := by
  refine ⟨fun Dl hD => ?_⟩
  refine lc_it w (fun i H' => H Dl = none ∧ Ex H H' ∧ ∃ rs : List Addr, H' Dl = some (.lst (rs.map V.ref)) ∧ RowsAt H' rs c i ∧ Dl ∉ rs) ⟨hD, Ex.new hD, [], upd_same, ⟨rfl, fun i hi => absurd hi (Nat.not_lt_zero _)⟩, by simp⟩ (fun i H' _ p => hG _ p.2.1) ?_ (fun H' p => ?_)
  · rintro i x H1 H2 hi ⟨p0, p1, rs, p2, p3, p4⟩ hy
    obtain ⟨e2, run⟩ := he i x H1 H2 p1 hi hy
    refine ⟨hw x, ?_⟩
    dsimp only [tYes]
    rw [if_pos rfl]
    refine run _ fun r H3 e3 hr hr3 => ?_
    have hDl := e3 _ _ (e2 _ _ p2)
    have hne : r ≠ Dl := fun z => by rw [z, e2 _ _ p2] at hr; cases hr
    refine ⟨_, hDl, by rw [List.length_map, p3.1]; exact sz_lt (by omega), p0, Ex.mut ((p1.trans e2).trans e3) p0, rs ++ [r], by rw [upd_same, List.map_append]; rfl, ⟨by rw [List.length_append, p3.1]; rfl, fun l hl => ?_⟩, ?_⟩
    · by_cases hli : l < i
      · obtain ⟨q, h1, h2⟩ := p3.2 l hli
        have hq : q ≠ Dl := fun z => p4 (z ▸ List.mem_of_getElem? h1)
        refine ⟨q, by rw [List.getElem?_append_left (by rw [p3.1]; exact hli)]; exact h1, ?_⟩
        rw [upd_ne hq]
        exact e3 _ _ (e2 _ _ h2)
      · have e : l = i := by omega
        subst e
        refine ⟨r, by rw [List.getElem?_append_right (by rw [p3.1]; exact Nat.le_refl _), p3.1]; simp, ?_⟩
        rw [upd_ne hne]
        exact hr3
    · intro z
      rcases List.mem_append.mp z with z | z
      · exact p4 z
      · exact hne (List.mem_singleton.mp z).symm
  · obtain ⟨p0, p1, rs, p2, p3, _⟩ := p
    exact k Dl H' rs p0 p1 p2 p3
end
theorem size_step {n f : Nat} (hf : 0 < f) : Builtin.Range.rangeSize 0 ((n * f : Nat) : Int) (f : Int) = n := by
  unfold Builtin.Range.rangeSize
  rw [if_pos (by omega)]
  by_cases h0 : n = 0
  · subst h0
    rw [if_neg (by omega)]
    rfl
  · have hp : 0 < n * f := Nat.mul_pos (by omega) hf
    rw [if_pos (by omega)]
    have : (((n * f : Nat) : Int) - 0 - 1) = (f : Int) * ((n : Int) - 1) + ((f : Int) - 1) := by
      rw [Int.mul_sub, Int.mul_one]
      push_cast
      rw [Int.mul_comm]
      omega
    obtain ⟨d1, _⟩ := div_of (a := ((n * f : Nat) : Int) - 0 - 1) (b := (f : Int)) (q := (n : Int) - 1) (r := (f : Int) - 1) this (by omega) (by omega)
    rw [d1]
    omega
theorem rgC_step {n f : Nat} (hf : 0 < f) (hf2 : f < 1000) (hn : n < 100000) : RgC 0 ((n * f : Nat) : Int) (f : Int) n := by
  have hb : n * f ≤ 100000 * 1000 := Nat.mul_le_mul (by omega) (by omega)
  refine ⟨by omega, by omega, ?_, size_step hf⟩
  unfold Builtin.Range.small
  rw [size_step hf]
  simp only [Builtin.Range.rangeFitsLong, Bool.and_eq_true, Bool.or_eq_true, decide_eq_true_eq, beq_iff_eq]
  have h1 : (n : Int) * (f : Int) = ((n * f : Nat) : Int) := by push_cast; rfl
  have h2 : ((n * f : Nat) : Int) ≤ 100000000 := by omega
  refine ⟨by omega, .inr ?_⟩
  rw [if_pos (show (f : Int) > 0 by omega)]
  simp only [Builtin.Range.rangeFitsLong, Bool.and_eq_true, decide_eq_true_eq]
  omega
end Pp
-- PpT2
set_option maxRecDepth 100000
set_option maxHeartbeats 4000000
namespace Pp
open PySem PySem.Spec PyProof.Rows L2 Evl
/-- a pupil as it is shown -/
def pvV (g : List Int) (x : Int) : V := if x ∈ g then .non else .int x
def shownL (f : Nat) (st g : List Int) (i : Nat) : List V := ((st.drop (i * f)).take f).map (pvV g)
theorem shown_cut {f : Nat} {st g : List Int} {i : Nat} : cutV (st.map (pvV g)) (some (0 + (i : Int) * (f : Int))) (some (0 + (i : Int) * (f : Int) + (f : Int))) = shownL f st g i := by
  have e1 : (0 : Int) + (i : Int) * (f : Int) = ((i * f : Nat) : Int) := by push_cast; omega
  have e2 : (0 : Int) + (i : Int) * (f : Int) + (f : Int) = ((i * f + f : Nat) : Int) := by push_cast; omega
  rw [e2, e1, cut_nat, ← List.map_drop, ← List.map_take, Nat.add_sub_cancel_left]
  rfl
theorem i_rg3 {H : Hp} {i j c : Int} {n : Nat} {R : It → Hp → Prop} (h : RgC i j c n) (k : R (Itc i c n) H) : ∃ (i' j' c' : Int) (n : Nat), [V.int i, V.int j, V.int c] = [.int i', .int j', .int c'] ∧ RgC i' j' c' n ∧ R (Itc i' c' n) H := ⟨i, j, c, n, rfl, h, k⟩
section
variable {P : Program} {w : World} {K : PySem.W.Frag} {mg : Str → Option Value} {base : Heap} {H : Hp} {Q : VK} {E : XK}
abbrev s_Parade_shown : Stmt := inClass (top 52) 11
abbrev N_Parade_shown : List Str := ["self", "troop", "order", "pupil", "at"]
theorem sc_Parade_shown : FnScope N_Parade_shown ["self", "troop"] (defScope s_Parade_shown) := ⟨rfl, rfl, rfl, by decide +kernel, rfl, by decide +kernel, by decide +kernel⟩
def sp_Parade_shown (K : PySem.W.Frag) : Sp := fun vs H Q _ => ∃ (pP t : Addr) (fp : List Addr) (d : Pd), vs = [.ref pP, .ref t] ∧ (∃ ls l1 l2 l3 m as1 as2 xs3, fp = [pP, t, ls, l1, l2, l3, m] ∧ ParL K H pP t ls l1 l2 l3 m d as1 as2 xs3) ∧ d.Ok ∧
  ∀ l (rs : List Addr) H', Ex H H' → H l = none → H' l = some (.lst (rs.map V.ref)) → RowsAt H' rs (shownL d.files.toNat d.st d.gone) d.rows.toNat → Q (.ref l) H'
theorem ok_Parade_shown (T : Txt K mg w) {f : Addr} {fd : FuncData} (F : DefAt K "shown" "Parade.shown" s_Parade_shown f fd) : FnOk P w K mg base CX0 5 f fd ["self", "troop"] (sp_Parade_shown K) := by
  refine ok0 F sc_Parade_shown (fun vs H Q E h => ?_) (fun cdv A outer s H vs Q E hr h => ?_)
  · walk_at "len"
  · obtain ⟨pP, t, fp, d, rfl, ⟨ls, l1, l2, l3, m, as1, as2, xs3, rfl, hL⟩, hO, kq⟩ := h
    obtain ⟨dp, hob⟩ := hL.ob
    obtain ⟨dt, htr⟩ := hL.ln.ob
    have hom := hL.om
    have hm := bd_mul hO.bd
    obtain ⟨⟨b1, b2⟩, b3, b4⟩ := hO.bd
    have hlen : d.st.length = (d.rows * d.files).toNat := by unfold Pd.st; exact stand_len
    refine ⟨_, (pss_cons (ps_set (i := 2) sc_Parade_shown.nd rfl (Or.inr rfl) (pe_lc (own := [("pupil", 3)]) (g := gName 3) (tt := tYes) rfl sc_Parade_shown.nd (pi_list (pe_met0 (met_Line_order T) hr px0 (pv 1))) (blkOk_by (own := [("pupil", 3)]) (N := N_Parade_shown) (sc := defScope s_Parade_shown) (by decide +kernel)) (fun _ _ _ _ _ => pg_name (i := 3) sc_Parade_shown.nd rfl (Or.inl rfl)) (fun _ _ _ _ _ => pts_nil) (fun _ _ _ _ _ => (pe_ifExp (by exact (pt_cmp (pc_din (by exact (Nat.lt_of_le_of_lt (Nat.add_le_add_left (by decide : 1 ≤ 64) _) hr.units)) (pv 3) (pe_fldK (K := K) (pv 0) (by rfl) rfl)))) pe_non (pv 3)))))
  (pss_one (ps_ret (pe_lc (own := [("at", 4)]) (g := gName 4) (tt := tYes) rfl sc_Parade_shown.nd (pi_range3 rfl T.b_range (pa_cons pe_int (pa_cons (pe_callB cr_len (by rfl) T.b_len PySem.boot_len (pa_cons (pv 2) pa_nil)) (pa_cons (pe_prp (pv 0) (prp_Parade_files T) hr) pa_nil)))) (blkOk_by (own := [("at", 4)]) (N := N_Parade_shown) (sc := defScope s_Parade_shown) (by decide +kernel)) (fun _ _ _ _ _ => pg_name (i := 4) sc_Parade_shown.nd rfl (Or.inl rfl)) (fun _ _ _ _ _ => pts_nil) (fun _ _ _ _ _ => (pe_slice (sl_listK (K := K) rfl) (pv 2) (po_some (pv 4)) (po_some (pe_op op_add (pv 4) (pe_prp (pv 0) (prp_Parade_files T) hr))))))))), ?_⟩
    walk_at "go"
    refine u_Line_order hL.ln fun lo H1 e1 hlo g1 => ?_
    walk_at "go"
    refine lc_intsL g1 (pvV d.gone) (by omega) (fun _ => rfl) (fun z H4 e4 _ Q1 q1 => ?_) (fun l4 H4 hl4 e4 g4 => ?_)
    · have hob4 := e4 _ _ (e1 _ _ hob)
      have hm4 := e4 _ _ (e1 _ _ hom)
      walk_at "go"
      have q2 := q1 _ (Ex.refl _)
      unfold pvV at q2
      refine i_dec (fun h => ?_) (fun h => ?_)
      · rw [if_pos h] at q2
        walk_at "go"
        exact q2
      · rw [if_neg h] at q2
        walk_at "go"
        exact q2
    · have hob4 := e4 _ _ (e1 _ _ hob)
      have htr4 := e4 _ _ (e1 _ _ htr)
      walk_at "go"
      have ef : d.files = (d.files.toNat : Int) := (Int.toNat_of_nonneg (by omega)).symm
      have er : d.rows = (d.rows.toNat : Int) := (Int.toNat_of_nonneg (by omega)).symm
      have hrf : (((d.st.map (pvV d.gone)).length : Nat) : Int) = ((d.rows.toNat * d.files.toNat : Nat) : Int) := by
        have hprod : ((d.rows.toNat * d.files.toNat : Nat) : Int) = d.rows * d.files := by
          push_cast
          rw [← ef, ← er]
        rw [List.length_map, hlen, hprod]
        omega
      have hrg : RgC 0 (((d.st.map (pvV d.gone)).length : Nat) : Int) d.files d.rows.toNat := by
        rw [hrf, ef, Int.toNat_natCast]
        exact rgC_step (by omega) (by omega) (by omega)
      refine i_rg3 hrg ?_
      refine lc_lists (walk_rangeC (lo := 0) (c := d.files) (n := d.rows.toNat)) (fun _ _ => trivial) (shownL d.files.toNat d.st d.gone) (by omega) (fun _ => rfl) (fun i x H5 H6 e5 hi hy => ?_) (fun l7 H7 rs hl7 e7 g7 r7 => ?_)
      · obtain ⟨rfl, rfl⟩ := hy
        refine ⟨Ex.refl _, fun Q1 q1 => ?_⟩
        have hob5 := e5 _ _ hob4
        have htr5 := e5 _ _ htr4
        have g45 := e5 _ _ g4
        walk_at "go"
        refine q1 _ _ (by walk_at "ex") (by assumption) ?_
        rw [← shown_cut, ← ef]
        assumption
      · exact kq l7 rs H7 ((e1.trans e4).trans e7) (fresh_back (e1.trans e4) hl7) g7 r7
theorem met_Parade_shown (T : Txt K mg w) : Met P w K mg base CX0 5 (He.ga K "Parade") "shown" (sp_Parade_shown K) := metOf T.c_Parade T.a_Parade_shown T.d_Parade_shown (fun _ F => ok_Parade_shown T F) (fun _ _ _ _ _ _ us hl => match us, hl with | [_, _], _ => rfl)
abbrev s_Parade_line : Stmt := inClass (top 52) 16
abbrev N_Parade_line : List Str := ["self"]
theorem sc_Parade_line : FnScope N_Parade_line ["self"] (defScope s_Parade_line) := ⟨rfl, rfl, rfl, by decide +kernel, rfl, by decide +kernel, by decide +kernel⟩
def sp_Parade_line (K : PySem.W.Frag) : Sp := fun vs H Q _ => ∃ (pP : Addr) (fp : List Addr) (d : Pd), vs = [.ref pP] ∧ ParAt K H pP fp d ∧ d.Ok ∧
  ∀ l (rs : List Addr) H', Ex H H' → H l = none → H' l = some (.lst (rs.map V.ref)) → RowsAt H' rs (shownL d.files.toNat d.st d.gone) d.rows.toNat → Q (.ref l) H'
theorem ok_Parade_line (T : Txt K mg w) {f : Addr} {fd : FuncData} (F : DefAt K "line" "Parade.line" s_Parade_line f fd) : FnOk P w K mg base CX0 6 f fd ["self"] (sp_Parade_line K) := by
  refine ok0 F sc_Parade_line (fun vs H Q E h => ?_) (fun cdv A outer s H vs Q E hr h => ?_)
  · walk_at "len"
  · obtain ⟨pP, fp, d, rfl, hP, hO, kq⟩ := h
    obtain ⟨t, ls, l1, l2, l3, m, as1, as2, xs3, rfl, hL⟩ := hP
    obtain ⟨dp, hob⟩ := hL.ob
    refine ⟨_, (pss_one (ps_ret (pe_met (met_Parade_shown T) hr px0 (pv 0) (pa_cons (pe_fld (pv 0) (by rfl)) pa_nil)))), ?_⟩
    walk_at "go"
    exact ⟨pP, t, _, d, rfl, ⟨ls, l1, l2, l3, m, as1, as2, xs3, rfl, hL⟩, hO, kq⟩
theorem met_Parade_line (T : Txt K mg w) : Met P w K mg base CX0 6 (He.ga K "Parade") "line" (sp_Parade_line K) := metOf T.c_Parade T.a_Parade_line T.d_Parade_line (fun _ F => ok_Parade_line T F) (fun _ _ _ _ _ _ us hl => match us, hl with | [_], _ => rfl)
theorem u_Parade_line {pP : Addr} {fp : List Addr} {d : Pd} (h1 : ParAt K H pP fp d) (h2 : d.Ok)
    (k : ∀ l (rs : List Addr) H', Ex H H' → H l = none → H' l = some (.lst (rs.map V.ref)) → RowsAt H' rs (shownL d.files.toNat d.st d.gone) d.rows.toNat → Q (.ref l) H') : sp_Parade_line K [.ref pP] H Q E := ⟨pP, fp, d, rfl, h1, h2, k⟩
end
end Pp
-- PpT3
set_option maxRecDepth 100000
set_option maxHeartbeats 4000000
namespace Pp
open PySem PySem.Spec PyProof.Rows L2 Evl
section
variable {P : Program} {w : World} {K : PySem.W.Frag} {mg : Str → Option Value} {base : Heap} {H : Hp} {Q : VK} {E : XK}
abbrev s_Parade___init__ : Stmt := inClass (top 52) 0
abbrev N_Parade___init__ : List Str := ["self", "files", "rows"]
theorem sc_Parade___init__ : FnScope N_Parade___init__ ["self", "files", "rows"] (defScope s_Parade___init__) := ⟨rfl, rfl, rfl, by decide +kernel, rfl, by decide +kernel, by decide +kernel⟩
def sp_Parade___init__ (K : PySem.W.Frag) : Sp := fun vs H Q E => ∃ (a dx : Addr) (files rows : Int), vs = [.ref a, .int files, .int rows] ∧ H a = some (.ins (He.ga K "Parade") dx []) ∧
  ((files = 2 ∨ files = 3) ∧ 1 ≤ rows ∧ rows ≤ 100 → ∀ fp H', Ext [a] H H' → (∀ b ∈ fp, b = a ∨ H b = none) → ParAt K H' a fp ⟨files, rows, [], [], []⟩ → Q .non H') ∧
  (¬ ((files = 2 ∨ files = 3) ∧ 1 ≤ rows ∧ rows ≤ 100) → Ref K H E)
theorem ok_Parade___init__ (T : Txt K mg w) (U : TxtX P K mg) {f : Addr} {fd : FuncData} (F : DefAt K "__init__" "Parade.__init__" s_Parade___init__ f fd) : FnOk P w K mg base (L2.CX P w) 5 f fd ["self", "files", "rows"] (sp_Parade___init__ K) := by
  refine okX F sc_Parade___init__ (fun vs H Q E h => ?_) (fun cdv A outer s H vs Q E hr h => ?_)
  · walk_at "len"
  · obtain ⟨a, dx, files, rows, rfl, ha, k1, k2⟩ := h
    refine ⟨_, (pss_cons (ps_if (pt_not (pt_val (pe_cal (cal_is_files T) hr px0 (pa_cons (pv 1) pa_nil)))) (pss_one (ps_raise rfl (takes_of rfl rfl rfl rfl) (pmk_sup U.x_Wrong S_Wrong hr (pa_cons pe_int pa_nil)))) pss_nil)
  (pss_cons (ps_if (PW.pt (pw_or (pt_not (pt_val (pe_cal (cal_is_index T) hr px0 (pa_cons (pv 2) (pa_cons (pe_op op_add (pe_gc (by rfl) T.i_MOST_ROWS_parade) pe_int) pa_nil))))) (pw_or1 (pt_cmpR op_eq (pv 2) pe_int (nomark _))))) (pss_one (ps_raise rfl (takes_of rfl rfl rfl rfl) (pmk_sup U.x_Wrong S_Wrong hr (pa_cons pe_int pa_nil)))) pss_nil)
  (pss_cons (ps_fld (pv 0) (pe_mak (mak_Line T) hr pass0 (pa_cons (pv 1) (pa_cons (pv 2) pa_nil))) rfl)
  (pss_cons (ps_fld (pv 0) (pe_lst pa_nil) rfl)
  (pss_cons (ps_fld (pv 0) (pe_lst pa_nil) rfl)
  (pss_cons (ps_fld (pv 0) (pe_lst (pa_cons (pe_met0 (met_Line_order T) hr px0 (pe_fld (pv 0) (by rfl))) pa_nil)) rfl)
  (pss_one (ps_fld (pv 0) pe_dnewK rfl)))))))), ?_⟩
    walk_at "go"
    refine i_ite (fun hb => ?_) (fun hb => ?_)
    · walk_at "go"
      exact k2 (fun z => by simp [z.1] at hb) _ _ _ (.inl rfl) (by walk_at "ex")
    · have hf : files = 2 ∨ files = 3 := by simp at hb; omega
      walk_at "go"
      refine i_ite (fun hi => ?_) (fun hi => ?_)
      · walk_at "go"
        exact k2 (fun z => by simp at hi; omega) _ _ _ (.inl rfl) (by walk_at "ex")
      · have hi : 0 ≤ rows ∧ rows < 100 + 1 := by simpa using hi
        walk_at "go"
        refine i_dec (fun hz => ?_) (fun hz => ?_)
        · walk_at "go"
          have := V.int.inj hz
          exact k2 (fun z => by omega) _ _ _ (.inl rfl) (by walk_at "ex")
        · have hr1 : 1 ≤ rows ∧ rows ≤ 100 := ⟨by have : rows ≠ 0 := fun z => hz (by rw [z]); omega, by omega⟩
          walk_at "go"
          have e2 : Ex H H2 := by walk_at "ex"
          intro t dt ht hdt hne
          generalize hU : upd (upd _ _ _) _ _ = H3
          have e3 := e2.trans (mk_e ht hdt hne hU)
          have tn : H t = none := fresh_back e2 ht
          have ta : a ≠ t := ne_of_none ha tn
          refine ⟨t, dt, files, rows, rfl, al_g hU, hf, by omega, fun ls H4 x4 hn4 l4 => ⟨rfl, ?_⟩⟩
          have lsn : H ls = none := fresh_back e3 hn4
          have lsa : a ≠ ls := ne_of_none ha lsn
          have e4 : Ex H H4 := mut_fresh e3 x4 tn
          obtain ⟨⟨dt4, htr4⟩, hls4⟩ := l4
          have lst : ls ≠ t := ne_of hls4 htr4 (by intro z; cases z)
          walk_at "go"
          refine i_put (e4 _ _ ha) T.c_Parade T.n_Parade_troop (by simp) fun H5 x5 g5 k5 => ?_
          have g5 : H5 a = some (.ins (He.ga K "Parade") dx [("troop", .ref t)]) := g5
          have htr5 := k5 _ _ (Ne.symm ta) htr4
          have hls5 := k5 _ _ (Ne.symm lsa) hls4
          have X5 : Ext [a] H H5 := Ext.xr e4 x5
          walk_at "go"
          revert p H2; intro l1 hl1 H6 e6 g6
          have l1n : H l1 = none := X5.live _ hl1
          have l1a : a ≠ l1 := ne_of_none ha l1n
          have l1t : t ≠ l1 := ne_of_none htr5 hl1
          have l1s : ls ≠ l1 := ne_of_none hls5 hl1
          refine i_put (e6 _ _ g5) T.c_Parade T.n_Parade_calls_done (by simp) fun H7 x7 g7 k7 => ?_
          have g7 : H7 a = some (.ins (He.ga K "Parade") dx [("troop", .ref t), ("calls_done", .ref l1)]) := g7
          have htr7 := k7 _ _ (Ne.symm ta) (e6 _ _ htr5)
          have hls7 := k7 _ _ (Ne.symm lsa) (e6 _ _ hls5)
          have o17 := k7 _ _ (Ne.symm l1a) g6
          have X7 : Ext [a] H H7 := (X5.xl e6).trans x7
          walk_at "go"
          revert p H2; intro l2 hl2 H8 e8 g8
          have l2n : H l2 = none := X7.live _ hl2
          have l2a : a ≠ l2 := ne_of_none ha l2n
          have l2t : t ≠ l2 := ne_of_none htr7 hl2
          have l2s : ls ≠ l2 := ne_of_none hls7 hl2
          have l21 : l1 ≠ l2 := ne_of_none o17 hl2
          refine i_put (e8 _ _ g7) T.c_Parade T.n_Parade_calls_undone (by simp) fun H9 x9 g9 k9 => ?_
          have g9 : H9 a = some (.ins (He.ga K "Parade") dx [("troop", .ref t), ("calls_done", .ref l1), ("calls_undone", .ref l2)]) := g9
          have htr9 := k9 _ _ (Ne.symm ta) (e8 _ _ htr7)
          have hls9 := k9 _ _ (Ne.symm lsa) (e8 _ _ hls7)
          have o19 := k9 _ _ (Ne.symm l1a) (e8 _ _ o17)
          have o29 := k9 _ _ (Ne.symm l2a) g8
          have X9 : Ext [a] H H9 := (X7.xl e8).trans x9
          walk_at "go"
          refine u_Line_order ⟨⟨dt4, htr9⟩, hls9⟩ fun lo HA eA hlo gA => ?_
          walk_at "go"
          revert p H2; intro l3 hl3 HB eB gB
          have l3n9 : H9 l3 = none := fresh_back eA hl3
          have l3n : H l3 = none := X9.live _ l3n9
          have l3a : a ≠ l3 := ne_of_none ha l3n
          have l3t : t ≠ l3 := ne_of_none htr9 l3n9
          have l3s : ls ≠ l3 := ne_of_none hls9 l3n9
          have l31 : l1 ≠ l3 := ne_of_none o19 l3n9
          have l32 : l2 ≠ l3 := ne_of_none o29 l3n9
          have e9B : Ex H9 HB := eA.trans eB
          refine i_put (e9B _ _ g9) T.c_Parade T.n_Parade_stands (by simp) fun HC xC gC kC => ?_
          have gC : HC a = some (.ins (He.ga K "Parade") dx [("troop", .ref t), ("calls_done", .ref l1), ("calls_undone", .ref l2), ("stands", .ref l3)]) := gC
          have htrC := kC _ _ (Ne.symm ta) (e9B _ _ htr9)
          have hlsC := kC _ _ (Ne.symm lsa) (e9B _ _ hls9)
          have o1C := kC _ _ (Ne.symm l1a) (e9B _ _ o19)
          have o2C := kC _ _ (Ne.symm l2a) (e9B _ _ o29)
          have o3C := kC _ _ (Ne.symm l3a) gB
          have XC : Ext [a] H HC := (X9.xl e9B).trans xC
          walk_at "go"
          revert p H2; intro m hm HD eD gD
          have mn : H m = none := XC.live _ hm
          have ma : a ≠ m := ne_of_none ha mn
          have mt : t ≠ m := ne_of_none htrC hm
          have ms : ls ≠ m := ne_of_none hlsC hm
          have m1 : l1 ≠ m := ne_of_none o1C hm
          have m2 : l2 ≠ m := ne_of_none o2C hm
          have m3 : l3 ≠ m := ne_of_none o3C hm
          refine i_put (eD _ _ gC) T.c_Parade T.n_Parade_missing (by simp) fun HE xE gE kE => ?_
          walk_at "go"
          have XE : Ext [a] H HE := (XC.xl eD).trans xE
          have hst : standL files rows [] = home (files * rows).toNat := by
            unfold standL
            rw [Int.mul_comm]
            rfl
          refine k1 ⟨hf, hr1⟩ [a, t, ls, l1, l2, l3, m] HE XE (fun b hb => ?_) ⟨t, ls, l1, l2, l3, m, [], [], [.ref lo], rfl, ?_⟩
          · simp only [List.mem_cons, List.not_mem_nil, or_false] at hb
            rcases hb with rfl | rfl | rfl | rfl | rfl | rfl | rfl <;> first | exact .inl rfl | (right; assumption)
          · refine ⟨by grind, ⟨dx, gE⟩, ⟨⟨dt4, kE _ _ (Ne.symm ta) (eD _ _ htrC)⟩, ?_⟩, kE _ _ (Ne.symm l1a) (eD _ _ o1C), .nil, kE _ _ (Ne.symm l2a) (eD _ _ o2C), .nil, kE _ _ (Ne.symm l3a) (eD _ _ o3C), rfl, kE _ _ (Ne.symm ma) gD⟩
            show HE ls = some (.lst ((standL files rows []).map V.int))
            rw [hst]
            exact kE _ _ (Ne.symm lsa) (eD _ _ hlsC)
theorem mak_Parade (T : Txt K mg w) (U : TxtX P K mg) : Mak P w K mg base (L2.CX P w) 5 "Parade" (He.ga K "Parade") (sp_Parade___init__ K) := makOf T.g_Parade T.mk_Parade T.d_Parade___init__ (fun _ F => ok_Parade___init__ T U F) (fun _ _ _ _ _ _ us hl => match us, hl with | [_, _, _], _ => rfl)
end
end Pp
-- PpU0
set_option maxRecDepth 100000
set_option maxHeartbeats 4000000
/-! Texts: numbers, values, joins; walking a list or a tuple. -/
namespace Pp
open PySem PySem.Spec PyProof.Rows L2 Evl
/-! ### the signs of an integer -/
def numZ (i : Int) : List Nat := if i < 0 then 45 :: TL.numL i.natAbs else TL.numL i.natAbs
theorem numZ_nonneg {n : Nat} : numZ (n : Int) = TL.numL n := by
  unfold numZ
  rw [if_neg (by omega), Int.natAbs_natCast]
theorem numZ_neg {i : Int} (h : i < 0) : numZ i = 45 :: TL.numL i.natAbs := if_pos h
theorem tl_int (i : Int) : TL.tl (Str.ofString (toString i)) = numZ i := by
  by_cases h : i < 0
  · rw [numZ_neg h, toString_neg h, show (0 : Int) - i = ((i.natAbs : Nat) : Int) by omega]
    have e := TL.tl_num i.natAbs
    rw [TL.tl_ofString] at e ⊢
    rw [String.toList_append, List.map_append, e]
    rfl
  · obtain ⟨n, rfl⟩ := Int.eq_ofNat_of_zero_le (show 0 ≤ i by omega)
    rw [numZ_nonneg]
    exact TL.tl_num n
theorem numZ_len {i : Int} {k : Nat} (hk : 0 < k) (h : i.natAbs < 10 ^ k) : (numZ i).length ≤ k + 1 := by
  have := TL.numL_len hk h
  unfold numZ
  split
  · rw [List.length_cons]; omega
  · omega
theorem numZ_free {i : Int} {s : Nat} (h : (s < 48 ∨ 57 < s) ∧ s ≠ 45) : s ∉ numZ i := by
  unfold numZ
  split
  · intro z
    rcases List.mem_cons.mp z with z | z
    · exact h.2 z
    · exact TL.numL_free h.1 z
  · exact TL.numL_free h.1
theorem numZ_ne (i : Int) : numZ i ≠ [] := by
  unfold numZ
  split
  · simp
  · exact TL.numL_ne _
theorem int_back {i : Int} (h : i.natAbs < 10 ^ 100) : intText? (Str.ofString (toString i)) = some i := by
  have hl := TL.numL_len (by decide : 0 < 100) h
  by_cases h0 : i < 0
  · have e := tl_int i
    rw [numZ_neg h0] at e
    have z := PySem.intText_neg e (TL.numL_digits _) (TL.numL_ne _) (by rw [TL.len_tl, e, List.length_cons]; omega)
    rw [z, TL.numL_val]
    congr 1
    omega
  · obtain ⟨n, rfl⟩ := Int.eq_ofNat_of_zero_le (show 0 ≤ i by omega)
    rw [Int.natAbs_natCast] at hl
    exact TL.int_num (by omega)
theorem log_lt {i : Int} (h : i.natAbs < 10 ^ 100) : i.natAbs.log2 < 1920 := by
  by_cases h0 : i.natAbs = 0
  · rw [h0]; decide
  · have h1 : i.natAbs < 2 ^ 1920 := Nat.lt_of_lt_of_le h (by decide +kernel)
    exact (Nat.log2_lt h0).mpr h1
/-! ### values as texts -/
def sV : V → Str
  | .int i => Str.ofString (toString i)
  | .str z => z
  | _ => Str.empty
def OkV : V → Prop
  | .int i => i.natAbs < 10 ^ 100
  | .str z => z.length ≤ 300
  | _ => False
theorem sV_len {v : V} (h : OkV v) : (sV v).length ≤ 300 := by
  cases v with
  | int i =>
    have h : i.natAbs < 10 ^ 100 := h
    have := numZ_len (by decide : 0 < 100) h
    rw [show sV (.int i) = Str.ofString (toString i) from rfl, TL.len_tl, tl_int]
    omega
  | str z => exact h
  | _ => exact h.elim
theorem sum_le {xs : List Str} {k : Nat} (h : ∀ x ∈ xs, x.length ≤ k) : (xs.map (·.length)).sum ≤ xs.length * k := by
  induction xs with
  | nil => simp
  | cons x r ih =>
    rw [List.map_cons, List.sum_cons, List.length_cons, Nat.succ_mul]
    have h1 := h x (List.mem_cons_self ..)
    have h2 := ih fun y hy => h y (List.mem_cons_of_mem _ hy)
    omega
theorem join_ok {vs : List V} {n : Nat} (h : ∀ v ∈ vs, OkV v) (hl : vs.length ≤ 40000) (hn : n ≤ 100) : ((vs.map sV).map (·.length)).sum + (vs.map sV).length * n ≤ 16777216 := by
  have h1 := sum_le (xs := vs.map sV) (k := 300) fun x hx => by
    obtain ⟨v, hv, rfl⟩ := List.mem_map.mp hx
    exact sV_len (h v hv)
  rw [List.length_map] at h1 ⊢
  have h2 : vs.length * n ≤ 40000 * 100 := Nat.mul_le_mul hl hn
  omega
theorem join_len {y : Str} : ∀ {xs : List Str} {k : Nat}, (∀ x ∈ xs, x.length ≤ k) → (Txt.join y xs).length ≤ xs.length * (k + y.length)
  | [], _, _ => by rw [TL.join_eq]; exact Nat.zero_le _
  | [x], k, h => by
    rw [TL.join_eq, TL.len_tl, TL.tl_join]
    have := h x (List.mem_singleton.mpr rfl)
    show (TL.tl x).length ≤ 1 * _
    rw [← TL.len_tl]
    omega
  | x :: z :: r, k, h => by
    have ih := join_len (y := y) (xs := z :: r) (k := k) fun q hq => h q (List.mem_cons_of_mem _ hq)
    rw [TL.join_eq, TL.len_tl, TL.tl_join] at ih ⊢
    have h1 := h x (List.mem_cons_self ..)
    rw [List.map_cons, List.map_cons]
    show (TL.tl x ++ (TL.tl y ++ TL.joinL (TL.tl y) (TL.tl z :: r.map TL.tl))).length ≤ _
    rw [List.map_cons] at ih
    rw [List.length_append, List.length_append, ← TL.len_tl, ← TL.len_tl, List.length_cons, Nat.succ_mul]
    omega
/-! ### a list or a tuple is walked -/
def iSeq (K : PySem.W.Frag) (tl : TE) : TI := fun σ H R => tl σ H fun x H1 => ∃ a, x = .ref a ∧ (((∃ xs, SqL K H1 a xs) ∧ R (Itl K a) H1) ∨ ((∃ xs, SqT K H1 a xs) ∧ R (Itt K a) H1))
theorem pi_seq {X : Cx} {tg l : Expr} {tl : TE} (hl : PE X l tl) : PI X tg l (iSeq X.K tl) := by
  refine ⟨fun pins s σ H R I h => ?_⟩
  refine thn (hl.run pins s σ H _ I h) fun v s1 ⟨x, H1, I1, r1, q1⟩ => ?_
  obtain ⟨a, e, q⟩ := q1
  subst e
  cases r1
  rcases q with ⟨⟨xs, hq⟩, q⟩ | ⟨⟨xs, hq⟩, q⟩
  · obtain ⟨its, rv, p, hz⟩ := I1.list hq
    refine wpAny_pyIter_list p.isList ?_
    refine ⟨s1.heap.objs.size, [s1.heap.objs.size], _, _, H1, rfl, I1.kept (t' := s1.toks) fun b o e => Heap.get?_push_of_some _ e, turn_list a _, ⟨_, Heap.get?_push_size _ rfl, rfl, rfl⟩, fun b hb => ?_, q⟩
    have e : b = s1.heap.objs.size := by simpa using hb
    subst e
    exact I1.fpOk (Nat.le_refl _) (I1.hok.fresh (Nat.le_refl _))
  · obtain ⟨its, rv, p, hz⟩ := I1.tuple hq
    refine wpAny_pyIter_tuple (show s1.heap.IsTuple a its.toArray from p) ?_
    refine ⟨s1.heap.objs.size, [s1.heap.objs.size], _, _, H1, rfl, I1.kept (t' := s1.toks) fun b o e => Heap.get?_push_of_some _ e, turn_tuple a _, ⟨_, Heap.get?_push_size _ rfl, rfl, rfl⟩, fun b hb => ?_, q⟩
    have e : b = s1.heap.objs.size := by simpa using hb
    subst e
    exact I1.fpOk (Nat.le_refl _) (I1.hok.fresh (Nat.le_refl _))
section
variable {K : PySem.W.Frag} {σ : L2.St} {H : Hp} {Q : VK} {te tl : TE} {vs : List Nat} {R : It → Hp → Prop} {a : Addr} {xs : List V} {j : Nat}
/-- a holds these, as a list or as a tuple -/
def SeqAt (H : Hp) (a : Addr) (xs : List V) : Prop := H a = some (.lst xs) ∨ H a = some (.tup xs)
theorem i_iSeq (k : tl σ H fun x H1 => ∃ a, x = .ref a ∧ (((∃ xs, SqL K H1 a xs) ∧ R (Itl K a) H1) ∨ ((∃ xs, SqT K H1 a xs) ∧ R (Itt K a) H1))) : iSeq K tl σ H R := k
instance a_iSeq : St (iSeq K tl σ H R) (tl σ H fun x H1 => ∃ a, x = .ref a ∧ (((∃ xs, SqL K H1 a xs) ∧ R (Itl K a) H1) ∨ ((∃ xs, SqT K H1 a xs) ∧ R (Itt K a) H1))) := ⟨fun k => i_iSeq k⟩
theorem i_seqAt {Ra : It → Prop} (h : SeqAt H a xs) (k1 : Ra (Itl K a)) (k2 : Ra (Itt K a)) : ∃ b, V.ref a = .ref b ∧ (((∃ xs, SqL K H b xs) ∧ Ra (Itl K b)) ∨ ((∃ xs, SqT K H b xs) ∧ Ra (Itt K b))) := by
  rcases h with h | h
  · exact ⟨a, rfl, .inl ⟨⟨xs, SqL.of h⟩, k1⟩⟩
  · exact ⟨a, rfl, .inr ⟨⟨xs, SqT.of h⟩, k2⟩⟩
theorem seqAt_ex {H' : Hp} (h : SeqAt H a xs) (e : Ex H H') : SeqAt H' a xs := h.elim (fun z => .inl (e _ _ z)) (fun z => .inr (e _ _ z))
/-- a comprehension over it, without a test -/
theorem lc_seq (h : SeqAt H a xs) (v : V → V) (hz : xs.length ≤ 40000) (hw : ∀ x, wipe ((wipe σ vs).set j (some x)) vs = wipe σ vs)
    (he : ∀ (i : Nat) (x : V) H1, Ex H H1 → xs[i]? = some x → ∀ Q1 : VK, (∀ H2, Ex H1 H2 → Q1 (v x) H2) → te ((wipe σ vs).set j (some x)) H1 Q1)
    (k : ∀ p H2, H p = none → Ex H H2 → H2 p = some (.lst (xs.map v)) → Q (.ref p) H2) :
    ∃ b, V.ref a = .ref b ∧ (((∃ xs, SqL K H b xs) ∧ lcR (gName j) tYes te vs σ Q (Itl K b) H) ∨ ((∃ xs, SqT K H b xs) ∧ lcR (gName j) tYes te vs σ Q (Itt K b) H)) := by
  rcases h with h | h
  · exact ⟨a, rfl, .inl ⟨⟨xs, SqL.of h⟩, lc_allL h v hz hw he k⟩⟩
  · exact ⟨a, rfl, .inr ⟨⟨xs, SqT.of h⟩, lc_allT h v hz hw he k⟩⟩
end
end Pp
-- PpU1
set_option maxRecDepth 100000
set_option maxHeartbeats 4000000
namespace Pp
open PySem PySem.Spec PyProof.Rows L2 Evl
section
variable {P : Program} {w : World} {K : PySem.W.Frag} {mg : Str → Option Value} {base : Heap} {H : Hp} {Q : VK} {E : XK}
theorem i_sV {v : V} (h : OkV v) (k : Q (.str (sV v)) H) : rStrV [v] H Q := by
  cases v with
  | int i => exact i_strVI (log_lt h) k
  | str z => exact i_strVS k
  | _ => exact h.elim
theorem map_str (vs : List V) : (vs.map fun v => V.str (sV v)) = (vs.map sV).map V.str := by rw [List.map_map]; rfl
abbrev s_in_blanks : Stmt := top 20
abbrev N_in_blanks : List Str := ["things", "thing"]
theorem sc_in_blanks : FnScope N_in_blanks ["things"] (defScope s_in_blanks) := ⟨rfl, rfl, rfl, by decide +kernel, rfl, by decide +kernel, by decide +kernel⟩
def sp_in_blanks : Sp := fun vs H Q _ => ∃ (a : Addr) (xs : List V), vs = [.ref a] ∧ SeqAt H a xs ∧ (∀ v ∈ xs, OkV v) ∧ xs.length ≤ 40000 ∧ RetV (.str (Txt.join " " (xs.map sV))) H Q
theorem ok_in_blanks (T : Txt K mg w) {f : Addr} {fd : FuncData} (F : DefAt K "in_blanks" "in_blanks" s_in_blanks f fd) : FnOk P w K mg base CX0 1 f fd ["things"] sp_in_blanks := by
  refine ok0 F sc_in_blanks (fun vs H Q E h => ?_) (fun cdv A outer s H vs Q E hr h => ?_)
  · walk_at "len"
  · obtain ⟨a, xs, rfl, hs, hok, hl, kq⟩ := h
    refine ⟨_, (pss_one (ps_ret (pe_joinX pe_str (pe_lc (own := [("thing", 1)]) (g := gName 1) (tt := tYes) rfl sc_in_blanks.nd (pi_seq (pv 0)) (blkOk_by (own := [("thing", 1)]) (N := N_in_blanks) (sc := defScope s_in_blanks) (by decide +kernel)) (fun _ _ _ _ _ => pg_name (i := 1) sc_in_blanks.nd rfl (Or.inl rfl)) (fun _ _ _ _ _ => pts_nil) (fun _ _ _ _ _ => (pe_callTy cr_strV (by rfl) T.b_str (by decide +kernel) (pa_cons (pv 1) pa_nil))))))), ?_⟩
    walk_at "go"
    refine lc_seq hs (fun v => .str (sV v)) hl (fun _ => rfl) (fun i x H1 e hx Q1 q => ?_) (fun p H2 hp e g => ?_)
    · walk_at "go"
      exact i_sV (hok x (List.mem_of_getElem? hx)) (q _ (Ex.refl _))
    · rw [map_str] at g
      walk_at "go"
      refine i_join g (join_ok hok hl (by decide +kernel)) ?_
      exact kq _ (by walk_at "ex")
theorem cal_in_blanks (T : Txt K mg w) : Cal P w K mg base CX0 1 "in_blanks" sp_in_blanks := calOf T.g_in_blanks T.d_in_blanks (fun _ F => ok_in_blanks T F) (fun _ _ _ _ _ _ us hl => match us, hl with | [_], _ => rfl)
abbrev s_in_stops : Stmt := top 21
abbrev N_in_stops : List Str := ["things", "thing"]
theorem sc_in_stops : FnScope N_in_stops ["things"] (defScope s_in_stops) := ⟨rfl, rfl, rfl, by decide +kernel, rfl, by decide +kernel, by decide +kernel⟩
def sp_in_stops : Sp := fun vs H Q _ => ∃ (a : Addr) (ns : List Int), vs = [.ref a] ∧ H a = some (.tup (ns.map V.int)) ∧ (∀ n ∈ ns, n.natAbs < 10 ^ 100) ∧ ns.length ≤ 40000 ∧ RetV (.str (Txt.join "." (ns.map fun n => sV (.int n)))) H Q
theorem ok_in_stops (T : Txt K mg w) {f : Addr} {fd : FuncData} (F : DefAt K "in_stops" "in_stops" s_in_stops f fd) : FnOk P w K mg base CX0 1 f fd ["things"] sp_in_stops := by
  refine ok0 F sc_in_stops (fun vs H Q E h => ?_) (fun cdv A outer s H vs Q E hr h => ?_)
  · walk_at "len"
  · obtain ⟨a, ns, rfl, hs, hok, hl, kq⟩ := h
    refine ⟨_, (pss_one (ps_ret (pe_joinX pe_str (pe_lc (own := [("thing", 1)]) (g := gName 1) (tt := tYes) rfl sc_in_stops.nd (pi_tup (pv 0)) (blkOk_by (own := [("thing", 1)]) (N := N_in_stops) (sc := defScope s_in_stops) (by decide +kernel)) (fun _ _ _ _ _ => pg_name (i := 1) sc_in_stops.nd rfl (Or.inl rfl)) (fun _ _ _ _ _ => pts_nil) (fun _ _ _ _ _ => (pe_callTy cr_strI (by rfl) T.b_str (by decide +kernel) (pa_cons (pv 1) pa_nil))))))), ?_⟩
    walk_at "go"
    refine lc_intsT hs (fun n => .str (sV (.int n))) hl (fun _ => rfl) (fun n H1 e hn Q1 q => ?_) (fun p H2 hp e g => ?_)
    · walk_at "go"
      exact i_strI (log_lt (hok n hn)) (q _ (Ex.refl _))
    · have e2 : (ns.map fun n => V.str (sV (.int n))) = ((ns.map V.int).map sV).map V.str := by rw [List.map_map, List.map_map]; rfl
      have e3 : (ns.map V.int).map sV = ns.map fun n => sV (.int n) := by rw [List.map_map]; rfl
      rw [e2] at g
      walk_at "go"
      refine i_join g (join_ok (fun v hv => ?_) (by rw [List.length_map]; exact hl) (by decide +kernel)) ?_
      · obtain ⟨n, hn, rfl⟩ := List.mem_map.mp hv
        exact hok n hn
      · rw [e3]
        exact kq _ (by walk_at "ex")
theorem cal_in_stops (T : Txt K mg w) : Cal P w K mg base CX0 1 "in_stops" sp_in_stops := calOf T.g_in_stops T.d_in_stops (fun _ F => ok_in_stops T F) (fun _ _ _ _ _ _ us hl => match us, hl with | [_], _ => rfl)
/-! ### calls -/
def callText (c : Cl) : Str := Txt.join " " (c.vs.map sV)
/-- its numbers have at most 40 digits -/
def Cl.Sm (c : Cl) : Prop := ∀ n ∈ c.ns, n.natAbs < 10 ^ 40
theorem sm_ok {n : Int} (h : n.natAbs < 10 ^ 40) : n.natAbs < 10 ^ 100 := Nat.lt_of_lt_of_le h (by decide +kernel)
theorem word_len (c : Cl) : c.word.length ≤ 6 := by cases c <;> exact of_decide_eq_true rfl
theorem ns_len (c : Cl) : c.ns.length ≤ 3 := by cases c <;> simp [Cl.ns]
theorem vs_ok {c : Cl} (h : c.Sm) : ∀ v ∈ c.vs, OkV v := by
  intro v hv
  rw [Cl.vs_wv] at hv
  rcases List.mem_cons.mp hv with rfl | hv
  · have := word_len c
    show c.word.length ≤ 300
    omega
  · obtain ⟨n, hn, rfl⟩ := List.mem_map.mp hv
    exact sm_ok (h n hn)
theorem vs_len (c : Cl) : c.vs.length ≤ 4 := by
  rw [Cl.vs_wv]
  have := ns_len c
  simp [wv]
  omega
theorem callText_len {c : Cl} (h : c.Sm) : (callText c).length ≤ 200 := by
  have := join_len (y := " ") (xs := c.vs.map sV) (k := 41) fun x hx => by
    rw [Cl.vs_wv] at hx
    obtain ⟨v, hv, rfl⟩ := List.mem_map.mp hx
    rcases List.mem_cons.mp hv with rfl | hv
    · have := word_len c
      show c.word.length ≤ 41
      omega
    · obtain ⟨n, hn, rfl⟩ := List.mem_map.mp hv
      rw [show sV (.int n) = Str.ofString (toString n) from rfl, TL.len_tl, tl_int]
      exact numZ_len (by decide) (h n hn)
  rw [List.length_map] at this
  have hv := vs_len c
  have h1 : (" " : Str).length = 1 := rfl
  rw [h1] at this
  unfold callText
  omega
abbrev s_show_call : Stmt := top 22
abbrev N_show_call : List Str := ["call"]
theorem sc_show_call : FnScope N_show_call ["call"] (defScope s_show_call) := ⟨rfl, rfl, rfl, by decide +kernel, rfl, by decide +kernel, by decide +kernel⟩
def sp_show_call : Sp := fun vs H Q _ => ∃ (a : Addr) (c : Cl), vs = [.ref a] ∧ H a = some (.tup c.vs) ∧ c.Sm ∧ RetV (.str (callText c)) H Q
theorem ok_show_call (T : Txt K mg w) {f : Addr} {fd : FuncData} (F : DefAt K "show_call" "show_call" s_show_call f fd) : FnOk P w K mg base CX0 2 f fd ["call"] sp_show_call := by
  refine ok0 F sc_show_call (fun vs H Q E h => ?_) (fun cdv A outer s H vs Q E hr h => ?_)
  · walk_at "len"
  · obtain ⟨a, c, rfl, hs, hok, kq⟩ := h
    refine ⟨_, (pss_one (ps_ret (pe_cal (cal_in_blanks T) hr px0 (pa_cons (pv 0) pa_nil)))), ?_⟩
    walk_at "go"
    exact ⟨a, c.vs, rfl, .inr hs, vs_ok hok, by have := vs_len c; omega, kq⟩
theorem cal_show_call (T : Txt K mg w) : Cal P w K mg base CX0 2 "show_call" sp_show_call := calOf T.g_show_call T.d_show_call (fun _ F => ok_show_call T F) (fun _ _ _ _ _ _ us hl => match us, hl with | [_], _ => rfl)
theorem u_show_call {a : Addr} {c : Cl} (h1 : H a = some (.tup c.vs)) (h2 : c.Sm) (k : RetV (.str (callText c)) H Q) : sp_show_call [.ref a] H Q E := ⟨a, c, rfl, h1, h2, k⟩
abbrev s_show_place : Stmt := top 24
abbrev N_show_place : List Str := ["place"]
theorem sc_show_place : FnScope N_show_place ["place"] (defScope s_show_place) := ⟨rfl, rfl, rfl, by decide +kernel, rfl, by decide +kernel, by decide +kernel⟩
def sp_show_place : Sp := fun vs H Q _ => ∃ (a : Addr) (ns : List Int), vs = [.ref a] ∧ H a = some (.tup (ns.map V.int)) ∧ (∀ n ∈ ns, n.natAbs < 10 ^ 100) ∧ ns.length ≤ 40000 ∧ RetV (.str (Txt.join "." (ns.map fun n => sV (.int n)))) H Q
theorem ok_show_place (T : Txt K mg w) {f : Addr} {fd : FuncData} (F : DefAt K "show_place" "show_place" s_show_place f fd) : FnOk P w K mg base CX0 2 f fd ["place"] sp_show_place := by
  refine ok0 F sc_show_place (fun vs H Q E h => ?_) (fun cdv A outer s H vs Q E hr h => ?_)
  · walk_at "len"
  · obtain ⟨a, ns, rfl, hs, hok, hl, kq⟩ := h
    refine ⟨_, (pss_one (ps_ret (pe_cal (cal_in_stops T) hr px0 (pa_cons (pv 0) pa_nil)))), ?_⟩
    walk_at "go"
    exact ⟨a, ns, rfl, hs, hok, hl, kq⟩
theorem cal_show_place (T : Txt K mg w) : Cal P w K mg base CX0 2 "show_place" sp_show_place := calOf T.g_show_place T.d_show_place (fun _ F => ok_show_place T F) (fun _ _ _ _ _ _ us hl => match us, hl with | [_], _ => rfl)
/-! ### scripts -/
def scrText (files : Int) (cs : List Cl) : Str := Str.ofString (toString files) ++ ":" ++ Txt.join "," (cs.map fun c => " " ++ callText c)
theorem lc_idxT {σ : L2.St} {te : TE} {vs : List Nat} {j : Nat} {a : Addr} {xs : List V} (h : H a = some (.tup xs)) (c : List V) (hc : c.length = xs.length) (hz : xs.length ≤ 40000) (hw : ∀ x, wipe ((wipe σ vs).set j (some x)) vs = wipe σ vs)
    (he : ∀ (i : Nat) (x y : V) H1, Ex H H1 → xs[i]? = some x → c[i]? = some y → ∀ Q1 : VK, (∀ H2, Ex H1 H2 → Q1 y H2) → te ((wipe σ vs).set j (some x)) H1 Q1)
    (k : ∀ p H2, H p = none → Ex H H2 → H2 p = some (.lst c) → Q (.ref p) H2) : lcR (gName j) tYes te vs σ Q (Itt K a) H := by
  refine ⟨fun Dl hD => ?_⟩
  refine lc_it (walk_tup (K := K) (a := a) (xs := xs)) (fun i H' => H Dl = none ∧ Ex H H' ∧ H' Dl = some (.lst (c.take i))) ⟨hD, Ex.new hD, by rw [List.take_zero]; exact upd_same⟩ (fun i H' _ p => SqT.of (p.2.1 _ _ h)) ?_ (fun H' p => k Dl H' p.1 p.2.1 (by rw [p.2.2, ← hc, List.take_length]))
  rintro i x H1 H2 hi ⟨p0, p1, p2⟩ ⟨rfl, hx⟩
  refine ⟨hw x, ?_⟩
  obtain ⟨y, hy⟩ : ∃ y, c[i]? = some y := ⟨_, List.getElem?_eq_getElem (by omega)⟩
  dsimp only [tYes]
  rw [if_pos rfl]
  have ln : (c.take i).length < sizeLine := by
    rw [List.length_take]
    exact sz_lt (by omega)
  refine he i x y _ p1 hx hy _ fun H4 e4 => ⟨_, e4 _ _ p2, ln, p0, Ex.mut (p1.trans e4) p0, ?_⟩
  rw [upd_same, List.take_succ, hy]
  rfl
abbrev s_show_script : Stmt := top 23
abbrev N_show_script : List Str := ["script", "calls", "call"]
theorem sc_show_script : FnScope N_show_script ["script"] (defScope s_show_script) := ⟨rfl, rfl, rfl, by decide +kernel, rfl, by decide +kernel, by decide +kernel⟩
def sp_show_script (K : PySem.W.Frag) : Sp := fun vs H Q _ => ∃ (a : Addr) (files : Int) (cs : List Cl), vs = [.ref a] ∧ ScrAt K H a files cs ∧ files.natAbs < 10 ^ 40 ∧ (∀ c ∈ cs, c.Sm) ∧ cs.length ≤ 250 ∧ RetV (.str (scrText files cs)) H Q
theorem ok_show_script (T : Txt K mg w) {f : Addr} {fd : FuncData} (F : DefAt K "show_script" "show_script" s_show_script f fd) : FnOk P w K mg base CX0 3 f fd ["script"] (sp_show_script K) := by
  refine ok0 F sc_show_script (fun vs H Q E h => ?_) (fun cdv A outer s H vs Q E hr h => ?_)
  · walk_at "len"
  · obtain ⟨a, files, cs, rfl, hs, hf, hok, hl, kq⟩ := h
    have hs0 := hs
    obtain ⟨dx, st, as, hs1, hs2, hs3⟩ := hs
    have hlen := hs3.len
    refine ⟨_, (pss_cons (ps_set (i := 1) sc_show_script.nd rfl (Or.inl rfl) (pe_joinX pe_str (pe_lc (own := [("call", 2)]) (g := gName 2) (tt := tYes) rfl sc_show_script.nd (pi_own (own_Script T) hr (pv 0)) (blkOk_by (own := [("call", 2)]) (N := N_show_script) (sc := defScope s_show_script) (by decide +kernel)) (fun _ _ _ _ _ => pg_name (i := 2) sc_show_script.nd rfl (Or.inl rfl)) (fun _ _ _ _ _ => pts_nil) (fun _ _ _ _ _ => (pe_op op_addS pe_str (pe_cal (cal_show_call T) hr px0 (pa_cons (pv 2) pa_nil)))))))
  (pss_one (ps_ret (pe_op op_addS (pe_op op_addS (pe_callTy cr_strI (by rfl) T.b_str (by decide +kernel) (pa_cons (pe_prp (pv 0) (prp_Script_files T) hr) pa_nil)) pe_str) (pv 1))))), ?_⟩
    walk_at "go"
    refine lc_idxT hs2 ((cs.map fun c => " " ++ callText c).map V.str) (by simp; omega) (by simp; omega) (fun _ => rfl) (fun i x y H1 e hx hy Q1 q => ?_) (fun p H2 hp e g => ?_)
    · obtain ⟨pc, c, rfl, hi, hc1, hc2⟩ := hs3.get hx
      rw [List.map_map, List.getElem?_map, hc1] at hy
      have hy := Option.some.inj hy
      have hsm := hok c (List.mem_of_getElem? hc1)
      walk_at "go"
      refine u_show_call (e _ _ hc2) hsm fun H3 e3 => ?_
      refine i_catS (by have := callText_len hsm; have h1 : (" " : Str).length = 1 := rfl; omega) ?_
      have := q H3 e3
      rw [← hy] at this
      exact this
    · have hw : ∀ x ∈ (cs.map fun c => " " ++ callText c), x.length ≤ 201 := fun x hx => by
        obtain ⟨c, hc, rfl⟩ := List.mem_map.mp hx
        have := callText_len (hok c hc)
        rw [TL.len_tl, TL.tl_append, List.length_append, ← TL.len_tl, ← TL.len_tl]
        have h1 : (" " : Str).length = 1 := rfl
        omega
      have hj := join_len (y := ",") hw
      have hj2 := sum_le hw
      rw [List.length_map] at hj hj2
      have h1 : (",": Str).length = 1 := rfl
      rw [h1] at hj
      walk_at "go"
      refine i_join g (by rw [List.length_map, h1]; omega) ?_
      have hs2' := ScrAt.ex hs0 e
      obtain ⟨dx', st', as', k1, k2, k3⟩ := hs2'
      walk_at "go"
      refine i_strI (log_lt (sm_ok hf)) ?_
      walk_at "go"
      have hn := numZ_len (by decide : 0 < 40) hf
      rw [← tl_int, ← TL.len_tl] at hn
      have h2 : (":": Str).length = 1 := rfl
      refine i_catS (by omega) ?_
      walk_at "go"
      refine i_catS (by rw [TL.len_tl, TL.tl_append, List.length_append, ← TL.len_tl, ← TL.len_tl]; omega) ?_
      exact kq _ (by walk_at "ex")
theorem cal_show_script (T : Txt K mg w) : Cal P w K mg base CX0 3 "show_script" (sp_show_script K) := calOf T.g_show_script T.d_show_script (fun _ F => ok_show_script T F) (fun _ _ _ _ _ _ us hl => match us, hl with | [_], _ => rfl)
theorem u_show_script {a : Addr} {files : Int} {cs : List Cl} (h1 : ScrAt K H a files cs) (h2 : files.natAbs < 10 ^ 40) (h3 : ∀ c ∈ cs, c.Sm) (h4 : cs.length ≤ 250) (k : RetV (.str (scrText files cs)) H Q) : sp_show_script K [.ref a] H Q E := ⟨a, files, cs, rfl, h1, h2, h3, h4, k⟩
end
end Pp
-- PpU2
set_option maxRecDepth 100000
set_option maxHeartbeats 4000000
namespace Pp
open PySem PySem.Spec PyProof.Rows L2 Evl
/-- a value as it is shown in a row: a dash for None -/
def dashV : V → V
  | .non => .str "-"
  | v => v
def OkN (v : V) : Prop := v = .non ∨ OkV v
def oneText (vs : List V) : Str := if vs.isEmpty then "none" else Txt.join " " (vs.map fun v => sV (dashV v))
theorem dash_ok {v : V} (h : OkN v) : OkV (dashV v) := by
  rcases h with rfl | h
  · exact (by decide : ("-" : Str).length ≤ 300)
  · cases v with
    | non => exact h.elim
    | _ => exact h
section
variable {P : Program} {w : World} {K : PySem.W.Frag} {mg : Str → Option Value} {base : Heap} {H : Hp} {Q : VK} {E : XK}
abbrev s_in_one : Stmt := top 64
abbrev N_in_one : List Str := ["things", "thing"]
theorem sc_in_one : FnScope N_in_one ["things"] (defScope s_in_one) := ⟨rfl, rfl, rfl, by decide +kernel, rfl, by decide +kernel, by decide +kernel⟩
def sp_in_one : Sp := fun vs H Q _ => ∃ (a : Addr) (xs : List V), vs = [.ref a] ∧ H a = some (.lst xs) ∧ (∀ v ∈ xs, OkN v) ∧ xs.length ≤ 40000 ∧ RetV (.str (oneText xs)) H Q
theorem ok_in_one (T : Txt K mg w) {f : Addr} {fd : FuncData} (F : DefAt K "in_one" "in_one" s_in_one f fd) : FnOk P w K mg base CX0 2 f fd ["things"] sp_in_one := by
  refine ok0 F sc_in_one (fun vs H Q E h => ?_) (fun cdv A outer s H vs Q E hr h => ?_)
  · walk_at "len"
  · obtain ⟨a, xs, rfl, hs, hok, hl, kq⟩ := h
    refine ⟨_, (pss_one (ps_ret (pe_ifExp (pt_truth (pv 0) (by intro _; rfl)) (pe_cal (cal_in_blanks T) hr px0 (pa_cons (pe_lc (own := [("thing", 1)]) (g := gName 1) (tt := tYes) rfl sc_in_one.nd (pi_list (pv 0)) (blkOk_by (own := [("thing", 1)]) (N := N_in_one) (sc := defScope s_in_one) (by decide +kernel)) (fun _ _ _ _ _ => pg_name (i := 1) sc_in_one.nd rfl (Or.inl rfl)) (fun _ _ _ _ _ => pts_nil) (fun _ _ _ _ _ => (pe_ifExp (pt_cmpR op_isN (pv 1) pe_non (nomark _)) pe_str (pv 1)))) pa_nil)) pe_str))), ?_⟩
    walk_at "go"
    refine ⟨!xs.isEmpty, .inl ⟨xs, SqL.of hs, rfl⟩, ?_⟩
    unfold oneText at kq
    cases hx : xs.isEmpty with
    | true =>
      rw [hx] at kq
      walk_at "go"
      exact kq _ (by walk_at "ex")
    | false =>
      rw [hx] at kq
      refine i_nf ?_
      walk_at "go"
      refine lc_allL hs dashV hl (fun _ => rfl) (fun i x H1 e hx1 Q1 q => ?_) (fun p H2 hp e g => ?_)
      · have hok1 := hok x (List.mem_of_getElem? hx1)
        walk_at "go"
        refine ⟨rfl, ?_⟩
        refine i_bl ?_
        refine i_dec (fun h => ?_) (fun h => ?_)
        · subst h
          exact q _ (Ex.refl _)
        · walk_at "go"
          have e2 : dashV x = x := by
            rcases hok1 with z | z
            · exact absurd z h
            · cases x <;> first | rfl | exact absurd rfl h
          have := q _ (Ex.refl _)
          rw [e2] at this
          exact this
      · walk_at "go"
        refine ⟨p, xs.map dashV, rfl, .inl g, fun v hv => ?_, by rw [List.length_map]; exact hl, ?_⟩
        · obtain ⟨u, hu, rfl⟩ := List.mem_map.mp hv
          exact dash_ok (hok u hu)
        · rw [List.map_map]
          exact fun H3 e3 => kq H3 (e.trans e3)
theorem cal_in_one (T : Txt K mg w) : Cal P w K mg base CX0 2 "in_one" sp_in_one := calOf T.g_in_one T.d_in_one (fun _ F => ok_in_one T F) (fun _ _ _ _ _ _ us hl => match us, hl with | [_], _ => rfl)
theorem u_in_one {a : Addr} {xs : List V} (h1 : H a = some (.lst xs)) (h2 : ∀ v ∈ xs, OkN v) (h3 : xs.length ≤ 40000) (k : RetV (.str (oneText xs)) H Q) : sp_in_one [.ref a] H Q E := ⟨a, xs, rfl, h1, h2, h3, k⟩
end
end Pp
-- PpK
set_option maxRecDepth 100000
set_option maxHeartbeats 4000000
/-! A list comprehension whose element's call lets an exception out (its context None). -/
namespace Pp
open PySem PySem.Spec PyProof.Rows L2
theorem frames_sub {h B B2 : Heap} (s : ∀ b, B.get? b = none → B2.get? b = none) : ∀ {l : List Env}, h.FunFrames B l → h.FunFrames B2 l
  | [], _ => trivial
  | _ :: _, ⟨hk, ⟨L, o, hf, hb, ho, hd⟩, hr⟩ => ⟨hk, ⟨L, o, hf, s L hb, ho, hd⟩, frames_sub s hr⟩
theorem held_sub {h B B2 : Heap} {l : List Env} {a L : Addr} {Z : Obj → Prop} (s : ∀ b, B.get? b = none → B2.get? b = none) (k : ∀ b o, B2.get? b = some o → B.get? b = some o) (x : HandSPX.HeldZ B l a Z L h) : HandSPX.HeldZ B2 l a Z L h := by
  obtain ⟨f1, f2, f3, oe, vs, T, oT, ts, he, hz, hd, h1, hnT, r⟩ := x
  exact ⟨fun b o e => f1 b o (k b o e), s a f2, frames_sub s f3, oe, vs, T, oT, ts, he, hz, hd, h1, s T hnT, r⟩
theorem traced_but {h h' B : Heap} {a C : Addr} {Z : Obj → Prop} {fl : Value} {m : Str → Option Value} (hn : h.Ns C m) (hs : Heap.SameBut C h h') (x : HandSPX.TracedZ h B a Z fl) : HandSPX.TracedZ h' B a Z fl := by
  obtain ⟨oe, vs, T, oT, ts, he, hz, hd, h1, hnT, hTe, hT, hdT, h3⟩ := x
  obtain ⟨oC, es, ep, hC, dC, _⟩ := hn
  have n1 : a ≠ C := fun q => by
    subst q
    rw [hC] at he
    cases he
    rw [dC] at hd
    cases hd
  have n2 : T ≠ C := fun q => by
    subst q
    rw [hC] at hT
    cases hT
    rw [dC] at hdT
    cases hdT
  exact ⟨oe, vs, T, oT, ts, (hs.2 a n1).trans he, hz, hd, h1, hnT, hTe, (hs.2 T n2).trans hT, hdT, h3⟩
theorem held_but {h h' B : Heap} {l : List Env} {a L C : Addr} {Z : Obj → Prop} {m m' : Str → Option Value} (hC : B.get? C = none) (hn : h.Ns C m) (hn' : h'.Ns C m') (hs : Heap.SameBut C h h') (x : HandSPX.HeldZ B l a Z L h) : HandSPX.HeldZ B l a Z L h' := by
  obtain ⟨f1, f2, f3, f4⟩ := x
  exact ⟨fun b o e => (hs.2 b fun q => by subst q; rw [hC] at e; cases e).trans (f1 b o e), f2, Heap.FunFrames.sameBut hs hn' f3, traced_but hn hs f4⟩
section
variable {X : Cx} {σ : L2.St} {H : Hp} {s s' : Shared} {pins : List (Addr × Obj)}
/-- the exception of a call in the element goes out of the comprehension into the def's own air -/
theorem comp_raise {W : WX} {E : XK} {C : Addr} {ce : Env} {m : Str → Option Value} {u : Value} (tk : L2N.Takes X W) (hW : ∀ cls d σ H, E cls d H → W cls d σ H) (hst : X.stack = X.env :: X.outer) (hf : X.env.frame = some X.env.locals)
    (I : Inv X pins σ H s) (hn : s.heap.Ns C m) (f : FpOk X pins H C) (hnf : C ∉ frs X.stack) (hcf : ce.frame = X.env.frame) (hcl : ce.locals = C) (c : L2N.CX X.prog X.w X.stack H s E u s') :
    notedBy (model X.prog X.w) X.A ce (CompFails (model X.prog X.w) X.A X.xe ce) u s' := by
  obtain ⟨f0, f1, f2, f3, f4, f5⟩ := f
  have ok := I.ok
  have hfr : X.A.frames = some (X.env :: X.outer) := by rw [ok.frames, hst]
  -- the block's own names still stand
  have hn' : s'.heap.Ns C m := by
    obtain ⟨a, B, H', cls, d, rfl, fl, hok, ub, na, os, ag, hE⟩ := c
    obtain ⟨oC, es, ep, hC, r⟩ := hn
    exact ⟨oC, es, ep, fl.1 _ _ (ub.keep C oC hC f0 hnf), r⟩
  have c2 : L2N.CX X.prog X.w X.stack H s (fun cls d H' => E cls d H' ∧ H' C = none) u s' := by
    obtain ⟨a, B, H', cls, d, hu, fl, hok, ub, na, os, ag, hE⟩ := c
    obtain ⟨oC, es, ep, hC, r⟩ := hn
    exact ⟨a, B, H', cls, d, hu, fl, hok, ub, na, os, ag, hE, ub.free C oC hC f0⟩
  have x := L2N.XE.of_call (W := fun cls d _ H' => E cls d H' ∧ H' C = none) I (fun _ _ _ z => z) c2
  obtain ⟨a, B, sI, pins', σ', H', cls, d, rfl, J, nb, up, sky, na, os, ag, hE, hC'⟩ := x
  have J0 : Inv X [] σ' H' sI := Inv.unpinned (pins := []) (pl := pins') (by simpa using J)
  rw [hst] at sky
  show wpAny (model X.prog X.w) X.A (noteFrame (.ref a) ce) _ _ s'
  rw [noteFrame_env _ hcf]
  -- held by the def's frame
  have key : ∀ h3, HandSPX.HeldZ B (X.env :: X.outer) a (L2N.Zn cls d) X.env.locals h3 → s'.heap.UpToSlots h3 → CompFails (model X.prog X.w) X.A X.xe ce (.ref a) { s' with heap := h3 } := by
    intro h3 hh up3
    have hn3 : h3.Ns ce.locals m := by rw [hcl]; exact up3.ns hn'
    refine ⟨m, hn3, fun h4 m4 hn4 sb4 => ?_⟩
    rw [hcl] at hn3 hn4 sb4
    obtain ⟨B2, b1, b2⟩ := restrict B fun b => decide (b ≠ C)
    have hB2 : B2.get? C = none := b2 C (by simp)
    have kB : ∀ b o, B2.get? b = some o → B.get? b = some o := fun b o e => by
      by_cases q : b = C
      · subst q; rw [hB2] at e; cases e
      · rw [← b1 b (by simp [q])]; exact e
    have sB : ∀ b, B.get? b = none → B2.get? b = none := fun b e => by
      by_cases q : b = C
      · subst q; exact hB2
      · rw [b1 b (by simp [q])]; exact e
    have h4h := held_but hB2 hn3 hn4 sb4 (held_sub sB kB hh)
    obtain ⟨k1, k2, k3, oe, vs, T, oT, ts, he, hz, hd, h1, r⟩ := id h4h
    unfold PySem.passOn
    refine wpAny_bind (wpAny_field he hd h1 ?_)
    rw [if_neg (show ¬ ((Value.ref T == Value.none) = true) from by simp), hcf, hf]
    refine wpAny_bind (HandSPX.setFlight_onZ h4h fun h5 hh5 up5 => wpAny_throw (tk _ _ ?_))
    obtain ⟨G, g1, g2⟩ := restrict sI.heap fun b => decide (b ≠ C)
    have hG : G.get? C = none := g2 C (by simp)
    have kG : ∀ b o, G.get? b = some o → b ≠ C ∧ sI.heap.get? b = some o := fun b o e => by
      by_cases q : b = C
      · subst q; rw [hG] at e; cases e
      · exact ⟨q, by rw [← g1 b (by simp [q])]; exact e⟩
    refine ⟨a, B2, { sI with heap := G }, [], σ', H', cls, d, rfl, J0.turned (t' := sI.toks) (it := C) (fun b o q e => by rw [g1 b (by simp [q])]; exact e) hC' f1 f3 f4 (fun p hp => f5 p (by
      rw [List.append_nil] at hp
      exact List.mem_append_left _ hp)), fun b o e hb => ?_, fun b o e nf => ?_, .inr (.inr (by rw [hst]; exact hh5)), na, os, ag, hW _ _ _ _ hE⟩
    · obtain ⟨q, e2⟩ := kG b o e
      rw [b1 b (by simp [q])]
      exact nb b o e2 hb
    · obtain ⟨q, e2⟩ := kG b o e
      obtain ⟨sl1, z1⟩ := up b o e2 nf
      obtain ⟨sl2, z2⟩ := up3 b _ z1 nf
      obtain ⟨sl3, z3⟩ := up5 b _ ((sb4.2 b q).trans z2) nf
      exact ⟨sl3, z3⟩
  rcases sky with ⟨k1, k2, k3, oe, vs, he, hz, hd, h1⟩ | fl | hh
  · exact PXN.look_newZ L2N.Zn.steady hfr k3 hf he k1 k2 hd h1 hz fun h3 hh up3 => key h3 hh up3
  · exact PXN.looks_onZ L2N.Zn.steady hfr hf fl fun h3 hh up3 => key h3 hh up3
  · obtain ⟨k1, k2, k3, k4⟩ := id hh
    exact HandSPX.againZ hf k4 (key s'.heap hh (Heap.UpToSlots.refl _))
end
end Pp
-- PpK2
set_option maxRecDepth 100000
set_option maxHeartbeats 4000000
namespace Pp
open PySem PySem.Spec PyProof.Rows L2
section
variable {X : Cx}
/-- [elt for ..] whose element may let an exception out of a call -/
theorem pe_lcX {W : WX} {EX : XK} {elt tg iter : Expr} {scope : Scope} {own : List (Str × Nat)} {pos : Pos} {wi : TI} {g : TG} {te : TE}
    (tk : L2N.Takes X W) (hW : ∀ cls d σ H, EX cls d H → W cls d σ H) (hst : X.stack = X.env :: X.outer) (hfl : X.env.frame = some X.env.locals) (hc : X.calm = true) (hN : X.N.Nodup) (hi : PI X tg iter wi) (ok : BlkOk X.N X.env.scope scope own)
    (hg : ∀ (s : Shared) (H : Hp) (C : Addr) (cl : List (Str × Addr)) (fp : List Addr), PG (X.blk s H scope (compEnvC scope cl C X.env) fp) tg g)
    (he : ∀ (s : Shared) (H : Hp) (C : Addr) (cl : List (Str × Addr)) (fp : List Addr) (xe : Value → Shared → Prop), Passes (L2N.CX X.prog X.w) ((X.blk s H scope (compEnvC scope cl C X.env) fp).wish xe) EX → PE ((X.blk s H scope (compEnvC scope cl C X.env) fp).wish xe) elt te) (hs : ∀ x, foldedSetIterable iter X.env x = pure x := by intro _; rfl) :
    PE X (.ListComp elt [⟨tg, iter, [], 0⟩] scope pos) (tLc wi g tYes te (own.map (·.2))) := by
  refine ⟨fun pins s σ H Q I h => ?_⟩
  rw [eval_ListComp]
  have hfree : ∀ y ∈ scope.names, y.2 = .free → ∃ c, X.env.cells.lookup y.1 = some c := fun y hy e => (ok.free y hy e).elim (fun k => I.ok.has _ (.inl k)) fun k => I.ok.has _ (.inr k)
  refine comprehension_at (use := none) rfl hs (closure_ok hfree) ok.kind (fun y hy e => by rw [ok.uniq y hy, e])
    (thn (hi.run pins s σ H _ I h) fun xv s1 hx => thn hx fun itv s2 h2 => ?_)
  obtain ⟨it, fp, tn, J, H2, rfl, I2, T, st2, f2, q⟩ := h2
  refine wpAny_newObj_type (newEnv_comp ?_) (by show 0 ≤ sizeLine; decide)
  generalize hD : s2.heap.objs.size = D
  obtain ⟨W0, ⟨m0, w0⟩, turn⟩ := q D (I2.hok.fresh (Nat.le_of_eq hD))
  generalize hs3 : ({ s2 with heap := s2.heap.push { cls := .type "list", data := .seq ([] : List Value).toArray } } : Shared) = s3
  have I3 : Inv X pins σ (upd H2 D (.lst [])) s3 := by
    rw [← hs3]
    refine I2.laid (t' := s2.toks) (fun b o e => Heap.get?_push_of_some _ e) (Nat.le_of_eq hD) ⟨Nat.zero_le _, [], 0, .nil, ?_⟩
    rw [← hD]
    exact Heap.get?_push_size _ rfl
  have h3 : s3.heap = s2.heap.push { cls := .type "list", data := .seq ([] : List Value).toArray } := by rw [← hs3]
  have f3 : ∀ b ∈ fp, FpOk X pins (upd H2 D (.lst [])) b ∧ b < s3.heap.objs.size := fun b hb => by
    obtain ⟨o, e, _⟩ := T.obj _ _ st2 b hb
    have hlt := Heap.lt_size e
    refine ⟨⟨?_, (f2 b hb).2⟩, by rw [h3, Heap.size_push]; exact Nat.lt_succ_of_lt hlt⟩
    rw [upd_ne (by rw [← hD]; exact Nat.ne_of_lt hlt)]
    exact (f2 b hb).1
  have st3 : tn 0 s3.heap := T.keep _ _ _ st2 fun b _ o e => by rw [h3]; exact Heap.get?_push_of_some _ e
  have I4 := block_start I3 ok hN f3
  have pg := hg s3 (upd H2 D (.lst [])) s3.heap.objs.size (cellsFrom (s3.heap.objs.size + 1) scope.names (cloFrom X.env.cells scope.names [])) fp
  have pe := he s3 (upd H2 D (.lst [])) s3.heap.objs.size (cellsFrom (s3.heap.objs.size + 1) scope.names (cloFrom X.env.cells scope.names [])) fp
  show codeAny _ _ (.compStart (.ListComp elt [⟨tg, iter, [], 0⟩] scope pos) 0 (.ref it) (.ref D) (compEnvC scope (cellsFrom (s3.heap.objs.size + 1) scope.names (cloFrom X.env.cells scope.names [])) s3.heap.objs.size X.env))
    (compEnds (model X.prog X.w) X.A X.xe none (EP X pins σ Q) (.ref D) (compEnvC scope (cellsFrom (s3.heap.objs.size + 1) scope.names (cloFrom X.env.cells scope.names [])) s3.heap.objs.size X.env)) { s3 with heap := pushCells (s3.heap.push { cls := .type "dict", data := .dict #[] }) scope.names }
  have nfp : ∀ b ∈ fp, (upd H2 D (.lst [])) b = none := fun b hb => (f3 b hb).1.1
  generalize hce : compEnvC scope (cellsFrom (s3.heap.objs.size + 1) scope.names (cloFrom X.env.cells scope.names [])) s3.heap.objs.size X.env = ce at I4 pg pe ⊢
  have cL : ce.locals = s3.heap.objs.size := by subst hce; rfl
  have cF : ce.frame = X.env.frame := by subst hce; rfl
  generalize hH3 : upd H2 D (.lst []) = H3 at I3 I4 pg pe w0 nfp f3
  generalize hs4 : ({ s3 with heap := pushCells (s3.heap.push { cls := .type "dict", data := .dict #[] }) scope.names } : Shared) = s4 at I4 ⊢
  have st4 : tn 0 s4.heap := T.keep _ _ _ st3 fun b _ o e => by rw [← hs4]; exact pushCells_keeps _ _ _ _ (Heap.get?_push_of_some _ e)
  have stat : ∀ {σ' : L2.St} {H' : Hp} {s' : Shared}, Inv (X.blk s3 H3 scope ce fp) [] σ' H' s' → (∀ b ∈ fp, H' b = none) → ∀ b ∈ fp, FpOk (X.blk s3 H3 scope ce fp) [] H' b := fun {σ' H' s'} I' hn b hb =>
    ⟨hn b hb, (I'.ok.exf b hb).1, I'.ok.exfs b hb, .inl hb, fun x c e => (I'.ok.exf b hb).2 x c e, fun p hp => absurd (show p ∈ ([] : List (Addr × Obj)) ++ [] from hp) (by simp)⟩
  -- a state of the block is one of the def
  have back : ∀ {pl : List (Addr × Obj)} {σ' : L2.St} {H' : Hp} {s' : Shared}, Inv (X.blk s3 H3 scope ce fp) pl σ' H' s' → Inv X pins σ H' s' ∧ (∃ m, s'.heap.Ns s3.heap.objs.size m) ∧ FpOk X pins H' s3.heap.objs.size ∧ s3.heap.objs.size ∉ frs X.stack := fun {pl σ' H' s'} I' => by
    have nC : H' s3.heap.objs.size = none := by
      have z : H' ce.locals = none := I'.free
      rw [cL] at z
      exact z
    obtain ⟨m, hn, _⟩ := I'.loc
    have hn : s'.heap.Ns ce.locals m := hn
    rw [cL] at hn
    have fC := I3.fpOk (Nat.le_refl _) nC
    refine ⟨I3.call' (ch := fp) I'.os I'.base I'.hok I'.bare fun b hb => ⟨(f3 b hb).1.2.2.2.1, (f3 b hb).1.2.1, (f3 b hb).1.2.2.2.2.1, (f3 b hb).1.2.2.2.2.2⟩, ⟨m, hn⟩, fC, fun z => ?_⟩
    rcases List.mem_cons.mp (I3.stkSub _ z) with z | z
    · exact fC.2.1 z
    · exact fC.2.2.1 z
  have loop : codeAny (model X.prog X.w) X.A (.compLoop (.ListComp elt [⟨tg, iter, [], 0⟩] scope pos) 0 (.ref it) (.ref D) ce) (compEnds (model X.prog X.w) X.A X.xe none (EP X pins σ Q) (.ref D) ce) s4 := by
    refine compLoop_any (fun n s' => ∃ i H', Inv (X.blk s3 H3 scope ce fp) [] (wipe σ (own.map (·.2))) H' s' ∧ tn i s'.heap ∧ (∀ b ∈ fp, H' b = none) ∧ W0 i n H') ?_ m0 ⟨0, H3, I4, st4, nfp, w0⟩
    rintro n s5 ⟨i, H5, I5, st5, n5, w5⟩
    rcases turn i n H5 w5 with ⟨stop, qq⟩ | ⟨go, Nx, hNx, step⟩
    · refine thnF (T.done (X.blk s3 H3 scope ce fp) rfl rfl rfl hc i [] s5 _ H5 (fun _ _ => False) I5 (stat I5 n5) st5 stop) fun r s6 ⟨hr, I6⟩ => ?_
      subst hr
      obtain ⟨I7, ⟨m, hn⟩, ⟨f0, f1, _, k3, k4, k5⟩, _⟩ := back I6
      refine ⟨m, by rw [cL]; exact hn, fun h'' sb => ?_⟩
      rw [cL] at sb
      exact ⟨.ref D, H5, I7.turned (t' := s6.toks) (fun b o hb e => (sb.2 b hb).trans e) f0 f1 k3 k4 k5, rfl, qq⟩
    · refine thnF (T.item (X.blk s3 H3 scope ce fp) rfl rfl rfl hc i [] s5 _ H5 (fun _ _ => False) I5 (stat I5 n5) st5 go) fun r s6 ⟨u, hr, h6⟩ => ?_
      subst hr
      refine thnF h6 fun _ s7 ⟨x, H7, I7, r7, y7, st7, n7⟩ => ?_
      have I7' := I7.pinned (stat I7 n7) (T.obj _ _ st7)
      refine thnF (pg.run _ s7 _ H7 x u _ I7' r7 (step x H7 y7)) fun _ s8 ⟨σ8, H8, I8, hw8, q8⟩ => ?_
      refine wpAny_tests_nil ?_
      show if true = true then _ else _
      rw [if_pos rfl]
      have fin : ∀ {s' : Shared} {H' : Hp}, Inv (X.blk s3 H3 scope ce fp) ([] ++ pinsAt fp s7.heap) σ8 H' s' → Nx H' → ∃ m, m < n ∧ ∃ i H', Inv (X.blk s3 H3 scope ce fp) [] (wipe σ (own.map (·.2))) H' s' ∧ tn i s'.heap ∧ (∀ b ∈ fp, H' b = none) ∧ W0 i m H' := fun {s' H'} I' nx => by
        obtain ⟨m', hm, w'⟩ := hNx H' nx
        have pin' : ∀ b ∈ fp, ∀ o, s7.heap.get? b = some o → s'.heap.get? b = some o ∧ H' b = none := fun b hb o e =>
          let z := I'.pin (b, o) (List.mem_append_right _ (List.mem_append_right _ (mem_pinsAt hb e)))
          ⟨z.1, z.2.1⟩
        have hl : (wipe σ (own.map (·.2))).length = σ8.length := by rw [← hw8, wipe_length]
        refine ⟨m', hm, i + 1, H', (I'.unpinned (pins := [])).weak hl (fun j v e => ?_), T.keep _ _ _ st7 fun b hb o e => (pin' b hb o e).1, fun b hb => ?_, w'⟩
        · rw [← hw8] at e
          exact (wipe_some e).1
        · obtain ⟨o, e, _⟩ := T.obj _ _ st7 b hb
          exact (pin' b hb o e).2
      have q8 : te σ8 H8 fun y H4 => ∃ acc, H4 D = some (.lst acc) ∧ acc.length < sizeLine ∧ Nx (upd H4 D (.lst (acc ++ [y]))) := q8
      refine wpAny_mono ((pe (notedBy (model X.prog X.w) X.A ce (CompFails (model X.prog X.w) X.A X.xe ce)) fun pl σ' H' s' e s'' J cx => ?_).run _ s8 σ8 H8 _ (I8.wish _) q8) (fun z s10 ⟨yv, H10, I10, r10, acc, hD10, hz10, nx⟩ => ?_) (fun e s' z => z)
      · obtain ⟨I9, ⟨m, hn⟩, fC, nf⟩ := back J.unwish
        exact comp_raise tk hW hst hfl I9 hn fC nf cF cL cx
      · exact app_ok (X := X.blk s3 H3 scope ce fp) I10.unwish hD10 hz10 r10 fun s11 I11 => fin I11 nx
  exact codeAny_compStart_list loop (T.self X.A 0 _ _ _ st4 loop)
end
end Pp
-- PpW
set_option maxRecDepth 100000
set_option maxHeartbeats 4000000
/-! Reading integers and calls, in plain Lean. -/
namespace Pp
open PySem PySem.Spec PyProof.Rows L2 Evl
abbrev FIG : Str := "0123456789"
def minusS (z : Str) : Bool := decide (cutS z none (some 1) = "-")
def digS (z : Str) : Str := if minusS z then cutS z (some 1) none else z
def digB (z : Str) : Bool := decide (1 ≤ (digS z).length ∧ (digS z).length ≤ 40) && (digS z).cps.toList.all fun c => decide (c ∈ FIG.cps.toList)
def valS (z : Str) : Int := if minusS z then -((NumText.digitsVal (digS z).cps.toList : Nat) : Int) else ((NumText.digitsVal (digS z).cps.toList : Nat) : Int)
def readI (z : Str) : Option Int := if digB z && decide (Str.ofString (toString (valS z)) = z) then some (valS z) else none
theorem fig_mem {c : Nat} : c ∈ FIG.cps.toList ↔ 48 ≤ c ∧ c ≤ 57 := by
  have e : FIG.cps.toList = [48, 49, 50, 51, 52, 53, 54, 55, 56, 57] := by decide +kernel
  rw [e]
  simp
  omega
theorem cut_to1 (z : Str) : (cutS z none (some 1)).cps.toList = z.cps.toList.take 1 := by
  unfold cutS
  have hl : z.length = z.cps.toList.length := by simp [Str.length]
  rw [show HT.sIx z.length 0 none = 0 from rfl]
  by_cases h : z.length = 0
  · rw [hl] at h
    have := List.eq_nil_of_length_eq_zero h
    rw [this]
    simp
  · rw [show HT.sIx z.length z.length (some 1) = 1 by simp only [HT.sIx]; rw [if_neg (by omega)]; omega]
    simp
theorem cut_from1 (z : Str) : (cutS z (some 1) none).cps.toList = z.cps.toList.drop 1 := by
  unfold cutS
  have hl : z.length = z.cps.toList.length := by simp [Str.length]
  rw [show HT.sIx z.length z.length none = z.length from rfl]
  by_cases h : z.length = 0
  · rw [hl] at h
    have := List.eq_nil_of_length_eq_zero h
    rw [this]
    simp
  · rw [show HT.sIx z.length 0 (some 1) = 1 by simp only [HT.sIx]; rw [if_neg (by omega)]; omega]
    rw [hl, ← List.length_drop, List.take_length]
theorem minus_cons {z : Str} (h : minusS z = true) : z.cps.toList = 45 :: (digS z).cps.toList := by
  unfold digS
  rw [if_pos h, cut_from1]
  have h := congrArg (fun x : Str => x.cps.toList) (of_decide_eq_true h)
  have h : (cutS z none (some 1)).cps.toList = [45] := h.trans (by decide +kernel)
  rw [cut_to1] at h
  match hz : z.cps.toList, h with
  | c :: r, h => simp at h; rw [h]; rfl
theorem minus_not {z : Str} (h : minusS z = false) : digS z = z := by
  unfold digS
  rw [if_neg (by rw [h]; decide)]
theorem dig_all {z : Str} (h : digB z = true) : NumText.AllDigits (digS z).cps.toList ∧ (digS z).cps.toList ≠ [] ∧ (digS z).length ≤ 40 := by
  unfold digB at h
  rw [Bool.and_eq_true, decide_eq_true_eq, List.all_eq_true] at h
  obtain ⟨⟨h1, h2⟩, h3⟩ := h
  refine ⟨fun c hc => fig_mem.mp (of_decide_eq_true (h3 c hc)), fun z => ?_, h2⟩
  rw [TL.len_tl, show TL.tl (digS _) = _ from z] at h1
  exact absurd h1 (by decide)
theorem dig_int {z : Str} (h : digB z = true) : intText? z = some (valS z) ∧ z.length ≤ 640 := by
  obtain ⟨h1, h2, h3⟩ := dig_all h
  cases hm : minusS z with
  | true =>
    have e := minus_cons hm
    have hl : z.length ≤ 640 := by
      rw [TL.len_tl, show TL.tl z = _ from e, List.length_cons]
      rw [TL.len_tl] at h3
      show (TL.tl (digS z)).length + 1 ≤ 640
      omega
    refine ⟨?_, hl⟩
    rw [PySem.intText_neg e h1 h2 (by omega)]
    unfold valS
    rw [if_pos hm]
  | false =>
    have e := minus_not hm
    rw [e] at h1 h2 h3
    refine ⟨?_, by omega⟩
    rw [intText_digits h1 h2 (by omega)]
    unfold valS
    rw [if_neg (by rw [hm]; decide), e]
/-- the value has at most 40 digits -/
theorem val_lt : ∀ {l : List Nat}, NumText.AllDigits l → NumText.digitsVal l < 10 ^ l.length := by
  have key : ∀ (l : List Nat) (a : Nat), NumText.AllDigits l → l.foldl (fun acc c => acc * 10 + (c - 48)) a < (a + 1) * 10 ^ l.length := by
    intro l
    induction l with
    | nil => intro a _; simp
    | cons c r ih =>
      intro a h
      rw [List.foldl_cons, List.length_cons]
      have h1 := ih (a * 10 + (c - 48)) h.tail
      have h2 := h.head
      refine Nat.lt_of_lt_of_le h1 ?_
      rw [Nat.pow_succ, Nat.mul_comm (10 ^ r.length) 10, ← Nat.mul_assoc]
      exact Nat.mul_le_mul_right _ (by omega)
  intro l h
  have := key l 0 h
  unfold NumText.digitsVal
  simpa using this
theorem valS_lt {z : Str} (h : digB z = true) : (valS z).natAbs < 10 ^ 40 := by
  obtain ⟨h1, h2, h3⟩ := dig_all h
  have h4 := val_lt h1
  have h5 : 10 ^ (digS z).cps.toList.length ≤ 10 ^ 40 := Nat.pow_le_pow_right (by decide) (by rw [TL.len_tl] at h3; exact h3)
  unfold valS
  split <;> omega
theorem readI_lt {z : Str} {n : Int} (h : readI z = some n) : n.natAbs < 10 ^ 40 := by
  unfold readI at h
  split at h
  · rename_i hb
    rw [Bool.and_eq_true] at hb
    cases h
    exact valS_lt hb.1
  · cases h
/-- a written integer is read -/
theorem readI_back {n : Int} (h : n.natAbs < 10 ^ 40) : readI (Str.ofString (toString n)) = some n := by
  have e := tl_int n
  generalize hz : Str.ofString (toString n) = z at e
  have hd := TL.numL_len (by decide : 0 < 40) h
  have hm : minusS z = decide (n < 0) := by
    unfold minusS
    rw [Bool.eq_iff_iff, decide_eq_true_eq, decide_eq_true_eq]
    have c1 := cut_to1 z
    rw [show z.cps.toList = _ from e] at c1
    constructor
    · intro k
      rw [k] at c1
      by_cases h0 : n < 0
      · exact h0
      · exfalso
        unfold numZ at c1
        rw [if_neg h0] at c1
        have c1 : [45] = (TL.numL n.natAbs).take 1 := (by decide +kernel : [45] = ("-" : Str).cps.toList).trans c1
        have : 45 ∈ (TL.numL n.natAbs).take 1 := by rw [← c1]; simp
        exact TL.numL_free (Or.inl (by decide)) (List.mem_of_mem_take this)
    · intro h0
      rw [numZ_neg h0] at c1
      exact TL.ext_tl (c1.trans ((by decide +kernel : [45] = TL.tl ("-" : Str))))
  have ht : (digS z).cps.toList = TL.numL n.natAbs := by
    unfold digS
    rw [hm]
    by_cases h0 : n < 0
    · rw [if_pos (decide_eq_true h0), cut_from1, show z.cps.toList = _ from e, numZ_neg h0]
      rfl
    · rw [if_neg (by rw [decide_eq_false h0]; decide), show z.cps.toList = _ from e]
      unfold numZ
      rw [if_neg h0]
  have hb : digB z = true := by
    unfold digB
    rw [Bool.and_eq_true, decide_eq_true_eq, TL.len_tl, show TL.tl (digS z) = _ from ht, ht]
    refine ⟨⟨?_, hd⟩, ?_⟩
    · have := TL.numL_ne n.natAbs
      cases hl : TL.numL n.natAbs with
      | nil => exact absurd hl this
      | cons => simp
    · rw [List.all_eq_true]
      intro c hc
      exact decide_eq_true (fig_mem.mpr (TL.numL_digits _ c hc))
  have hv : valS z = n := by
    unfold valS
    rw [hm, ht, TL.numL_val]
    by_cases h0 : n < 0
    · rw [if_pos (decide_eq_true h0)]; omega
    · rw [if_neg (by rw [decide_eq_false h0]; decide)]; omega
  unfold readI
  rw [hb, hv, hz]
  simp
end Pp
-- PpW2
set_option maxRecDepth 100000
set_option maxHeartbeats 4000000
namespace Pp
open PySem PySem.Spec PyProof.Rows L2 Evl
/-- NoText is let out -/
def RefN (K : PySem.W.Frag) (H : Hp) (E : XK) : Prop := ∀ H', Ex H H' → E (.ref (He.ga K "NoText")) none H'
section
variable {P : Program} {w : World} {K : PySem.W.Frag} {mg : Str → Option Value} {base : Heap} {H : Hp} {Q : VK} {E : XK}
theorem okN {x q : Str} {st : Stmt} {f : Addr} {fd : FuncData} {N ps : List Str} {k : Nat} {sp : Sp} (F : DefAt K x q st f fd) (S : FnScope N ps (defScope st)) (len : ∀ vs H Q E, sp vs H Q E → vs.length = ps.length)
    (hbody : ∀ (cdv : Value) (A : Around) (outer : List Env) (s : Shared) (H : Hp) (vs : List V) (Q : VK) (E : XK), Room k (A.deeper (envOfC q (defScope st) s.heap.objs.size f cdv)) → sp vs H Q E →
      ∃ t, PSs (cxOf (L2N.CX P w) P w K mg base N q (defScope st) f cdv A outer s H E) (defBody st) t ∧ t { nx := fun _ H' => Q .non H', rt := Q } (start N vs) H) : FnOk P w K mg base (L2N.CX P w) (k + 1) f fd ps sp :=
  FunD.ok F S len fun cdv A outer s H vs Q E hr hsp => hbody cdv A outer s H vs Q E hr hsp
abbrev s_parts_of : Stmt := top 57
abbrev N_parts_of : List Str := ["text", "sign"]
theorem sc_parts_of : FnScope N_parts_of ["text", "sign"] (defScope s_parts_of) := ⟨rfl, rfl, rfl, by decide +kernel, rfl, by decide +kernel, by decide +kernel⟩
def sp_parts_of : Sp := fun vs H Q _ => ∃ z y : Str, vs = [.str z, .str y] ∧ (y.length == 0) = false ∧ z.length ≤ 50000 ∧ ∀ p H', Ex H H' → H' p = some (.lst ((Txt.split z y).map V.str)) → Q (.ref p) H'
theorem ok_parts_of (T : Txt K mg w) (U : TxtX P K mg) {f : Addr} {fd : FuncData} (F : DefAt K "parts_of" "parts_of" s_parts_of f fd) : FnOk P w K mg base (L2N.CX P w) 1 f fd ["text", "sign"] sp_parts_of := by
  refine okN F sc_parts_of (fun vs H Q E h => ?_) (fun cdv A outer s H vs Q E hr h => ?_)
  · walk_at "len"
  · obtain ⟨z, y, rfl, h0, hz, kq⟩ := h
    refine ⟨_, (pss_cons (ps_if (pt_not (pt_val (pe_callB call_isi (by rfl) T.b_isinstance (by decide +kernel) (pa_cons (pv 0) (pa_cons (pe_bltn (v := .ty "str") (by rfl) T.b_str (by decide +kernel) rfl) pa_nil))))) (pss_one (L2N.ps_raise rfl (L2N.takes_of rfl rfl rfl rfl) (pmkN_own0 PySem.F.excBase_ValueError U.x_NoText.q U.x_NoText.g U.x_NoText.k (raises_own U.x_NoText.ex U.x_NoText.ty) (by rfl)))) pss_nil)
  (pss_one (ps_ret (pe_splitX (pv 0) (pv 1))))), ?_⟩
    walk_at "go"
    refine i_split h0 (by omega) fun p H2 hp e g => ?_
    exact kq _ _ e g
theorem cal_parts_of (T : Txt K mg w) (U : TxtX P K mg) : Cal P w K mg base (L2N.CX P w) 1 "parts_of" sp_parts_of := calOf T.g_parts_of T.d_parts_of (fun _ F => ok_parts_of T U F) (fun _ _ _ _ _ _ us hl => match us, hl with | [_, _], _ => rfl)
abbrev s_integer_in : Stmt := top 58
abbrev N_integer_in : List Str := ["word", "digits", "sign"]
theorem sc_integer_in : FnScope N_integer_in ["word"] (defScope s_integer_in) := ⟨rfl, rfl, rfl, by decide +kernel, rfl, by decide +kernel, by decide +kernel⟩
def sp_integer_in (K : PySem.W.Frag) : Sp := fun vs H Q E => ∃ z : Str, vs = [.str z] ∧ z.length ≤ 50000 ∧ (∀ n, readI z = some n → RetV (.int n) H Q) ∧ (readI z = none → RefN K H E)
theorem ok_integer_in (T : Txt K mg w) (U : TxtX P K mg) {f : Addr} {fd : FuncData} (F : DefAt K "integer_in" "integer_in" s_integer_in f fd) : FnOk P w K mg base (L2N.CX P w) 1 f fd ["word"] (sp_integer_in K) := by
  refine okN F sc_integer_in (fun vs H Q E h => ?_) (fun cdv A outer s H vs Q E hr h => ?_)
  · walk_at "len"
  · obtain ⟨z, rfl, hz, kq, ke⟩ := h
    refine ⟨_, (pss_cons (ps_set (i := 1) sc_integer_in.nd rfl (Or.inl rfl) (pe_ifExp (pt_cmpR op_eq (pe_slice sl_str (pv 0) po_none (po_some pe_int)) pe_str (nomark _)) (pe_slice sl_str (pv 0) (po_some pe_int) po_none) (pv 0)))
  (pss_cons (ps_if (PW.pt (pw_or (pt_not (pt_chain op_le op_le pe_int (pe_callB cr_lenS (by rfl) T.b_len PySem.boot_len (pa_cons (pv 1) pa_nil)) (pe_gc (by rfl) T.i_MOST_DIGITS))) (pw_or1 (pt_not (pt_val (pe_callB (cr_all rfl) (by rfl) T.b_all (by decide +kernel) (pa_cons (pe_lc (own := [("sign", 2)]) (g := gName 2) (tt := tYes) rfl sc_integer_in.nd (pi_str (pv 1)) (blkOk_by (own := [("sign", 2)]) (N := N_integer_in) (sc := defScope s_integer_in) (by decide +kernel)) (fun _ _ _ _ _ => pg_name (i := 2) sc_integer_in.nd rfl (Or.inl rfl)) (fun _ _ _ _ _ => pts_nil) (fun _ _ _ _ _ => (pe_cmpR op_inS (pv 2) (pe_gc (by rfl) T.s_FIGURES) (by rfl)))) pa_nil))))))) (pss_one (L2N.ps_raise rfl (L2N.takes_of rfl rfl rfl rfl) (pmkN_own0 PySem.F.excBase_ValueError U.x_NoText.q U.x_NoText.g U.x_NoText.k (raises_own U.x_NoText.ex U.x_NoText.ty) (by rfl)))) pss_nil)
  (pss_cons (ps_if (pt_cmpR op_ne (pe_callTy cr_strI (by rfl) T.b_str (by decide +kernel) (pa_cons (pe_callTy cr_intS (by rfl) T.b_int (by decide +kernel) (pa_cons (pv 0) pa_nil)) pa_nil)) (pv 0) (nomark _)) (pss_one (L2N.ps_raise rfl (L2N.takes_of rfl rfl rfl rfl) (pmkN_own0 PySem.F.excBase_ValueError U.x_NoText.q U.x_NoText.g U.x_NoText.k (raises_own U.x_NoText.ex U.x_NoText.ty) (by rfl)))) pss_nil)
  (pss_one (ps_ret (pe_callTy cr_intS (by rfl) T.b_int (by decide +kernel) (pa_cons (pv 0) pa_nil))))))), ?_⟩
    walk_at "go"
    have hz2 : (cutS z (some 1) none).length ≤ 50000 := by
      rw [TL.len_tl, show TL.tl (cutS z (some 1) none) = _ from cut_from1 z, List.length_drop]
      rw [TL.len_tl] at hz
      have : z.cps.toList.length = (TL.tl z).length := rfl
      omega
    refine i_ite (fun hb => ?_) (fun hb => ?_)
    · have hm : minusS z = true := by
        have := of_decide_eq_true hb
        exact decide_eq_true (V.str.inj this)
      have hd : digS z = cutS z (some 1) none := by unfold digS; rw [if_pos hm]
      walk_at "go"
      refine i_dec (fun h1 => ?_) (fun h1 => ?_)
      · walk_at "go"
        by_cases h2 : (((cutS z (some 1) none).length : Nat) : Int) ≤ 40
        · refine i_f (by rw [decide_eq_true h2]; rfl) ?_
          walk_at "go"
          refine lc_allS (fun c => .bl (decide (c ∈ FIG.cps.toList))) (by show (cutS z (some 1) none).length ≤ 40000; omega) (fun _ => rfl) (fun c H1 e1 Q1 q => ?_) (fun p H2 hp e2 g => ?_)
          · walk_at "go"
            exact q _ (by walk_at "ex")
          · have g2 : H2 p = some (.lst (((cutS z (some 1) none).cps.toList.map fun c => decide (c ∈ FIG.cps.toList)).map V.bl)) := by rw [g, List.map_map]; rfl
            walk_at "go"
            have hdb : digB z = (((cutS z (some 1) none).cps.toList.map fun c => decide (c ∈ FIG.cps.toList)).all id) := by
              unfold digB
              rw [hd, decide_eq_true ⟨by omega, by omega⟩, Bool.true_and, List.all_map]
              rfl
            rw [← hdb]
            cases hall : digB z with
            | false =>
              refine i_t rfl ?_
              exact ke (by unfold readI; rw [hall]; rfl) _ (by walk_at "ex")
            | true =>
              refine i_f rfl ?_
              obtain ⟨k1, k2⟩ := dig_int hall
              have k3 := valS_lt hall
              walk_at "go"
              refine i_intS k1 k2 ?_
              walk_at "go"
              refine i_strI (log_lt (sm_ok k3)) ?_
              walk_at "go"
              by_cases hv : Str.ofString (toString (valS z)) = z
              · refine i_f (by rw [hv]; simp) ?_
                walk_at "go"
                refine i_intS k1 k2 ?_
                exact kq _ (by unfold readI; rw [hall, decide_eq_true hv]; rfl) _ (by walk_at "ex")
              · refine i_t (by rw [decide_eq_false fun q => hv (V.str.inj q)]; rfl) ?_
                exact ke (by unfold readI; rw [decide_eq_false hv, Bool.and_false]; rfl) _ (by walk_at "ex")
        · refine i_t (by rw [decide_eq_false h2]; rfl) ?_
          refine ke ?_ _ (by walk_at "ex")
          unfold readI digB
          rw [hd, decide_eq_false (fun q => h2 (by omega)), Bool.false_and, Bool.false_and]
          rfl
      · walk_at "go"
        refine ke ?_ _ (by walk_at "ex")
        unfold readI digB
        rw [hd, decide_eq_false (fun q => h1 (by omega)), Bool.false_and, Bool.false_and]
        rfl
    · have hm : minusS z = false := by
        have := of_decide_eq_false hb
        exact decide_eq_false fun q => this (congrArg V.str q)
      have hd := minus_not hm
      walk_at "go"
      refine i_dec (fun h1 => ?_) (fun h1 => ?_)
      · walk_at "go"
        by_cases h2 : ((z.length : Nat) : Int) ≤ 40
        · refine i_f (by rw [decide_eq_true h2]; rfl) ?_
          walk_at "go"
          refine lc_allS (fun c => .bl (decide (c ∈ FIG.cps.toList))) (by show z.length ≤ 40000; omega) (fun _ => rfl) (fun c H1 e1 Q1 q => ?_) (fun p H2 hp e2 g => ?_)
          · walk_at "go"
            exact q _ (by walk_at "ex")
          · have g2 : H2 p = some (.lst ((z.cps.toList.map fun c => decide (c ∈ FIG.cps.toList)).map V.bl)) := by rw [g, List.map_map]; rfl
            walk_at "go"
            have hdb : digB z = ((z.cps.toList.map fun c => decide (c ∈ FIG.cps.toList)).all id) := by
              unfold digB
              rw [hd, decide_eq_true ⟨by omega, by omega⟩, Bool.true_and, List.all_map]
              rfl
            rw [← hdb]
            cases hall : digB z with
            | false =>
              refine i_t rfl ?_
              exact ke (by unfold readI; rw [hall]; rfl) _ (by walk_at "ex")
            | true =>
              refine i_f rfl ?_
              obtain ⟨k1, k2⟩ := dig_int hall
              have k3 := valS_lt hall
              walk_at "go"
              refine i_intS k1 k2 ?_
              walk_at "go"
              refine i_strI (log_lt (sm_ok k3)) ?_
              walk_at "go"
              by_cases hv : Str.ofString (toString (valS z)) = z
              · refine i_f (by rw [hv]; simp) ?_
                walk_at "go"
                refine i_intS k1 k2 ?_
                exact kq _ (by unfold readI; rw [hall, decide_eq_true hv]; rfl) _ (by walk_at "ex")
              · refine i_t (by rw [decide_eq_false fun q => hv (V.str.inj q)]; rfl) ?_
                exact ke (by unfold readI; rw [decide_eq_false hv, Bool.and_false]; rfl) _ (by walk_at "ex")
        · refine i_t (by rw [decide_eq_false h2]; rfl) ?_
          refine ke ?_ _ (by walk_at "ex")
          unfold readI digB
          rw [hd, decide_eq_false (fun q => h2 (by omega)), Bool.false_and, Bool.false_and]
          rfl
      · walk_at "go"
        refine ke ?_ _ (by walk_at "ex")
        unfold readI digB
        rw [hd, decide_eq_false (fun q => h1 (by omega)), Bool.false_and, Bool.false_and]
        rfl
theorem cal_integer_in (T : Txt K mg w) (U : TxtX P K mg) : Cal P w K mg base (L2N.CX P w) 1 "integer_in" (sp_integer_in K) := calOf T.g_integer_in T.d_integer_in (fun _ F => ok_integer_in T U F) (fun _ _ _ _ _ _ us hl => match us, hl with | [_], _ => rfl)
theorem u_parts_of {z y : Str} (h1 : (y.length == 0) = false) (h2 : z.length ≤ 50000) (k : ∀ p H', Ex H H' → H' p = some (.lst ((Txt.split z y).map V.str)) → Q (.ref p) H') : sp_parts_of [.str z, .str y] H Q E := ⟨z, y, rfl, h1, h2, k⟩
theorem u_integer_in {z : Str} (h1 : z.length ≤ 50000) (k1 : ∀ n, readI z = some n → RetV (.int n) H Q) (k2 : readI z = none → RefN K H E) : sp_integer_in K [.str z] H Q E := ⟨z, rfl, h1, k1, k2⟩
end
end Pp
-- PpW3
set_option maxRecDepth 100000
set_option maxHeartbeats 4000000
namespace Pp
open PySem PySem.Spec PyProof.Rows L2 Evl
/-- all of them read -/
def readAll : List Str → Option (List Int)
  | [] => some []
  | z :: r => match readI z with
    | none => none
    | some n => (readAll r).map (n :: ·)
/-- a call's words read -/
def readW (files : Int) : List Str → Option (Str × List Int)
  | [] => none
  | w :: r => (readAll r).bind fun ns => if isCallB files w ns then some (w, ns) else none
def readC (files : Int) (z : Str) : Option (Str × List Int) := readW files (Txt.split z " ")
theorem readW_yes {files : Int} {w : Str} {r : List Str} {ns : List Int} (h1 : readAll r = some ns) (h2 : isCallB files w ns = true) : readW files (w :: r) = some (w, ns) := by
  simp only [readW]
  rw [h1, Option.bind_some, if_pos h2]
theorem readW_no {files : Int} {w : Str} {r : List Str} {ns : List Int} (h1 : readAll r = some ns) (h2 : isCallB files w ns = false) : readW files (w :: r) = none := by
  simp only [readW]
  rw [h1, Option.bind_some, if_neg (by rw [h2]; decide)]
theorem readW_none {files : Int} {w : Str} {r : List Str} (h1 : readAll r = none) : readW files (w :: r) = none := by
  simp only [readW]
  rw [h1]
  rfl
theorem readAll_none {z : Str} : ∀ {ws : List Str}, z ∈ ws → readI z = none → readAll ws = none
  | w :: r, h, e => by
    unfold readAll
    rcases List.mem_cons.mp h with rfl | h
    · rw [e]
    · rw [readAll_none h e]
      cases readI w <;> rfl
theorem readAll_snoc {z : Str} {n : Int} : ∀ {ws : List Str} {ns : List Int}, readAll ws = some ns → readI z = some n → readAll (ws ++ [z]) = some (ns ++ [n])
  | [], ns, h, e => by
    cases h
    show (match readI z with | none => none | some n => (readAll []).map (n :: ·)) = _
    rw [e]
    rfl
  | w :: r, ns, h, e => by
    unfold readAll at h
    rw [List.cons_append]
    unfold readAll
    cases hw : readI w with
    | none => rw [hw] at h; cases h
    | some m =>
      rw [hw] at h
      cases hr : readAll r with
      | none => rw [hr] at h; cases h
      | some ms =>
        rw [hr] at h
        cases h
        show (readAll (r ++ [z])).map (m :: ·) = _
        rw [readAll_snoc hr e]
        rfl
theorem readAll_len : ∀ {ws : List Str} {ns : List Int}, readAll ws = some ns → ns.length = ws.length
  | [], ns, h => by cases h; rfl
  | w :: r, ns, h => by
    unfold readAll at h
    cases hw : readI w with
    | none => rw [hw] at h; cases h
    | some m =>
      rw [hw] at h
      cases hr : readAll r with
      | none => rw [hr] at h; cases h
      | some ms =>
        rw [hr] at h
        cases h
        rw [List.length_cons, List.length_cons, readAll_len hr]
theorem RefN.ex {K : PySem.W.Frag} {H H1 : Hp} {E : XK} (r : RefN K H E) (e : Ex H H1) : RefN K H1 E := fun H' e' => r H' (e.trans e')
theorem spl_nonempty (S : List Nat) : ∀ (l : List Nat) (k : Nat) (acc : List Nat), TL.spl S k acc l ≠ []
  | [], k, acc => by rw [TL.spl_nil]; simp
  | c :: r, k, acc => by
    cases k with
    | zero =>
      cases h : TL.pre S (c :: r) with
      | true => rw [TL.spl_hit h]; simp
      | false => rw [TL.spl_miss h]; exact spl_nonempty S r 0 _
    | succ k =>
      rw [TL.spl_pass]
      have : (c :: r).drop (k + 1) = r.drop k := rfl
      rw [this, ← TL.spl_pass]
      exact spl_nonempty S r k acc
theorem split_nonempty (z : Str) : Txt.split z " " ≠ [] := fun e => by
  have h := TL.split_spl z " " (by decide +kernel) (TL.kind_ok (by decide +kernel))
  rw [e] at h
  exact spl_nonempty _ _ _ _ h.symm
section
variable {K : PySem.W.Frag} {σ : L2.St} {H : Hp} {Q : VK} {E : XK} {te : TE} {vs : List Nat} {j : Nat} {a : Addr}
theorem lc_read {ws : List Str} (h : H a = some (.lst (ws.map V.str))) (hz : ws.length ≤ 40000) (hw : ∀ x, wipe ((wipe σ vs).set j (some x)) vs = wipe σ vs)
    (he : ∀ (z : Str) H1, Ex H H1 → z ∈ ws → ∀ Q1 : VK, (∀ n, readI z = some n → RetV (.int n) H1 Q1) → (readI z = none → RefN K H1 E) → te ((wipe σ vs).set j (some (.str z))) H1 Q1)
    (k : ∀ ns p H2, readAll ws = some ns → H p = none → Ex H H2 → H2 p = some (.lst (ns.map V.int)) → Q (.ref p) H2) (ke : readAll ws = none → RefN K H E) : lcR (gName j) tYes te vs σ Q (Itl K a) H := by
  refine ⟨fun Dl hD => ?_⟩
  refine lc_it (walk_list (K := K) (a := a) (xs := ws.map V.str)) (fun i H' => H Dl = none ∧ Ex H H' ∧ ∃ ns, readAll (ws.take i) = some ns ∧ ns.length = i ∧ H' Dl = some (.lst (ns.map V.int))) ⟨hD, Ex.new hD, [], rfl, rfl, upd_same⟩ (fun i H' _ p => SqL.of (p.2.1 _ _ h)) ?_ (fun H' p => ?_)
  · rintro i x H1 H2 hi ⟨p0, p1, ns, p2, p3, p4⟩ ⟨rfl, hx⟩
    rw [List.getElem?_map] at hx
    obtain ⟨z, hz1, rfl⟩ := Option.map_eq_some_iff.mp hx
    have hm := List.mem_of_getElem? hz1
    refine ⟨hw _, ?_⟩
    dsimp only [tYes]
    rw [if_pos rfl]
    have hil : i < ws.length := (List.getElem?_eq_some_iff.mp hz1).1
    refine he z _ p1 hm _ (fun n hn H4 e4 => ⟨_, e4 _ _ p4, by rw [List.length_map, p3]; exact sz_lt (by omega), p0, Ex.mut (p1.trans e4) p0, ns ++ [n], ?_, by simp [p3], ?_⟩) (fun hn => (ke (readAll_none hm hn)).ex p1)
    · rw [List.take_succ, hz1]
      exact readAll_snoc p2 hn
    · rw [upd_same, List.map_append]
      rfl
  · obtain ⟨p0, p1, ns, p2, p3, p4⟩ := p
    rw [List.length_map, List.take_length] at p2
    exact k ns Dl H' p2 p0 p1 p4
end
theorem spl_bounds (S : List Nat) : ∀ (l : List Nat) (k : Nat) (acc : List Nat), (TL.spl S k acc l).length ≤ l.length + 1 ∧ ∀ p ∈ TL.spl S k acc l, p.length ≤ acc.length + l.length
  | [], k, acc => by
    rw [TL.spl_nil]
    exact ⟨Nat.le_refl _, fun p hp => by rw [List.mem_singleton.mp hp]; exact Nat.le_refl _⟩
  | c :: r, k, acc => by
    cases k with
    | zero =>
      cases h : TL.pre S (c :: r) with
      | true =>
        rw [TL.spl_hit h]
        obtain ⟨h1, h2⟩ := spl_bounds S r (S.length - 1) []
        refine ⟨by rw [List.length_cons, List.length_cons]; omega, fun p hp => ?_⟩
        rcases List.mem_cons.mp hp with rfl | hp
        · omega
        · have := h2 p hp
          simp at this ⊢
          omega
      | false =>
        rw [TL.spl_miss h]
        obtain ⟨h1, h2⟩ := spl_bounds S r 0 (acc ++ [c])
        refine ⟨by rw [List.length_cons]; omega, fun p hp => ?_⟩
        have := h2 p hp
        simp at this ⊢
        omega
    | succ k =>
      rw [TL.spl_pass, show (c :: r).drop (k + 1) = r.drop k from rfl, ← TL.spl_pass]
      obtain ⟨h1, h2⟩ := spl_bounds S r k acc
      refine ⟨by rw [List.length_cons]; omega, fun p hp => ?_⟩
      have := h2 p hp
      simp
      omega
theorem split_map (z : Str) : (Txt.split z " ").map TL.tl = TL.spl (TL.tl " ") 0 [] (TL.tl z) := TL.split_spl z " " (by decide +kernel) (TL.kind_ok (by decide +kernel))
theorem split_len {z w : Str} (h : w ∈ Txt.split z " ") : w.length ≤ z.length := by
  have := (spl_bounds (TL.tl " ") (TL.tl z) 0 []).2 (TL.tl w) (by rw [← split_map]; exact List.mem_map_of_mem h)
  rw [TL.len_tl, TL.len_tl]
  simpa using this
theorem split_count (z : Str) : (Txt.split z " ").length ≤ z.length + 1 := by
  have := (spl_bounds (TL.tl " ") (TL.tl z) 0 []).1
  rw [← split_map, List.length_map] at this
  rw [TL.len_tl z]
  exact this
theorem cut_tail (x : V) (xs : List V) : cutV (x :: xs) (some 1) none = xs := by
  unfold cutV
  rw [show HT.sIx (x :: xs).length 0 (some 1) = 1 by simp only [HT.sIx, List.length_cons]; rw [if_neg (by omega)]; omega, show HT.sIx (x :: xs).length (x :: xs).length none = (x :: xs).length from rfl]
  simp
section
variable {P : Program} {w : World} {K : PySem.W.Frag} {mg : Str → Option Value} {base : Heap} {H : Hp} {Q : VK} {E : XK}
abbrev s_call_in : Stmt := top 59
abbrev N_call_in : List Str := ["text", "files", "words", "found", "word"]
theorem sc_call_in : FnScope N_call_in ["text", "files"] (defScope s_call_in) := ⟨rfl, rfl, rfl, by decide +kernel, rfl, by decide +kernel, by decide +kernel⟩
def sp_call_in (K : PySem.W.Frag) : Sp := fun vs H Q E => ∃ (z : Str) (files : Int), vs = [.str z, .int files] ∧ z.length ≤ 40000 ∧ (∀ wd ns, readC files z = some (wd, ns) → ∀ p H', Ex H H' → H' p = some (.tup (wv wd ns)) → Q (.ref p) H') ∧ (readC files z = none → RefN K H E)
theorem ok_call_in (T : Txt K mg w) (U : TxtX P K mg) {f : Addr} {fd : FuncData} (F : DefAt K "call_in" "call_in" s_call_in f fd) : FnOk P w K mg base (L2N.CX P w) 4 f fd ["text", "files"] (sp_call_in K) := by
  refine okN F sc_call_in (fun vs H Q E h => ?_) (fun cdv A outer s H vs Q E hr h => ?_)
  · walk_at "len"
  · obtain ⟨z, files, rfl, hz, kq, ke⟩ := h
    refine ⟨_, (pss_cons (ps_set (i := 2) sc_call_in.nd rfl (Or.inl rfl) (pe_cal (cal_parts_of T U) hr (pxE (L2N.passes_call (L2N.takes_of rfl rfl rfl rfl) fun _ _ _ _ h => h)) (pa_cons (pv 0) (pa_cons pe_str pa_nil))))
  (pss_cons (ps_set (i := 3) sc_call_in.nd rfl (Or.inl rfl) (pe_op op_catA (pe_tup (pa_cons (pe_ix ix_list (pv 2) pe_int (fun _ _ => rfl)) pa_nil)) (pe_callTy cr_tuple (by rfl) T.b_tuple (by decide +kernel) (pa_cons (pe_lcX (own := [("word", 4)]) (g := gName 4) (EX := E) (L2N.takes_of rfl rfl rfl rfl) (fun _ _ _ _ h => h) rfl rfl rfl sc_call_in.nd (pi_list (pe_slice sl_list (pv 2) (po_some pe_int) po_none)) (blkOk_by (own := [("word", 4)]) (N := N_call_in) (sc := defScope s_call_in) (by decide +kernel)) (fun _ _ _ _ _ => pg_name (i := 4) sc_call_in.nd rfl (Or.inl rfl)) (fun _ _ _ _ _ _ hX => (pe_cal (cal_integer_in T U) hr (pxE hX) (pa_cons (pv 4) pa_nil)))) pa_nil))))
  (pss_cons (ps_if (pt_not (pt_val (pe_cal (cal_is_call T) hr px0 (pa_cons (pv 1) (pa_cons (pv 3) pa_nil))))) (pss_one (L2N.ps_raise rfl (L2N.takes_of rfl rfl rfl rfl) (pmkN_own0 PySem.F.excBase_ValueError U.x_NoText.q U.x_NoText.g U.x_NoText.k (raises_own U.x_NoText.ex U.x_NoText.ty) (by rfl)))) pss_nil)
  (pss_one (ps_ret (pv 3)))))), ?_⟩
    walk_at "go"
    refine u_parts_of (by decide +kernel) (by omega) fun pw H1 e1 g1 => ?_
    cases hs : Txt.split z " " with
    | nil => exact absurd hs (split_nonempty z)
    | cons w0 ws =>
      rw [hs] at g1
      have hwl : ∀ w ∈ w0 :: ws, w.length ≤ z.length := fun w hw => split_len (by rw [hs]; exact hw)
      have hcl : (w0 :: ws).length ≤ z.length + 1 := by rw [← hs]; exact split_count z
      unfold readC at kq ke
      rw [hs] at kq ke
      walk_at "go"
      rename_i q1 hq1 Hq1 eq1 gq1
      rw [List.map_cons, cut_tail] at g
      have hcl : ws.length ≤ z.length := by simpa using hcl
      refine lc_read (E := E) g (by omega) (fun _ => rfl) (fun y H3 e3 hy Q1 k1 k2 => ?_) (fun ns p3 H3 hns hp3 e3 g3 => ?_) (fun hn => (ke (readW_none hn)).ex (by walk_at "ex"))
      · walk_at "go"
        exact u_integer_in (by have := hwl y (List.mem_cons_of_mem _ hy); omega) k1 k2
      · have hnl : ns.length ≤ 40000 := by rw [readAll_len hns]; omega
        walk_at "go"
        refine u_is_call (wd := w0) (ns := ns) (by assumption) fun H4 e4 => ?_
        refine i_bl ?_
        cases hb : isCallB files w0 ns with
        | false =>
          refine i_t rfl ?_
          exact ke (readW_no hns hb) _ (by walk_at "ex")
        | true =>
          refine i_f rfl ?_
          walk_at "go"
          exact kq w0 ns (readW_yes hns hb) _ _ (by walk_at "ex") (by walk_at "tx")
theorem cal_call_in (T : Txt K mg w) (U : TxtX P K mg) : Cal P w K mg base (L2N.CX P w) 4 "call_in" (sp_call_in K) := calOf T.g_call_in T.d_call_in (fun _ F => ok_call_in T U F) (fun _ _ _ _ _ _ us hl => match us, hl with | [_, _], _ => rfl)
theorem u_call_in {z : Str} {files : Int} (hz : z.length ≤ 40000) (kq : ∀ wd ns, readC files z = some (wd, ns) → ∀ p H', Ex H H' → H' p = some (.tup (wv wd ns)) → Q (.ref p) H') (ke : readC files z = none → RefN K H E) : sp_call_in K [.str z, .int files] H Q E := ⟨z, files, rfl, hz, kq, ke⟩
abbrev s_read_call : Stmt := top 60
abbrev N_read_call : List Str := ["text"]
theorem sc_read_call : FnScope N_read_call ["text"] (defScope s_read_call) := ⟨rfl, rfl, rfl, by decide +kernel, rfl, by decide +kernel, by decide +kernel⟩
def sp_read_call (K : PySem.W.Frag) : Sp := fun vs H Q E => ∃ (z : Str), vs = [.str z] ∧ z.length ≤ 40000 ∧ (∀ wd ns, readC 3 z = some (wd, ns) → ∀ p H', Ex H H' → H' p = some (.tup (wv wd ns)) → Q (.ref p) H') ∧ (readC 3 z = none → RefN K H E)
theorem ok_read_call (T : Txt K mg w) (U : TxtX P K mg) {f : Addr} {fd : FuncData} (F : DefAt K "read_call" "read_call" s_read_call f fd) : FnOk P w K mg base (L2N.CX P w) 5 f fd ["text"] (sp_read_call K) := by
  refine okN F sc_read_call (fun vs H Q E h => ?_) (fun cdv A outer s H vs Q E hr h => ?_)
  · walk_at "len"
  · obtain ⟨z, rfl, hz, kq, ke⟩ := h
    refine ⟨_, (pss_one (ps_ret (pe_cal (cal_call_in T U) hr (pxE (L2N.passes_call (L2N.takes_of rfl rfl rfl rfl) fun _ _ _ _ h => h)) (pa_cons (pv 0) (pa_cons (pe_gc (by rfl) T.i_MOST_FILES) pa_nil))))), ?_⟩
    walk_at "go"
    exact u_call_in hz kq ke
theorem cal_read_call (T : Txt K mg w) (U : TxtX P K mg) : Cal P w K mg base (L2N.CX P w) 5 "read_call" (sp_read_call K) := calOf T.g_read_call T.d_read_call (fun _ F => ok_read_call T U F) (fun _ _ _ _ _ _ us hl => match us, hl with | [_], _ => rfl)
end
end Pp
-- PpJ
set_option maxRecDepth 100000
set_option maxHeartbeats 4000000
namespace Pp
open PySem PySem.Spec PyProof.Rows L2 Evl
/-- the error classes -/
def errNames : List Str := ["PupilError", "Wrong", "NoCall", "NoPupil", "Full", "Away", "There", "Nothing", "NoText", "NoCommand"]
/-- which class is caught by which name -/
structure TxtM (K : PySem.W.Frag) : Prop where
  m : ∀ x ∈ errNames, ∀ y ∈ errNames, PySem.W.exmOne K (.ref (He.ga K x)) (.ref (He.ga K y)) = some (decide (x = y) || decide (y = "PupilError"))
/-- NoCommand is let out -/
def RefC (K : PySem.W.Frag) (H : Hp) (E : XK) : Prop := ∀ H', Ex H H' → E (.ref (He.ga K "NoCommand")) none H'
section
variable {X : Cx} {CX : CXT} {k1 k2 j i : Nat} {f1 f2 : Addr} {sp1 sp2 : Sp} {E : XK} {x x1 x2 : Str} {p pos : Pos} {e : Expr} {es : List Expr} {t : TA}
/-- the i-th slot holds one of two defs -/
def tCallR (i : Nat) (f1 f2 : Addr) (sp1 sp2 : Sp) (E : XK) (t : TA) : TE := fun σ H Q => (σ[i]? = some (some (.ref f1)) ∧ t σ H fun vs H1 => sp1 vs H1 Q E) ∨ (σ[i]? = some (some (.ref f2)) ∧ t σ H fun vs H1 => sp2 vs H1 Q E)
theorem pe_callR (c1 : Cal X.prog X.w X.K X.mg X.base CX k1 x1 sp1) (g1 : X.mg x1 = some (.ref f1)) (c2 : Cal X.prog X.w X.K X.mg X.base CX k2 x2 sp2) (g2 : X.mg x2 = some (.ref f2)) (hr : Room j X.A) (hN : X.N[i]? = some x) (hv : Vis X.env.scope x) (hx : Passes CX X E) (ha : PA X (e :: es) t) (hk1 : k1 ≤ j := by decide) (hk2 : k2 ≤ j := by decide)
    (hdb : (x == ("__debug__" : Str)) = false := by decide) (hcd : (x == ("__classdict__" : Str)) = false := by decide)
    (he : starEach (e :: es) X.env = (false, eval e X.env) :: starEach es X.env := by rfl) (hpl : (backTo pos (starEach es X.env)).any (·.1) = false := by rfl) : PE X (.Call (.Name x p) (e :: es) [] pos) (tCallR i f1 f2 sp1 sp2 E t) := by
  have go : ∀ {k : Nat} {y : Str} {f : Addr} {sp : Sp}, k ≤ j → Cal X.prog X.w X.K X.mg X.base CX k y sp → X.mg y = some (.ref f) → PE X (.Call (.Name x p) (e :: es) [] pos) (tCallL i f sp [] E t) := fun {k y f sp} hk c g => by
    obtain ⟨f', fd, ps, F, hm, hkp, hb⟩ := c.ex
    rw [g] at hm
    cases hm
    exact pe_callL F (hr.mono hk) hN hv hkp hb .nil hx ha hdb hcd he hpl
  refine ⟨fun pins s σ H Q I h => ?_⟩
  have e0 : ∀ sp : Sp, (fun (vs : List V) (H1 : Hp) => sp (vs ++ []) H1 Q E) = fun vs H1 => sp vs H1 Q E := fun sp => by
    funext vs H1
    rw [List.append_nil]
  rcases h with ⟨h1, h2⟩ | ⟨h1, h2⟩
  · exact (go hk1 c1 g1).run pins s σ H Q I ⟨h1, by
      show t σ H (fun vs H1 => sp1 (vs ++ []) H1 Q E)
      rw [e0]
      exact h2⟩
  · exact (go hk2 c2 g2).run pins s σ H Q I ⟨h1, by
      show t σ H (fun vs H1 => sp2 (vs ++ []) H1 Q E)
      rw [e0]
      exact h2⟩
end
section
variable {P : Program} {w : World} {K : PySem.W.Frag} {mg : Str → Option Value} {base : Heap} {H : Hp} {Q : VK} {E : XK}
abbrev s_read_by : Stmt := top 65
abbrev N_read_by : List Str := ["reader", "text"]
theorem sc_read_by : FnScope N_read_by ["reader", "text"] (defScope s_read_by) := ⟨rfl, rfl, rfl, by decide +kernel, rfl, by decide +kernel, by decide +kernel⟩
def sp_read_by (K : PySem.W.Frag) : Sp := fun vs H Q E => (∃ z : Str, vs = [.ref (He.ga K "integer_in"), .str z] ∧ z.length ≤ 40000 ∧ (∀ n, readI z = some n → RetV (.int n) H Q) ∧ (readI z = none → RefC K H E)) ∨
  (∃ z : Str, vs = [.ref (He.ga K "read_call"), .str z] ∧ z.length ≤ 40000 ∧ (∀ wd ns, readC 3 z = some (wd, ns) → ∀ p H', Ex H H' → H' p = some (.tup (wv wd ns)) → Q (.ref p) H') ∧ (readC 3 z = none → RefC K H E))
theorem ok_read_by (T : Txt K mg w) (U : TxtX P K mg) (M : TxtM K) {f : Addr} {fd : FuncData} (F : DefAt K "read_by" "read_by" s_read_by f fd) : FnOk P w K mg base (L2.CX P w) 6 f fd ["reader", "text"] (sp_read_by K) := by
  refine okX F sc_read_by (fun vs H Q E h => ?_) (fun cdv A outer s H vs Q E hr h => ?_)
  · rcases h with ⟨z, rfl, _⟩ | ⟨z, rfl, _⟩ <;> rfl
  · refine ⟨_, pss_one (L2H.ps_try_onlyX (c := .ref (He.ga K "NoText")) rfl rfl ⟨rfl, by decide, .inl U.x_NoText.g⟩ (L2H.passesAt_of rfl) (takes_of rfl rfl rfl rfl)
      (fun W pn xe tkN tkP ps => pss_one (ps_ret (pe_callR (i := 0) (cal_integer_in T U) T.g_integer_in (cal_read_call T U) T.g_read_call hr rfl (Or.inl rfl) (L2N.passes_call (E := fun cls d H => ∀ σ, W cls d σ H) tkN fun cls d σ H h => h σ) (pa_cons (pv 1) pa_nil))))
      (fun a oe cls d pn hz hd tkS hot => pss_one (L2H.ps_raiseH hot tkS (pmkN_own0 PySem.F.excBase_ValueError U.x_NoCommand.q U.x_NoCommand.g U.x_NoCommand.k (raises_own U.x_NoCommand.ex U.x_NoCommand.ty) (by rfl))))), ?_⟩
    have hm : PySem.W.exmOne K (.ref (He.ga K "NoText")) (.ref (He.ga K "NoText")) = some true := (M.m "NoText" (by decide +kernel) "NoText" (by decide +kernel)).trans (congrArg some (by decide +kernel))
    rcases h with ⟨z, rfl, hz, kq, ke⟩ | ⟨z, rfl, hz, kq, ke⟩
    · refine i_ret (.inl ⟨rfl, ?_⟩)
      walk_at "go"
      exact u_integer_in (by omega) kq fun hn H' e' σ' => ⟨true, hm, fun _ a _ => ke hn H' e', fun z => nomatch z⟩
    · refine i_ret (.inr ⟨rfl, ?_⟩)
      walk_at "go"
      exact ⟨z, rfl, hz, kq, fun hn H' e' σ' => ⟨true, hm, fun _ a _ => ke hn H' e', fun z => nomatch z⟩⟩
theorem cal_read_by (T : Txt K mg w) (U : TxtX P K mg) (M : TxtM K) : Cal P w K mg base (L2.CX P w) 6 "read_by" (sp_read_by K) := calOf T.g_read_by T.d_read_by (fun _ F => ok_read_by T U M F) (fun _ _ _ _ _ _ us hl => match us, hl with | [_, _], _ => rfl)
theorem u_read_int {z : Str} (h1 : z.length ≤ 40000) (h2 : ∀ n, readI z = some n → RetV (.int n) H Q) (h3 : readI z = none → RefC K H E) : sp_read_by K [.ref (He.ga K "integer_in"), .str z] H Q E := .inl ⟨z, rfl, h1, h2, h3⟩
theorem u_read_call {z : Str} (h1 : z.length ≤ 40000) (h2 : ∀ wd ns, readC 3 z = some (wd, ns) → ∀ p H', Ex H H' → H' p = some (.tup (wv wd ns)) → Q (.ref p) H') (h3 : readC 3 z = none → RefC K H E) : sp_read_by K [.ref (He.ga K "read_call"), .str z] H Q E := .inr ⟨z, rfl, h1, h2, h3⟩
end
end Pp
-- PpZ1
set_option maxRecDepth 100000
set_option maxHeartbeats 4000000
namespace Pp
open PySem PySem.Spec PyProof.Rows L2 Evl
/-- a desk that holds a parade, or none -/
def DeskAt (K : PySem.W.Frag) (H : Hp) (dk : Addr) (fp : List Addr) : Option Pd → Prop
  | none => fp = [] ∧ ∃ dx, H dk = some (.ins (He.ga K "Desk") dx [("parade", .non)])
  | some d => dk ∉ fp ∧ ∃ dx pP, H dk = some (.ins (He.ga K "Desk") dx [("parade", .ref pP)]) ∧ ParAt K H pP fp d
theorem DeskAt.ob {K : PySem.W.Frag} {H : Hp} {dk : Addr} {fp : List Addr} {o : Option Pd} (h : DeskAt K H dk fp o) : ∃ dx v, H dk = some (.ins (He.ga K "Desk") dx [("parade", v)]) := by
  cases o with
  | none => exact ⟨h.2.choose, _, h.2.choose_spec⟩
  | some d =>
    obtain ⟨_, dx, pP, h, _⟩ := h
    exact ⟨dx, _, h⟩
theorem DeskAt.live {K : PySem.W.Frag} {H : Hp} {dk : Addr} {fp : List Addr} {o : Option Pd} (h : DeskAt K H dk fp o) : ∀ b ∈ dk :: fp, H b ≠ none := by
  intro b hb
  rcases List.mem_cons.mp hb with rfl | hb
  · obtain ⟨dx, v, e⟩ := h.ob
    rw [e]; simp
  · cases o with
    | none => rw [h.1] at hb; cases hb
    | some d =>
      obtain ⟨_, dx, pP, _, hp⟩ := h
      exact hp.live b hb
theorem DeskAt.ext {K : PySem.W.Frag} {G : List Addr} {H H' : Hp} {dk : Addr} {fp : List Addr} {o : Option Pd} (h : DeskAt K H dk fp o) (e : Ext G H H') (n : ∀ b ∈ dk :: fp, b ∉ G) : DeskAt K H' dk fp o := by
  cases o with
  | none =>
    obtain ⟨h1, dx, h2⟩ := h
    exact ⟨h1, dx, e.keep _ _ h2 (n dk (by simp))⟩
  | some d =>
    obtain ⟨h0, dx, pP, h1, h2⟩ := h
    exact ⟨h0, dx, pP, e.keep _ _ h1 (n dk (by simp)), h2.ext e fun b hb => n b (List.mem_cons_of_mem _ hb)⟩
theorem DeskAt.ex {K : PySem.W.Frag} {H H' : Hp} {dk : Addr} {fp : List Addr} {o : Option Pd} (h : DeskAt K H dk fp o) (e : Ex H H') : DeskAt K H' dk fp o := h.ext (exExt (G := []) e) fun _ _ z => nomatch z
section
variable {P : Program} {w : World} {K : PySem.W.Frag} {mg : Str → Option Value} {base : Heap} {H : Hp} {Q : VK} {E : XK}
abbrev s_Desk___init__ : Stmt := inClass (top 66) 0
abbrev N_Desk___init__ : List Str := ["self"]
theorem sc_Desk___init__ : FnScope N_Desk___init__ ["self"] (defScope s_Desk___init__) := ⟨rfl, rfl, rfl, by decide +kernel, rfl, by decide +kernel, by decide +kernel⟩
def sp_Desk___init__ (K : PySem.W.Frag) : Sp := fun vs H Q _ => ∃ (a dx : Addr), vs = [.ref a] ∧ H a = some (.ins (He.ga K "Desk") dx []) ∧ (∀ H', Ext [a] H H' → DeskAt K H' a [] none → Q .non H')
theorem ok_Desk___init__ (T : Txt K mg w) {f : Addr} {fd : FuncData} (F : DefAt K "__init__" "Desk.__init__" s_Desk___init__ f fd) : FnOk P w K mg base CX0 1 f fd ["self"] (sp_Desk___init__ K) := by
  refine ok0 F sc_Desk___init__ (fun vs H Q E h => ?_) (fun cdv A outer s H vs Q E hr h => ?_)
  · walk_at "len"
  · obtain ⟨a, dx, rfl, ha, k1⟩ := h
    refine ⟨_, (pss_one (ps_fld (pv 0) pe_non rfl)), ?_⟩
    walk_at "go"
    refine i_put ha T.c_Desk T.n_Desk_parade (by simp) fun H5 x5 g5 k5 => ?_
    exact k1 _ x5 ⟨rfl, dx, g5⟩
theorem mak_Desk (T : Txt K mg w) : Mak P w K mg base CX0 1 "Desk" (He.ga K "Desk") (sp_Desk___init__ K) := makOf T.g_Desk T.mk_Desk T.d_Desk___init__ (fun _ F => ok_Desk___init__ T F) (fun _ _ _ _ _ _ us hl => match us, hl with | [_], _ => rfl)
abbrev s_Desk_begun : Stmt := inClass (top 66) 1
abbrev N_Desk_begun : List Str := ["self", "files", "rows"]
theorem sc_Desk_begun : FnScope N_Desk_begun ["self", "files", "rows"] (defScope s_Desk_begun) := ⟨rfl, rfl, rfl, by decide +kernel, rfl, by decide +kernel, by decide +kernel⟩
def sp_Desk_begun (K : PySem.W.Frag) : Sp := fun vs H Q E => ∃ (dk : Addr) (fp : List Addr) (o : Option Pd) (f r : Int), vs = [.ref dk, .int f, .int r] ∧ DeskAt K H dk fp o ∧
  ((f = 2 ∨ f = 3) ∧ 1 ≤ r ∧ r ≤ 100 → ∀ fp' H', Ext (dk :: fp) H H' → (∀ b ∈ fp', b ∈ fp ∨ H b = none) → DeskAt K H' dk fp' (some ⟨f, r, [], [], []⟩) → Q (.str "ok") H') ∧
  (¬ ((f = 2 ∨ f = 3) ∧ 1 ≤ r ∧ r ≤ 100) → Ref K H E)
theorem ok_Desk_begun (T : Txt K mg w) (U : TxtX P K mg) {f : Addr} {fd : FuncData} (F : DefAt K "begun" "Desk.begun" s_Desk_begun f fd) : FnOk P w K mg base (L2.CX P w) 7 f fd ["self", "files", "rows"] (sp_Desk_begun K) := by
  refine okX F sc_Desk_begun (fun vs H Q E h => ?_) (fun cdv A outer s H vs Q E hr h => ?_)
  · walk_at "len"
  · obtain ⟨dk, fp, o, f', r, rfl, hD, k1, k2⟩ := h
    obtain ⟨dx, v, hdk⟩ := hD.ob
    refine ⟨_, (pss_cons (ps_fld (pv 0) (pe_mak (mak_Parade T U) hr (passes_call (takes_of rfl rfl rfl rfl) fun _ _ _ _ h => h) (pa_cons (pv 1) (pa_cons (pv 2) pa_nil))) rfl)
  (pss_one (ps_ret pe_str))), ?_⟩
    walk_at "go"
    intro a da ha hda hne
    generalize hU : upd (upd _ _ _) _ _ = H3
    have e3 := mk_e ha hda hne hU
    have adk : dk ≠ a := ne_of_none hdk ha
    refine ⟨a, da, f', r, rfl, al_g hU, fun hok fq H4 x4 hn4 hP4 => ⟨rfl, ?_⟩, fun hn cls x H' hr e' => k2 hn cls x H' hr (e3.trans e')⟩
    have e4 : Ex H H4 := mut_fresh e3 x4 ha
    have ndk : dk ∉ fq := fun z => (hn4 dk z).elim adk fun q => by rw [e3 _ _ hdk] at q; cases q
    walk_at "go"
    refine i_put (e4 _ _ hdk) T.c_Desk T.n_Desk_parade (by simp) fun H5 x5 g5 k5 => ?_
    walk_at "go"
    refine k1 hok fq H5 ((Ext.xr e4 x5).mono fun b hb => by simp at hb; simp [hb]) (fun b hb => .inr ?_) ⟨ndk, dx, a, g5, hP4.ext x5 fun b hb z => ndk (by simp at z; rw [← z]; exact hb)⟩
    rcases hn4 b hb with rfl | q
    · exact ha
    · exact fresh_back e3 q
theorem met_Desk_begun (T : Txt K mg w) (U : TxtX P K mg) : Met P w K mg base (L2.CX P w) 7 (He.ga K "Desk") "begun" (sp_Desk_begun K) := metOf T.c_Desk T.a_Desk_begun T.d_Desk_begun (fun _ F => ok_Desk_begun T U F) (fun _ _ _ _ _ _ us hl => match us, hl with | [_, _, _], _ => rfl)
end
end Pp
-- PpZ2
set_option maxRecDepth 100000
set_option maxHeartbeats 4000000
namespace Pp
open PySem PySem.Spec PyProof.Rows L2 Evl
def sortI (l : List Int) : List Int := l.mergeSort fun a b => decide (a ≤ b)
theorem sortI_perm (l : List Int) : (sortI l).Perm l := List.mergeSort_perm l _
theorem sortI_sorted (l : List Int) : (sortI l).Pairwise (· ≤ ·) := by
  have := List.pairwise_mergeSort (le := fun a b : Int => decide (a ≤ b)) (fun a b c h1 h2 => by simp at *; omega) (fun a b => by simp; omega) l
  exact this.imp fun h => of_decide_eq_true h
theorem sort_eq {l m : List Int} (p : l.Perm m) (h1 : l.Pairwise (· ≤ ·)) (h2 : m.Pairwise (· ≤ ·)) : l = m := p.eq_of_pairwise (le := (· ≤ ·)) (fun a b _ _ h k => Int.le_antisymm h k) h1 h2
theorem sortI_uniq {l m : List Int} (p : m.Perm l) (h : m.Pairwise (· ≤ ·)) : m = sortI l := sort_eq (p.trans (sortI_perm l).symm) h (sortI_sorted l)
/-- what a parade answers to a word; none: refused -/
def aloneL : List Str := ["back", "again", "away", "script", "home"]
def withL : List Str := ["leave", "come", "where", "mates", "met", "row"]
def aloneA (d : Pd) (w : Str) : Option (Str × Pd) :=
  if w = "away" then some (oneText ((sortI d.gone).map V.int), d)
  else if w = "script" then some (scrText d.files d.done, d)
  else if w = "home" then some (if d.st = home d.st.length then "yes" else "no", d)
  else if w = "back" then match d.done.getLast? with
    | none => none
    | some c => some (callText c, { d with done := d.done.dropLast, undone := d.undone ++ [c] })
  else match d.undone.getLast? with
    | none => none
    | some c => some (callText c, { d with done := d.done ++ [c], undone := d.undone.dropLast })
theorem aloneA_away (d : Pd) : aloneA d "away" = some (oneText ((sortI d.gone).map V.int), d) := by
  unfold aloneA; rw [if_pos rfl]
theorem aloneA_script (d : Pd) : aloneA d "script" = some (scrText d.files d.done, d) := by
  unfold aloneA; rw [if_neg (by decide), if_pos rfl]
theorem aloneA_home (d : Pd) : aloneA d "home" = some ((if d.st = home d.st.length then ("yes" : Str) else "no"), d) := by
  unfold aloneA; rw [if_neg (by decide), if_neg (by decide), if_pos rfl]
theorem aloneA_back {d : Pd} {cs : List Cl} {c : Cl} (h : d.done = cs ++ [c]) : aloneA d "back" = some (callText c, { d with done := cs, undone := d.undone ++ [c] }) := by
  unfold aloneA; rw [if_neg (by decide), if_neg (by decide), if_neg (by decide), if_pos rfl, h]; simp
theorem aloneA_back0 {d : Pd} (h : d.done = []) : aloneA d "back" = none := by
  unfold aloneA; rw [if_neg (by decide), if_neg (by decide), if_neg (by decide), if_pos rfl, h]; simp
theorem aloneA_again {d : Pd} {cs : List Cl} {c : Cl} (h : d.undone = cs ++ [c]) : aloneA d "again" = some (callText c, { d with done := d.done ++ [c], undone := cs }) := by
  unfold aloneA; rw [if_neg (by decide), if_neg (by decide), if_neg (by decide), if_neg (by decide), h]; simp
theorem aloneA_again0 {d : Pd} (h : d.undone = []) : aloneA d "again" = none := by
  unfold aloneA; rw [if_neg (by decide), if_neg (by decide), if_neg (by decide), if_neg (by decide), h]; simp
/-- the numbers of its calls are small -/
def Pd.Sm (d : Pd) : Prop := (∀ c ∈ d.done, c.Sm) ∧ ∀ c ∈ d.undone, c.Sm
theorem gone_ok {d : Pd} (h : d.Ok) : ∀ n ∈ d.gone, n.natAbs < 10 ^ 40 := fun n hn => by
  have h1 := h.gi n hn
  have h2 := bd_mul h.bd
  obtain ⟨⟨b1, b2⟩, b3, b4⟩ := h.bd
  have h3 : n < 10 ^ 5 := by omega
  have h4 : (10 : Nat) ^ 5 ≤ 10 ^ 40 := by decide +kernel
  omega
section
variable {P : Program} {w : World} {K : PySem.W.Frag} {mg : Str → Option Value} {base : Heap} {H : Hp} {Q : VK} {E : XK}
abbrev s_Desk_answer_alone : Stmt := inClass (top 66) 2
abbrev N_Desk_answer_alone : List Str := ["self", "word"]
theorem sc_Desk_answer_alone : FnScope N_Desk_answer_alone ["self", "word"] (defScope s_Desk_answer_alone) := ⟨rfl, rfl, rfl, by decide +kernel, rfl, by decide +kernel, by decide +kernel⟩
def sp_Desk_answer_alone (K : PySem.W.Frag) : Sp := fun vs H Q E => ∃ (dk : Addr) (fp : List Addr) (d : Pd) (w : Str), vs = [.ref dk, .str w] ∧ DeskAt K H dk fp (some d) ∧ d.Ok ∧ d.Sm ∧ w ∈ aloneL ∧
  (∀ ans d', aloneA d w = some (ans, d') → ∀ fp' H', Ext (dk :: fp) H H' → (∀ b ∈ fp', b ∈ fp ∨ H b = none) → DeskAt K H' dk fp' (some d') → Q (.str ans) H') ∧
  (aloneA d w = none → Ref K H E)
theorem ok_Desk_answer_alone (T : Txt K mg w) (U : TxtX P K mg) {f : Addr} {fd : FuncData} (F : DefAt K "answer_alone" "Desk.answer_alone" s_Desk_answer_alone f fd) : FnOk P w K mg base (L2.CX P w) 10 f fd ["self", "word"] (sp_Desk_answer_alone K) := by
  refine okX F sc_Desk_answer_alone (fun vs H Q E h => ?_) (fun cdv A outer s H vs Q E hr h => ?_)
  · walk_at "len"
  · obtain ⟨dk, fp, d, wd, rfl, hD, hO, hS, hw, k1, k2⟩ := h
    obtain ⟨h0, dx, pP, hdk, hP⟩ := id hD
    have hP0 := hP
    obtain ⟨t, ls, l1, l2, l3, m, as1, as2, xs3, rfl, hL⟩ := hP
    obtain ⟨dp, hob⟩ := hL.ob
    obtain ⟨dt, htr⟩ := hL.ln.ob
    refine ⟨_, (pss_cons (ps_if (pt_cmpR op_eq (pv 1) pe_str (nomark _)) (pss_one (ps_ret (pe_cal (cal_in_one T) hr px0 (pa_cons (pe_met0 (met_Parade_away T) hr px0 (pe_fld (pv 0) (by rfl))) pa_nil)))) pss_nil)
  (pss_cons (ps_if (pt_cmpR op_eq (pv 1) pe_str (nomark _)) (pss_one (ps_ret (pe_cal (cal_show_script T) hr px0 (pa_cons (pe_mak (mak_Script T) hr pass0 (pa_cons (pe_prp (pe_fld (pv 0) (by rfl)) (prp_Parade_files T) hr) (pa_cons (pe_met0 (met_Parade_done T) hr px0 (pe_fld (pv 0) (by rfl))) pa_nil))) pa_nil)))) pss_nil)
  (pss_cons (ps_if (pt_cmpR op_eq (pv 1) pe_str (nomark _)) (pss_one (ps_ret (pe_ifExp (pt_val (pe_met0 (met_Line_is_home T) hr px0 (pe_fld (pe_fld (pv 0) (by rfl)) (by rfl)))) pe_str pe_str))) pss_nil)
  (pss_one (ps_ret (pe_cal (cal_show_call T) hr px0 (pa_cons (pe_ifExp (pt_cmpR op_eq (pv 1) pe_str (nomark _)) (pe_met0 (met_Parade_back T U) hr (pxE (passes_call (takes_of rfl rfl rfl rfl) fun _ _ _ _ h => h)) (pe_fld (pv 0) (by rfl))) (pe_met0 (met_Parade_again T U) hr (pxE (passes_call (takes_of rfl rfl rfl rfl) fun _ _ _ _ h => h)) (pe_fld (pv 0) (by rfl)))) pa_nil))))))), ?_⟩
    simp only [aloneL, List.mem_cons, List.not_mem_nil, or_false] at hw
    rcases hw with rfl | rfl | rfl | rfl | rfl
    · walk_at "go"
      refine ⟨pP, _, d, rfl, hP0, hO, fun cs c hc fp' aC H' x' hn' hP' haC => ?_, fun hnil => k2 (aloneA_back0 hnil)⟩
      walk_at "go"
      refine u_show_call haC (hS.1 c (by rw [hc]; simp)) fun H4 e4 => ?_
      have hl := hP'.live
      have hdk' : H' dk = some (.ins (He.ga K "Desk") dx [("parade", .ref pP)]) := x'.keep _ _ hdk h0
      refine k1 _ _ (aloneA_back hc) fp' H4 ((x'.mono fun b hb => List.mem_cons_of_mem _ hb).xl e4) hn' ⟨fun z => (hn' dk z).elim h0 (fun q => by rw [hdk] at q; cases q), dx, pP, e4 _ _ hdk', hP'.ex e4⟩
    · walk_at "go"
      refine ⟨pP, _, d, rfl, hP0, hO, fun cs c hc fp' aC H' x' hn' hP' haC => ?_, fun hnil => k2 (aloneA_again0 hnil)⟩
      walk_at "go"
      refine u_show_call haC (hS.2 c (by rw [hc]; simp)) fun H4 e4 => ?_
      have hdk' : H' dk = some (.ins (He.ga K "Desk") dx [("parade", .ref pP)]) := x'.keep _ _ hdk h0
      refine k1 _ _ (aloneA_again hc) fp' H4 ((x'.mono fun b hb => List.mem_cons_of_mem _ hb).xl e4) hn' ⟨fun z => (hn' dk z).elim h0 (fun q => by rw [hdk] at q; cases q), dx, pP, e4 _ _ hdk', hP'.ex e4⟩
    · walk_at "go"
      refine ⟨pP, _, d, rfl, hP0, hO.gl, fun l ns H4 e4 hl hp hs hg => ?_⟩
      walk_at "go"
      refine u_in_one hg (fun v hv => ?_) (by rw [List.length_map, hp.length_eq]; have := hO.gl; omega) fun H5 e5 => ?_
      · obtain ⟨n, hn, rfl⟩ := List.mem_map.mp hv
        exact .inr (sm_ok (gone_ok hO n (hp.subset hn)))
      · have hx := k1 _ _ (aloneA_away d) _ H5 (exExt (e4.trans e5)) (fun b hb => .inl hb) (hD.ex (e4.trans e5))
        rw [← sortI_uniq hp hs] at hx
        exact hx
    · walk_at "go"
      refine ⟨pP, _, d, rfl, hP0, fun l as H4 e4 hl hcs0 hg => ?_⟩
      have hcs := hcs0.ex e4
      walk_at "go"
      intro a da ha hda hne
      generalize hU : upd (upd _ _ _) _ _ = H5
      have e5 := mk_e ha hda hne hU
      refine ⟨a, l, da, d.files, as, d.done, rfl, al_g hU, hO.fr, e5 _ _ hg, hcs.ex e5, hO.dn, by have := hO.ld; omega, fun st H6 x6 g6 g7 => ⟨rfl, ?_⟩⟩
      have e6 : Ex H4 H6 := mut_fresh e5 x6 ha
      walk_at "go"
      refine u_show_script ⟨da, st, as, g6, g7, hcs.ex e6⟩ (by have := hO.fr; rcases this with z | z <;> rw [z] <;> decide +kernel) hS.1 (by have := hO.ld; omega) fun H7 e7 => ?_
      exact k1 _ _ (aloneA_script d) _ H7 (exExt ((e4.trans e6).trans e7)) (fun b hb => .inl hb) (hD.ex ((e4.trans e6).trans e7))
    · walk_at "go"
      have hlen : d.st.length = (d.rows * d.files).toNat := by unfold Pd.st; exact stand_len
      have hm := bd_mul hO.bd
      obtain ⟨⟨b1, b2⟩, b3, b4⟩ := hO.bd
      refine ⟨t, ls, d.files, d.rows, d.st, rfl, hL.ln, by omega, fun H4 e4 => ?_⟩
      refine i_bl ?_
      have hx := k1 _ _ (aloneA_home d) _ H4 (exExt e4) (fun b hb => .inl hb) (hD.ex e4)
      refine i_dec (fun h => ?_) (fun h => ?_)
      · rw [if_pos h] at hx
        walk_at "go"
        exact hx
      · rw [if_neg h] at hx
        walk_at "go"
        exact hx
theorem met_Desk_answer_alone (T : Txt K mg w) (U : TxtX P K mg) : Met P w K mg base (L2.CX P w) 10 (He.ga K "Desk") "answer_alone" (sp_Desk_answer_alone K) := metOf T.c_Desk T.a_Desk_answer_alone T.d_Desk_answer_alone (fun _ F => ok_Desk_answer_alone T U F) (fun _ _ _ _ _ _ us hl => match us, hl with | [_, _], _ => rfl)
end
end Pp
-- PpZ3
set_option maxRecDepth 100000
set_option maxHeartbeats 4000000
namespace Pp
open PySem PySem.Spec PyProof.Rows L2 Evl
theorem fol_rng {ms st : List Int} {N : Int} (hN : 0 < N) (h : ∀ x ∈ st, 0 ≤ x ∧ x < N) : ∀ {k : Nat}, ∀ x ∈ fol ms st k, 0 ≤ x ∧ x < N
  | 0, x, hx => by
    unfold fol at hx
    have := List.eq_of_mem_replicate (show x ∈ List.replicate ms.length 0 from hx)
    omega
  | k + 1, x, hx => by
    rw [fol_succ] at hx
    rcases List.mem_or_eq_of_mem_set hx with hx | rfl
    · exact fol_rng hN h x hx
    · rw [List.getD_eq_getElem?_getD]
      cases e : st[k]? with
      | none => show 0 ≤ (0 : Int) ∧ (0 : Int) < N; omega
      | some y => exact h y (List.mem_of_getElem? e)
theorem stand_rng {files rows : Int} (hN : 0 < rows * files) (cs : List Cl) : ∀ x ∈ standL files rows cs, 0 ≤ x ∧ x < rows * files := by
  unfold standL
  suffices H : ∀ (cs : List Cl) (st : List Int), (∀ x ∈ st, 0 ≤ x ∧ x < rows * files) → ∀ x ∈ cs.foldl (fun st c => stepL files rows c st) st, 0 ≤ x ∧ x < rows * files from H cs _ fun x hx => by
    unfold home at hx
    obtain ⟨i, hi, rfl⟩ := List.mem_map.mp hx
    have := List.mem_range.mp hi
    omega
  intro cs
  induction cs with
  | nil => exact fun st h => h
  | cons c r ih => exact fun st h => ih _ fun x hx => fol_rng hN h x hx
def inR (d : Pd) (n : Int) : Bool := decide (0 ≤ n ∧ n < d.rows * d.files)
def placeT (d : Pd) (n : Int) : Str := Txt.join "." ([((d.st.idxOf n : Nat) : Int) / d.files, ((d.st.idxOf n : Nat) : Int) % d.files].map fun n => sV (.int n))
def matesT (d : Pd) (n : Int) : Str := oneText (((sortI ((rowL d.files.toNat d.st n).filter fun x => decide (x ≠ n))).filter fun x => !decide (x ∈ d.gone)).map V.int)
/-- what a parade answers to a word and a number; none: refused -/
def oneA (d : Pd) (w : Str) (n : Int) : Option (Str × Pd) :=
  if w = "row" then some ((if 0 ≤ n ∧ n < d.rows then oneText (shownL d.files.toNat d.st d.gone n.toNat) else "refused"), d)
  else if inR d n = false then none
  else if w = "where" then some (placeT d n, d)
  else if w = "mates" then some (matesT d n, d)
  else if w = "leave" then (if n ∈ d.gone then none else some (("ok" : Str), { d with gone := d.gone ++ [n] }))
  else (if n ∈ d.gone then some (("ok" : Str), { d with gone := d.gone.filter fun x => decide (x ≠ n) }) else none)
theorem oneA_row (d : Pd) (n : Int) : oneA d "row" n = some ((if 0 ≤ n ∧ n < d.rows then oneText (shownL d.files.toNat d.st d.gone n.toNat) else "refused"), d) := if_pos rfl
theorem oneA_out {d : Pd} {w : Str} {n : Int} (h : ¬(0 ≤ n ∧ n < d.rows * d.files)) (hw : w ≠ "row") : oneA d w n = none := by
  unfold oneA inR; rw [if_neg hw, if_pos (decide_eq_false h)]
theorem inR_t {d : Pd} {n : Int} (h : 0 ≤ n ∧ n < d.rows * d.files) : ¬ inR d n = false := by
  unfold inR; rw [decide_eq_true h]; decide
theorem oneA_where {d : Pd} {n : Int} (h : 0 ≤ n ∧ n < d.rows * d.files) : oneA d "where" n = some (placeT d n, d) := by
  unfold oneA; rw [if_neg (by decide), if_neg (inR_t h), if_pos rfl]
theorem oneA_mates {d : Pd} {n : Int} (h : 0 ≤ n ∧ n < d.rows * d.files) : oneA d "mates" n = some (matesT d n, d) := by
  unfold oneA; rw [if_neg (by decide), if_neg (inR_t h), if_neg (by decide), if_pos rfl]
theorem oneA_leave {d : Pd} {n : Int} (h : 0 ≤ n ∧ n < d.rows * d.files) : oneA d "leave" n = if n ∈ d.gone then none else some (("ok" : Str), { d with gone := d.gone ++ [n] }) := by
  unfold oneA; rw [if_neg (by decide), if_neg (inR_t h), if_neg (by decide), if_neg (by decide), if_pos rfl]
theorem oneA_come {d : Pd} {n : Int} (h : 0 ≤ n ∧ n < d.rows * d.files) : oneA d "come" n = if n ∈ d.gone then some (("ok" : Str), { d with gone := d.gone.filter fun x => decide (x ≠ n) }) else none := by
  unfold oneA; rw [if_neg (by decide), if_neg (inR_t h), if_neg (by decide), if_neg (by decide), if_neg (by decide)]
theorem small_ok {n : Int} (h : 0 ≤ n ∧ n < 100000) : n.natAbs < 10 ^ 100 := by
  have h4 : (10 : Nat) ^ 5 ≤ 10 ^ 100 := by decide +kernel
  omega
theorem shown_ok {d : Pd} (h : d.Ok) {i : Nat} : ∀ v ∈ shownL d.files.toNat d.st d.gone i, OkN v := fun v hv => by
  unfold shownL at hv
  obtain ⟨x, hx, rfl⟩ := List.mem_map.mp hv
  have hx := List.mem_of_mem_drop (List.mem_of_mem_take hx)
  have h2 := bd_mul h.bd
  obtain ⟨⟨b1, b2⟩, b3, b4⟩ := h.bd
  have hr := stand_rng (files := d.files) (rows := d.rows) (by omega) d.done x hx
  unfold pvV
  split
  · exact .inl rfl
  · exact .inr (small_ok (by omega))
theorem shown_len {d : Pd} (h : d.Ok) {i : Nat} : (shownL d.files.toNat d.st d.gone i).length ≤ 40000 := by
  unfold shownL
  rw [List.length_map, List.length_take]
  have := h.fr
  omega
section
variable {P : Program} {w : World} {K : PySem.W.Frag} {mg : Str → Option Value} {base : Heap} {H : Hp} {Q : VK} {E : XK}
abbrev s_Desk_answer_one : Stmt := inClass (top 66) 3
abbrev N_Desk_answer_one : List Str := ["self", "word", "number"]
theorem sc_Desk_answer_one : FnScope N_Desk_answer_one ["self", "word", "number"] (defScope s_Desk_answer_one) := ⟨rfl, rfl, rfl, by decide +kernel, rfl, by decide +kernel, by decide +kernel⟩
def sp_Desk_answer_one (K : PySem.W.Frag) : Sp := fun vs H Q E => ∃ (dk : Addr) (fp : List Addr) (d : Pd) (w : Str) (n : Int), vs = [.ref dk, .str w, .int n] ∧ DeskAt K H dk fp (some d) ∧ d.Ok ∧ w ∈ withL ∧ w ≠ "met" ∧
  (∀ ans d', oneA d w n = some (ans, d') → ∀ fp' H', Ext (dk :: fp) H H' → (∀ b ∈ fp', b ∈ fp ∨ H b = none) → DeskAt K H' dk fp' (some d') → Q (.str ans) H') ∧
  (oneA d w n = none → Ref K H E)
theorem ok_Desk_answer_one (T : Txt K mg w) (U : TxtX P K mg) {f : Addr} {fd : FuncData} (F : DefAt K "answer_one" "Desk.answer_one" s_Desk_answer_one f fd) : FnOk P w K mg base (L2.CX P w) 10 f fd ["self", "word", "number"] (sp_Desk_answer_one K) := by
  refine okX F sc_Desk_answer_one (fun vs H Q E h => ?_) (fun cdv A outer s H vs Q E hr h => ?_)
  · walk_at "len"
  · obtain ⟨dk, fp, d, wd, n, rfl, hD, hO, hw, hmet, k1, k2⟩ := h
    obtain ⟨h0, dx, pP, hdk, hP⟩ := id hD
    have hP0 := hP
    obtain ⟨t, ls, l1, l2, l3, m, as1, as2, xs3, rfl, hL⟩ := hP
    obtain ⟨dp, hob⟩ := hL.ob
    obtain ⟨dt, htr⟩ := hL.ln.ob
    have h2 := bd_mul hO.bd
    obtain ⟨⟨b1, b2⟩, b3, b4⟩ := id hO.bd
    have hsl : d.st.length = (d.rows * d.files).toNat := by unfold Pd.st; exact stand_len
    refine ⟨_, (pss_cons (ps_if (pt_cmpR op_eq (pv 1) pe_str (nomark _)) (pss_one (ps_ret (pe_ifExp (pt_val (pe_cal (cal_is_index T) hr px0 (pa_cons (pv 2) (pa_cons (pe_prp (pe_fld (pv 0) (by rfl)) (prp_Parade_rows T) hr) pa_nil)))) (pe_cal (cal_in_one T) hr px0 (pa_cons (pe_ix ix_list (pe_met0 (met_Parade_line T) hr px0 (pe_fld (pv 0) (by rfl))) (pv 2) (fun _ _ => rfl)) pa_nil)) pe_str))) pss_nil)
  (pss_cons (ps_if (pt_cmpR op_eq (pv 1) pe_str (nomark _)) (pss_one (ps_ret (pe_cal (cal_show_place T) hr px0 (pa_cons (pe_met (met_Parade_place_of T U) hr (pxE (passes_call (takes_of rfl rfl rfl rfl) fun _ _ _ _ h => h)) (pe_fld (pv 0) (by rfl)) (pa_cons (pv 2) pa_nil)) pa_nil)))) pss_nil)
  (pss_cons (ps_if (pt_cmpR op_eq (pv 1) pe_str (nomark _)) (pss_one (ps_ret (pe_cal (cal_in_one T) hr px0 (pa_cons (pe_met (met_Parade_mates T U) hr (pxE (passes_call (takes_of rfl rfl rfl rfl) fun _ _ _ _ h => h)) (pe_fld (pv 0) (by rfl)) (pa_cons (pv 2) pa_nil)) pa_nil)))) pss_nil)
  (pss_cons (ps_if (pt_cmpR op_eq (pv 1) pe_str (nomark _)) (pss_one ps_never) pss_nil)
  (pss_cons (ps_if (pt_cmpR op_eq (pv 1) pe_str (nomark _)) (pss_one (ps_expr (pe_met (met_Parade_leave T U) hr (pxE (passes_call (takes_of rfl rfl rfl rfl) fun _ _ _ _ h => h)) (pe_fld (pv 0) (by rfl)) (pa_cons (pv 2) pa_nil)))) (pss_one (ps_expr (pe_met (met_Parade_come T U) hr (pxE (passes_call (takes_of rfl rfl rfl rfl) fun _ _ _ _ h => h)) (pe_fld (pv 0) (by rfl)) (pa_cons (pv 2) pa_nil)))))
  (pss_one (ps_ret pe_str))))))), ?_⟩
    simp only [withL, List.mem_cons, List.not_mem_nil, or_false] at hw
    rcases hw with rfl | rfl | rfl | rfl | rfl | rfl
    · walk_at "go"
      refine u_Parade_leave hP0 hO (fun hx H4 x4 hP4 => ?_) (fun hx => k2 ?_)
      · walk_at "go"
        have hdk' : H4 dk = some (.ins (He.ga K "Desk") dx [("parade", .ref pP)]) := x4.keep _ _ hdk h0
        exact k1 _ _ (by rw [oneA_leave hx.1, if_neg hx.2]) _ H4 (x4.mono fun b hb => List.mem_cons_of_mem _ hb) (fun b hb => .inl hb) ⟨h0, dx, pP, hdk', hP4⟩
      · by_cases hr : 0 ≤ n ∧ n < d.rows * d.files
        · rw [oneA_leave hr, if_pos (by by_cases z : n ∈ d.gone; exact z; exact absurd ⟨hr, z⟩ hx)]
        · exact oneA_out hr (by decide)
    · walk_at "go"
      refine u_Parade_come hP0 hO (fun hx H4 x4 hP4 => ?_) (fun hx => k2 ?_)
      · walk_at "go"
        have hdk' : H4 dk = some (.ins (He.ga K "Desk") dx [("parade", .ref pP)]) := x4.keep _ _ hdk h0
        exact k1 _ _ (by rw [oneA_come hx.1, if_pos hx.2]) _ H4 (x4.mono fun b hb => List.mem_cons_of_mem _ hb) (fun b hb => .inl hb) ⟨h0, dx, pP, hdk', hP4⟩
      · by_cases hr : 0 ≤ n ∧ n < d.rows * d.files
        · rw [oneA_come hr, if_neg (fun z => hx ⟨hr, z⟩)]
        · exact oneA_out hr (by decide)
    · walk_at "go"
      refine u_Parade_place_of hP0 hO (fun hx q H4 e4 hq => ?_) (fun hx => k2 (oneA_out hx (by decide)))
      have hil : ((d.st.idxOf n : Nat) : Int) ≤ d.st.length := by have := List.idxOf_le_length (a := n) (l := d.st); omega
      walk_at "go"
      refine ⟨q, [((d.st.idxOf n : Nat) : Int) / d.files, ((d.st.idxOf n : Nat) : Int) % d.files], rfl, hq, fun y hy => ?_, by simp, fun H5 e5 => ?_⟩
      · have g1 : ((d.st.idxOf n : Nat) : Int) / d.files ≤ ((d.st.idxOf n : Nat) : Int) := Int.ediv_le_self _ (by omega)
        have g2 : 0 ≤ ((d.st.idxOf n : Nat) : Int) / d.files := Int.ediv_nonneg (by omega) (by omega)
        have g3 := Int.emod_nonneg ((d.st.idxOf n : Nat) : Int) (show d.files ≠ 0 by omega)
        have g4 := Int.emod_lt_of_pos ((d.st.idxOf n : Nat) : Int) (show 0 < d.files by omega)
        simp only [List.mem_cons, List.not_mem_nil, or_false] at hy
        rcases hy with rfl | rfl <;> exact small_ok (by omega)
      · exact k1 _ _ (oneA_where hx) _ H5 (exExt (e4.trans e5)) (fun b hb => .inl hb) (hD.ex (e4.trans e5))
    · walk_at "go"
      refine u_Parade_mates hP0 hO (fun hx l ns H4 e4 hl hp hs hg => ?_) (fun hx => k2 (oneA_out hx (by decide)))
      walk_at "go"
      refine u_in_one hg (fun v hv => ?_) ?_ fun H5 e5 => ?_
      · obtain ⟨y, hy, rfl⟩ := List.mem_map.mp hv
        have hy := (List.mem_filter.mp (hp.subset (List.mem_filter.mp hy).1)).1
        unfold rowL at hy
        have hr := stand_rng (files := d.files) (rows := d.rows) (by omega) d.done y (List.mem_of_mem_drop (List.mem_of_mem_take hy))
        exact .inr (small_ok (by omega))
      · rw [List.length_map]
        have g1 := List.length_filter_le (fun x => !decide (x ∈ d.gone)) ns
        have g2 := hp.length_eq
        have g3 := List.length_filter_le (fun x => decide (x ≠ n)) (rowL d.files.toNat d.st n)
        have g4 : (rowL d.files.toNat d.st n).length ≤ d.files.toNat := by unfold rowL; rw [List.length_take]; omega
        omega
      · have hx := k1 _ _ (oneA_mates hx) _ H5 (exExt (e4.trans e5)) (fun b hb => .inl hb) (hD.ex (e4.trans e5))
        unfold matesT at hx
        rw [← sortI_uniq hp hs] at hx
        exact hx
    · exact absurd rfl hmet
    · walk_at "go"
      have hx := k1 _ _ (oneA_row d n)
      refine i_dec (fun h => ?_) (fun h => ?_)
      · rw [if_pos h] at hx
        walk_at "go"
        refine u_Parade_line (hP0.ex e) hO fun l rs H4 e4' hl hg hrs => ?_
        have e4 := e.trans e4'
        obtain ⟨r, hr1, hr2⟩ := hrs.2 n.toNat (by omega)
        have hix : atI (rs.map V.ref) n = some (.ref r) := by
          have := atI_at (xs := rs.map V.ref) (v := V.ref r) (i := n.toNat) (by rw [List.getElem?_map, hr1]; rfl)
          rwa [Int.toNat_of_nonneg h.1] at this
        walk_at "go"
        refine u_in_one hr2 (shown_ok hO) (shown_len hO) fun H5 e5 => ?_
        exact hx _ H5 (exExt (e4.trans e5)) (fun b hb => .inl hb) (hD.ex (e4.trans e5))
      · rw [if_neg h] at hx
        walk_at "go"
        exact hx _ _ (exExt (by walk_at "ex")) (fun b hb => .inl hb) (hD.ex (by walk_at "ex"))
theorem met_Desk_answer_one (T : Txt K mg w) (U : TxtX P K mg) : Met P w K mg base (L2.CX P w) 10 (He.ga K "Desk") "answer_one" (sp_Desk_answer_one K) := metOf T.c_Desk T.a_Desk_answer_one T.d_Desk_answer_one (fun _ F => ok_Desk_answer_one T U F) (fun _ _ _ _ _ _ us hl => match us, hl with | [_, _, _], _ => rfl)
end
end Pp
-- PpZ4
set_option maxRecDepth 100000
set_option maxHeartbeats 4000000
namespace Pp
open PySem PySem.Spec PyProof.Rows L2 Evl
/-! ### a line's meaning -/
inductive Cmd where
  | begin (f r : Int) | alone (w : Str) | one (w : Str) (n : Int) | call (c : Cl)
def clOf (wd : Str) : List Int → Option Cl
  | [] => if wd = "about" then some .about else if wd = "halve" then some .halve else if wd = "pair" then some .pair else if wd = "others" then some .others else if wd = "fill" then some .fill else none
  | [a] => if wd = "all" then some (.all a) else none
  | [a, b] => if wd = "up" then some (.up a b) else if wd = "swap" then some (.swap a b) else if wd = "front" then some (.front a b) else none
  | [a, b, c] => if wd = "wheel" then some (.wheel a b c) else none
  | _ => none
theorem many_mem {wd : Str} {m : Nat} (h : manyOf wd = some m) : wd = "all" ∨ wd = "up" ∨ wd = "swap" ∨ wd = "wheel" ∨ wd = "about" ∨ wd = "front" ∨ wd = "halve" ∨ wd = "pair" ∨ wd = "others" ∨ wd = "fill" := by
  unfold manyOf at h
  repeat' split at h
  all_goals first | (cases h; done) | simp [*]
theorem clOf_ok {wd : Str} {ns : List Int} (h : isCallB 3 wd ns = true) : ∃ c, clOf wd ns = some c ∧ c.word = wd ∧ c.ns = ns := by
  unfold isCallB at h
  cases hm : manyOf wd with
  | none => rw [hm] at h; cases h
  | some m =>
    rw [hm] at h
    have h : callB 3 (isNum wd) m ns = true := h
    have hl : ns.length = m + (if isNum wd then 1 else 0) := by
      unfold callB at h
      rw [Bool.and_eq_true, decide_eq_true_eq] at h
      exact h.1
    rcases many_mem hm with rfl | rfl | rfl | rfl | rfl | rfl | rfl | rfl | rfl | rfl
    · have e : m = 0 := (Option.some.inj hm).symm
      subst e
      match ns, hl with
      | [a], _ => exact ⟨.all a, rfl, rfl, rfl⟩
    · have e : m = 1 := (Option.some.inj hm).symm
      subst e
      match ns, hl with
      | [a, b], _ => exact ⟨.up a b, rfl, rfl, rfl⟩
    · have e : m = 2 := (Option.some.inj hm).symm
      subst e
      match ns, hl with
      | [a, b], _ => exact ⟨.swap a b, rfl, rfl, rfl⟩
    · have e : m = 2 := (Option.some.inj hm).symm
      subst e
      match ns, hl with
      | [a, b, c], _ => exact ⟨.wheel a b c, rfl, rfl, rfl⟩
    · have e : m = 0 := (Option.some.inj hm).symm
      subst e
      match ns, hl with
      | [], _ => exact ⟨.about, rfl, rfl, rfl⟩
    · have e : m = 2 := (Option.some.inj hm).symm
      subst e
      match ns, hl with
      | [a, b], _ => exact ⟨.front a b, rfl, rfl, rfl⟩
    · have e : m = 0 := (Option.some.inj hm).symm
      subst e
      match ns, hl with
      | [], _ => exact ⟨.halve, rfl, rfl, rfl⟩
    · have e : m = 0 := (Option.some.inj hm).symm
      subst e
      match ns, hl with
      | [], _ => exact ⟨.pair, rfl, rfl, rfl⟩
    · have e : m = 0 := (Option.some.inj hm).symm
      subst e
      match ns, hl with
      | [], _ => exact ⟨.others, rfl, rfl, rfl⟩
    · have e : m = 0 := (Option.some.inj hm).symm
      subst e
      match ns, hl with
      | [], _ => exact ⟨.fill, rfl, rfl, rfl⟩
instance decOk {f : Int} {c : Cl} : Decidable (c.Ok f) := by cases c <;> unfold Cl.Ok <;> infer_instance
def parseC (z : Str) : Option Cmd := (readC 3 z).bind fun p => (clOf p.1 p.2).map Cmd.call
def parseW (z : Str) : List Str → Option Cmd
  | [] => none
  | w :: r => if w = "line" ∧ r.length = 2 then (readI (r.getD 0 Str.empty)).bind fun f => (readI (r.getD 1 Str.empty)).map fun n => Cmd.begin f n
    else if z ∈ aloneL then some (.alone z)
    else if w ∈ withL ∧ r.length = 1 then (readI (r.getD 0 Str.empty)).map fun n => Cmd.one w n
    else parseC z
def parse (z : Str) : Option Cmd := parseW z (Txt.split z " ")
/-- the answer; none: an error of the parade -/
def ans (o : Option Pd) : Cmd → Option (Str × Option Pd)
  | .begin f r => if (f = 2 ∨ f = 3) ∧ 1 ≤ r ∧ r ≤ 100 then some ("ok", some ⟨f, r, [], [], []⟩) else none
  | .alone w => match o with
    | none => some ("refused", none)
    | some d => (aloneA d w).map fun p => (p.1, some p.2)
  | .one w n => match o with
    | none => some ("refused", none)
    | some d => (oneA d w n).map fun p => (p.1, some p.2)
  | .call c => match o with
    | none => some ("refused", none)
    | some d => if (c.Ok d.files ∧ szOf c ≤ 16) ∧ d.done.length < 200 then some ("ok", some { d with done := d.done ++ [c], undone := [] }) else none
theorem parseW_line1 {z w : Str} {r : List Str} (h : w = "line" ∧ r.length = 2) : parseW z (w :: r) = (readI (r.getD 0 Str.empty)).bind fun f => (readI (r.getD 1 Str.empty)).map fun n => Cmd.begin f n := if_pos h
theorem parseW_line {z wa wb : Str} : parseW z ["line", wa, wb] = (readI wa).bind fun f => (readI wb).map fun n => Cmd.begin f n := parseW_line1 ⟨rfl, rfl⟩
theorem parseW_alone {z w : Str} {r : List Str} (h : ¬(w = "line" ∧ r.length = 2)) (h2 : z ∈ aloneL) : parseW z (w :: r) = some (.alone z) := (if_neg h).trans (if_pos h2)
theorem parseW_one {z w a : Str} (h : ¬(w = "line" ∧ [a].length = 2)) (h2 : z ∉ aloneL) (h3 : w ∈ withL) : parseW z [w, a] = (readI a).map fun n => Cmd.one w n := (if_neg h).trans ((if_neg h2).trans (if_pos ⟨h3, rfl⟩))
theorem parseW_call {z w : Str} {r : List Str} (h : ¬(w = "line" ∧ r.length = 2)) (h2 : z ∉ aloneL) (h3 : ¬(w ∈ withL ∧ r.length = 1)) : parseW z (w :: r) = parseC z := (if_neg h).trans ((if_neg h2).trans (if_neg h3))
theorem readAll_lt : ∀ {ws : List Str} {ns : List Int}, readAll ws = some ns → ∀ n ∈ ns, n.natAbs < 10 ^ 40
  | [], ns, h, n, hn => by cases h; cases hn
  | w :: r, ns, h, n, hn => by
    unfold readAll at h
    cases hw : readI w with
    | none => rw [hw] at h; cases h
    | some m =>
      rw [hw] at h
      cases hr : readAll r with
      | none => rw [hr] at h; cases h
      | some ms =>
        rw [hr] at h
        cases h
        rcases List.mem_cons.mp hn with rfl | hn
        · exact readI_lt hw
        · exact readAll_lt hr n hn
theorem readC_cl {z wd : Str} {ns : List Int} (h : readC 3 z = some (wd, ns)) : ∃ c : Cl, clOf wd ns = some c ∧ c.vs = wv wd ns ∧ c.Sm := by
  unfold readC at h
  cases hs : Txt.split z " " with
  | nil => rw [hs] at h; cases h
  | cons w r =>
    rw [hs] at h
    cases hr : readAll r with
    | none => rw [readW_none hr] at h; cases h
    | some ms =>
      cases hb : isCallB 3 w ms with
      | false => rw [readW_no hr hb] at h; cases h
      | true =>
        rw [readW_yes hr hb] at h
        cases h
        obtain ⟨c, h1, h2, h3⟩ := clOf_ok hb
        exact ⟨c, h1, by rw [Cl.vs_wv, h2, h3], by unfold Cl.Sm; rw [h3]; exact readAll_lt hr⟩
theorem RefC.ex {K : PySem.W.Frag} {H H1 : Hp} {E : XK} (r : RefC K H E) (e : Ex H H1) : RefC K H1 E := fun H' e' => r H' (e.trans e')
theorem Ref.ex1 {K : PySem.W.Frag} {H H1 : Hp} {E : XK} (r : Ref K H E) (e : Ex H H1) : Ref K H1 E := fun c x H' hr e' => r c x H' hr (e.trans e')
section
variable {σ : L2.St} {H : Hp}
theorem i_andTT {t u : TT} {Qb : Bool → Hp → Prop} {p q : Bool} (ht : ∀ Q, Q p H → t σ H Q) (hu : ∀ Q, Q q H → u σ H Q) (k : Qb (p && q) H) : tAnd t u σ H Qb := by
  refine i_andT (ht _ ?_)
  cases p with
  | true => exact i_tt (hu _ k)
  | false => exact i_ff k
end
section
variable {P : Program} {w : World} {K : PySem.W.Frag} {mg : Str → Option Value} {base : Heap} {H : Hp} {Q : VK} {E : XK}
abbrev s_Desk_answered : Stmt := inClass (top 66) 4
abbrev N_Desk_answered : List Str := ["self", "line", "words", "number", "call"]
theorem sc_Desk_answered : FnScope N_Desk_answered ["self", "line"] (defScope s_Desk_answered) := ⟨rfl, rfl, rfl, by decide +kernel, rfl, by decide +kernel, by decide +kernel⟩
def sp_Desk_answered (K : PySem.W.Frag) : Sp := fun vs H Q E => ∃ (dk : Addr) (fp : List Addr) (o : Option Pd) (z : Str), vs = [.ref dk, .str z] ∧ z.length ≤ 40000 ∧ DeskAt K H dk fp o ∧ (∀ d, o = some d → d.Ok ∧ d.Sm) ∧ (∀ n, parse z ≠ some (.one "met" n)) ∧
  (parse z = none → RefC K H E) ∧
  (∀ c, parse z = some c → (∀ a o', ans o c = some (a, o') → ∀ fp' H', Ext (dk :: fp) H H' → (∀ b ∈ fp', b ∈ fp ∨ H b = none) → DeskAt K H' dk fp' o' → Q (.str a) H') ∧ (ans o c = none → Ref K H E))
theorem ok_Desk_answered (T : Txt K mg w) (U : TxtX P K mg) (M : TxtM K) {f : Addr} {fd : FuncData} (F : DefAt K "answered" "Desk.answered" s_Desk_answered f fd) : FnOk P w K mg base (L2.CX P w) 11 f fd ["self", "line"] (sp_Desk_answered K) := by
  refine okX F sc_Desk_answered (fun vs H Q E h => ?_) (fun cdv A outer s H vs Q E hr h => ?_)
  · walk_at "len"
  · obtain ⟨dk, fp, o, z, rfl, hz, hD, hO, hmet, k0, k1⟩ := h
    obtain ⟨dx, v, hdk⟩ := hD.ob
    refine ⟨_, (pss_cons (ps_set (i := 2) sc_Desk_answered.nd rfl (Or.inl rfl) (pe_splitX (pv 1) pe_str))
  (pss_cons (ps_if (PW.pt (pw_and (pt_cmpR op_eq (pe_ix ix_list (pv 2) pe_int (fun _ _ => rfl)) pe_str (nomark _)) (pw_and1 (pt_cmpR op_eq (pe_callB cr_len (by rfl) T.b_len PySem.boot_len (pa_cons (pv 2) pa_nil)) pe_int (nomark _))))) (pss_one (ps_ret (pe_met (met_Desk_begun T U) hr (pxE (passes_call (takes_of rfl rfl rfl rfl) fun _ _ _ _ h => h)) (pv 0) (pa_cons (pe_cal (cal_read_by T U M) hr (pxE (passes_call (takes_of rfl rfl rfl rfl) fun _ _ _ _ h => h)) (pa_cons (pe_glob (v := .ref (He.ga K "integer_in")) (by rfl) T.g_integer_in rfl) (pa_cons (pe_ix ix_list (pv 2) pe_int (fun _ _ => rfl)) pa_nil))) (pa_cons (pe_cal (cal_read_by T U M) hr (pxE (passes_call (takes_of rfl rfl rfl rfl) fun _ _ _ _ h => h)) (pa_cons (pe_glob (v := .ref (He.ga K "integer_in")) (by rfl) T.g_integer_in rfl) (pa_cons (pe_ix ix_list (pv 2) pe_int (fun _ _ => rfl)) pa_nil))) pa_nil))))) pss_nil)
  (pss_cons (ps_if (pt_cmpR op_in_seq (pv 1) (pe_glob (v := .ref (He.ga K "ALONE")) (by rfl) T.g_ALONE rfl) (by rfl)) (pss_one (ps_ret (pe_ifExp (pt_cmpR op_isN (pe_fld (pv 0) (by rfl)) pe_non (nomark _)) pe_str (pe_met (met_Desk_answer_alone T U) hr (pxE (passes_call (takes_of rfl rfl rfl rfl) fun _ _ _ _ h => h)) (pv 0) (pa_cons (pv 1) pa_nil))))) pss_nil)
  (pss_cons (ps_if (PW.pt (pw_and (pt_cmpR op_in_seq (pe_ix ix_list (pv 2) pe_int (fun _ _ => rfl)) (pe_glob (v := .ref (He.ga K "WITH_ONE")) (by rfl) T.g_WITH_ONE rfl) (by rfl)) (pw_and1 (pt_cmpR op_eq (pe_callB cr_len (by rfl) T.b_len PySem.boot_len (pa_cons (pv 2) pa_nil)) pe_int (nomark _))))) (pss_cons (ps_set (i := 3) sc_Desk_answered.nd rfl (Or.inl rfl) (pe_cal (cal_read_by T U M) hr (pxE (passes_call (takes_of rfl rfl rfl rfl) fun _ _ _ _ h => h)) (pa_cons (pe_glob (v := .ref (He.ga K "integer_in")) (by rfl) T.g_integer_in rfl) (pa_cons (pe_ix ix_list (pv 2) pe_int (fun _ _ => rfl)) pa_nil))))
  (pss_one (ps_ret (pe_ifExp (pt_cmpR op_isN (pe_fld (pv 0) (by rfl)) pe_non (nomark _)) pe_str (pe_met (met_Desk_answer_one T U) hr (pxE (passes_call (takes_of rfl rfl rfl rfl) fun _ _ _ _ h => h)) (pv 0) (pa_cons (pe_ix ix_list (pv 2) pe_int (fun _ _ => rfl)) (pa_cons (pv 3) pa_nil))))))) pss_nil)
  (pss_cons (ps_set (i := 4) sc_Desk_answered.nd rfl (Or.inl rfl) (pe_cal (cal_read_by T U M) hr (pxE (passes_call (takes_of rfl rfl rfl rfl) fun _ _ _ _ h => h)) (pa_cons (pe_glob (v := .ref (He.ga K "read_call")) (by rfl) T.g_read_call rfl) (pa_cons (pv 1) pa_nil))))
  (pss_cons (ps_if (pt_cmpR op_isN (pe_fld (pv 0) (by rfl)) pe_non (nomark _)) (pss_one (ps_ret pe_str)) pss_nil)
  (pss_cons (ps_expr (pe_met (met_Parade_do T U) hr (pxE (passes_call (takes_of rfl rfl rfl rfl) fun _ _ _ _ h => h)) (pe_fld (pv 0) (by rfl)) (pa_cons (pv 4) pa_nil)))
  (pss_one (ps_ret pe_str))))))))), ?_⟩
    walk_at "go"
    refine i_split (by decide +kernel) (by omega) fun pw H1 hpw e1 g1 => ?_
    unfold parse at hmet k0 k1
    cases hs : Txt.split z " " with
    | nil => exact absurd hs (split_nonempty z)
    | cons w0 ws =>
      have hwl : ∀ w ∈ w0 :: ws, w.length ≤ z.length := fun w hw => split_len (by rw [hs]; exact hw)
      rw [hs] at g1 hmet k0 k1
      iterate 3 (with_reducible refine St.imp ?_)
      refine i_andTT (p := decide (V.str w0 = V.str "line")) (q := decide (V.int (((w0 :: ws).map V.str).length : Nat) = V.int 3)) (fun Q q => ?_) (fun Q q => ?_) ?_
      · walk_at "go"
        exact q
      · walk_at "go"
        exact q
      have hb1 : (decide (V.str w0 = V.str "line") && decide (V.int (((w0 :: ws).map V.str).length : Nat) = V.int 3)) = decide (w0 = "line" ∧ ws.length = 2) := by
        rw [Bool.eq_iff_iff]
        simp
        omega
      rw [hb1]
      refine i_dec (fun h => ?_) (fun h => ?_)
      · obtain ⟨rfl, hl⟩ := h
        match ws, hl with
        | [wa, wb], _ =>
          rw [parseW_line] at k0 k1
          walk_at "go"
          refine u_read_int (by have := hwl wa (by simp); omega) (fun f' hf H2 e2 => ?_) (fun hn => (k0 (by rw [hn]; rfl)).ex e1)
          walk_at "go"
          refine u_read_int (by have := hwl wb (by simp); omega) (fun r hr' H3 e3 => ?_) (fun hn => (k0 (by rw [hf, hn]; rfl)).ex (e1.trans e2))
          obtain ⟨q1, q2⟩ := k1 (.begin f' r) (by rw [hf, hr']; rfl)
          have e4 := (e1.trans e2).trans e3
          walk_at "go"
          refine ⟨dk, fp, o, f', r, rfl, hD.ex e4, fun hok fp' H' x' hn' hD' => q1 "ok" _ (if_pos hok) fp' H' (Ext.xr e4 x') (fun b hb => (hn' b hb).imp_right (fresh_back e4)) hD', fun hn => (q2 (if_neg hn)).ex1 e4⟩
      · walk_at "go"
        have hin : inV (V.str z) [V.str "back", V.str "again", V.str "away", V.str "script", V.str "home"] = decide (z ∈ aloneL) := by
          rw [Bool.eq_iff_iff, decide_eq_true_eq]
          simp only [inV, eqV, aloneL, List.any_cons, List.any_nil, Bool.or_false, Bool.or_eq_true, beq_iff_eq, List.mem_cons, List.not_mem_nil, or_false, V.str.injEq]
          simp only [eq_comm]
        rw [hin]
        refine i_dec (fun h3 => ?_) (fun h3 => ?_)
        · obtain ⟨q1, q2⟩ := k1 _ (parseW_alone h h3)
          cases o with
          | none =>
            have hdk1 := e1 _ _ hD.2.choose_spec
            walk_at "go"
            refine ⟨rfl, i_bl (i_t (by decide) ?_)⟩
            walk_at "go"
            exact q1 "refused" none rfl fp H1 (exExt e1) (fun b hb => .inl hb) (hD.ex e1)
          | some d =>
            obtain ⟨h0, dx1, pP, hdk1, hP⟩ := hD.ex e1
            obtain ⟨o1, o2⟩ := hO d rfl
            walk_at "go"
            refine ⟨rfl, i_bl (i_f (by simp) ?_)⟩
            walk_at "go"
            refine ⟨dk, fp, d, z, rfl, hD.ex e1, o1, o2, h3, fun a d' hA fp' H' x' hn' hD' => q1 a (some d') (by show (aloneA d z).map _ = _; rw [hA]; rfl) fp' H' (Ext.xr e1 x') (fun b hb => (hn' b hb).imp_right (fresh_back e1)) hD', fun hA => (q2 (by show (aloneA d z).map _ = _; rw [hA]; rfl)).ex1 e1⟩
        · iterate 3 (with_reducible refine St.imp ?_)
          refine i_andTT (p := decide (w0 ∈ withL)) (q := decide (ws.length = 1)) (fun Q q => ?_) (fun Q q => ?_) ?_
          · walk_at "go"
            rw [show inV (V.str w0) [V.str "leave", V.str "come", V.str "where", V.str "mates", V.str "met", V.str "row"] = decide (w0 ∈ withL) by
              rw [Bool.eq_iff_iff, decide_eq_true_eq]
              simp only [inV, eqV, withL, List.any_cons, List.any_nil, Bool.or_false, Bool.or_eq_true, beq_iff_eq, List.mem_cons, List.not_mem_nil, or_false, V.str.injEq]
              simp only [eq_comm]]
            exact q
          · walk_at "go"
            rw [show decide (V.int (((w0 :: ws).map V.str).length : Nat) = V.int 2) = decide (ws.length = 1) by
              rw [Bool.eq_iff_iff]
              simp
              omega]
            exact q
          rw [show (decide (w0 ∈ withL) && decide (ws.length = 1)) = decide (w0 ∈ withL ∧ ws.length = 1) by rw [Bool.eq_iff_iff]; simp]
          refine i_dec (fun h4 => ?_) (fun h4 => ?_)
          · obtain ⟨h4, hl⟩ := h4
            match ws, hl with
            | [wa], _ =>
              rw [parseW_one h h3 h4] at k0 k1 hmet
              walk_at "go"
              refine u_read_int (by have := hwl wa (by simp); omega) (fun n hn H2 e2 => ?_) (fun hn => (k0 (by rw [hn]; rfl)).ex e1)
              have e4 := e1.trans e2
              rw [hn] at k1 hmet
              have hm2 : w0 ≠ "met" := fun zz => hmet n (by rw [zz]; rfl)
              obtain ⟨q1, q2⟩ := k1 _ rfl
              cases o with
              | none =>
                have hdk1 := e4 _ _ hD.2.choose_spec
                walk_at "go"
                refine ⟨rfl, i_bl (i_t (by decide) ?_)⟩
                walk_at "go"
                exact q1 "refused" none rfl fp H2 (exExt e4) (fun b hb => .inl hb) (hD.ex e4)
              | some d =>
                obtain ⟨h0, dx1, pP, hdk1, hP⟩ := hD.ex e4
                obtain ⟨o1, o2⟩ := hO d rfl
                have g2 := e2 _ _ g1
                walk_at "go"
                refine ⟨rfl, i_bl (i_f (by simp) ?_)⟩
                walk_at "go"
                refine ⟨dk, fp, d, w0, n, rfl, hD.ex e4, o1, h4, hm2, fun a d' hA fp' H' x' hn' hD' => q1 a (some d') (by show (oneA d w0 n).map _ = _; rw [hA]; rfl) fp' H' (Ext.xr e4 x') (fun b hb => (hn' b hb).imp_right (fresh_back e4)) hD', fun hA => (q2 (by show (oneA d w0 n).map _ = _; rw [hA]; rfl)).ex1 e4⟩
          · rw [parseW_call h h3 h4] at k0 k1
            walk_at "go"
            refine u_read_call hz (fun wd ns hc p H2 e2 hp => ?_) (fun hn => (k0 (by unfold parseC; rw [hn]; rfl)).ex e1)
            obtain ⟨c, c1, c2, c3⟩ := readC_cl hc
            obtain ⟨q1, q2⟩ := k1 (.call c) (by unfold parseC; rw [hc]; show (clOf wd ns).map Cmd.call = _; rw [c1]; rfl)
            have e4 := e1.trans e2
            rw [← c2] at hp
            cases o with
            | none =>
              have hdk1 := e4 _ _ hD.2.choose_spec
              walk_at "go"
              refine ⟨rfl, i_bl (i_t (by decide) ?_)⟩
              walk_at "go"
              exact q1 "refused" none rfl fp H2 (exExt e4) (fun b hb => .inl hb) (hD.ex e4)
            | some d =>
              obtain ⟨h0, dx1, pP, hdk1, hP⟩ := hD.ex e4
              obtain ⟨o1, o2⟩ := hO d rfl
              walk_at "go"
              refine ⟨rfl, i_bl (i_f (by simp) ?_)⟩
              obtain ⟨t, ls, l1, l2, l3, m, as1, as2, xs3, rfl, hL⟩ := id hP
              obtain ⟨dp, hob⟩ := hL.ob
              walk_at "go"
              refine u_Parade_do hP o1 hp (fun hok fp' H' x' hn' hP' => ?_) (fun hno => (q2 (by show (if _ then _ else _) = _; rw [if_neg hno])).ex1 e4)
              walk_at "go"
              refine q1 "ok" (some { d with done := d.done ++ [c], undone := [] }) (if_pos hok) fp' H' (Ext.xr e4 (x'.mono fun b hb => List.mem_cons_of_mem _ hb)) (fun b hb => (hn' b hb).imp_right (fresh_back e4)) ⟨fun zz => (hn' dk zz).elim h0 (fun qq => by rw [hdk1] at qq; cases qq), dx1, pP, x'.keep _ _ hdk1 h0, hP'⟩
theorem met_Desk_answered (T : Txt K mg w) (U : TxtX P K mg) (M : TxtM K) : Met P w K mg base (L2.CX P w) 11 (He.ga K "Desk") "answered" (sp_Desk_answered K) := metOf T.c_Desk T.a_Desk_answered T.d_Desk_answered (fun _ F => ok_Desk_answered T U M F) (fun _ _ _ _ _ _ us hl => match us, hl with | [_, _], _ => rfl)
end
end Pp
-- PpTt
set_option maxRecDepth 100000
set_option maxHeartbeats 4000000
/-! except (A, B, ..): a clause that names seven classes. -/
namespace Pp
open PySem PySem.Spec PyProof.Rows L2
section
variable {M : Model} {K : PySem.W.Frag}
open PySem.W in
theorem exm_tup7 {c1 c2 c3 c4 c5 c6 c7 cls : Value} {tp e : Addr} {b : Bool} {h : Heap} (X : K.In h) (LT : PySem.W.Looks M h (typeOf (.ref e)) cls) (hp : h.get? tp = some { cls := .type "tuple", data := .seq [c1, c2, c3, c4, c5, c6, c7].toArray }) (hx : PySem.W.exmAny K cls [c1, c2, c3, c4, c5, c6, c7] = some b) :
    PySem.W.Looks M h (excMatches (.ref e) (.ref tp)) b := by
  intro A Q E s k₀ q
  obtain ⟨hh, g, d, tk, os⟩ := s
  have k : ∀ b o, h.get? b = some o → hh.get? b = some o := k₀
  have LT0 : PySem.W.Looks M h (isInstance (.ref tp) (.type "tuple")) true := ((PySem.W.Looks.ld hp).andThen .now).andThen (PySem.W.Looks.of_pure isSubtype_tuple_tuple)
  obtain ⟨b1, d1, x1, y1, z1⟩ := PySem.W.exmAny_cons hx
  obtain ⟨b2, d2, x2, y2, z2⟩ := PySem.W.exmAny_cons y1
  obtain ⟨b3, d3, x3, y3, z3⟩ := PySem.W.exmAny_cons y2
  obtain ⟨b4, d4, x4, y4, z4⟩ := PySem.W.exmAny_cons y3
  obtain ⟨b5, d5, x5, y5, z5⟩ := PySem.W.exmAny_cons y4
  obtain ⟨b6, d6, x6, y6, z6⟩ := PySem.W.exmAny_cons y5
  obtain ⟨b7, d7, x7, y7, z7⟩ := PySem.W.exmAny_cons y6
  have w7 : some false = some d7 := y7
  cases w7
  have LT := LT.keeps k
  have LT0 := LT0.keeps k
  have e1 := (PySem.W.exm_cls (M := M) X x1).1.keeps k
  have S1 := (PySem.W.exm_cls (M := M) X x1).2.keeps k
  have e2 := (PySem.W.exm_cls (M := M) X x2).1.keeps k
  have S2 := (PySem.W.exm_cls (M := M) X x2).2.keeps k
  have e3 := (PySem.W.exm_cls (M := M) X x3).1.keeps k
  have S3 := (PySem.W.exm_cls (M := M) X x3).2.keeps k
  have e4 := (PySem.W.exm_cls (M := M) X x4).1.keeps k
  have S4 := (PySem.W.exm_cls (M := M) X x4).2.keeps k
  have e5 := (PySem.W.exm_cls (M := M) X x5).1.keeps k
  have S5 := (PySem.W.exm_cls (M := M) X x5).2.keeps k
  have e6 := (PySem.W.exm_cls (M := M) X x6).1.keeps k
  have S6 := (PySem.W.exm_cls (M := M) X x6).2.keeps k
  have e7 := (PySem.W.exm_cls (M := M) X x7).1.keeps k
  have S7 := (PySem.W.exm_cls (M := M) X x7).2.keeps k
  have hp' := k _ _ hp
  subst z1 z2 z3 z4 z5 z6 z7
  unfold excMatches
  refine wpAny_bind (LT0.at ?_)
  dsimp only
  rw [if_pos rfl]
  first
    | refine wpAny_bind (wpAny_seqItems hp' rfl ?_)
    | refine wpAny_bind (wpAny_bind (wpAny_seqItems hp' rfl (wpAny_pure ?_)))
  dsimp only [Option.getD_some, Option.getD]
  cases b1 with
  | true => (repeat (first | simp only [List.forIn_cons, List.forIn_nil, Bool.not_true, Bool.false_eq_true, if_false, if_true] | lk)); exact q
  | false =>
    cases b2 with
    | true => (repeat (first | simp only [List.forIn_cons, List.forIn_nil, Bool.not_true, Bool.false_eq_true, if_false, if_true] | lk)); exact q
    | false =>
      cases b3 with
      | true => (repeat (first | simp only [List.forIn_cons, List.forIn_nil, Bool.not_true, Bool.false_eq_true, if_false, if_true] | lk)); exact q
      | false =>
        cases b4 with
        | true => (repeat (first | simp only [List.forIn_cons, List.forIn_nil, Bool.not_true, Bool.false_eq_true, if_false, if_true] | lk)); exact q
        | false =>
          cases b5 with
          | true => (repeat (first | simp only [List.forIn_cons, List.forIn_nil, Bool.not_true, Bool.false_eq_true, if_false, if_true] | lk)); exact q
          | false =>
            cases b6 with
            | true => (repeat (first | simp only [List.forIn_cons, List.forIn_nil, Bool.not_true, Bool.false_eq_true, if_false, if_true] | lk)); exact q
            | false =>
              cases b7 <;> ((repeat (first | simp only [List.forIn_cons, List.forIn_nil, Bool.not_true, Bool.false_eq_true, if_false, if_true] | lk)); exact q)
end
/-- what the clause wishes of an exception of the body -/
def wTup (K : PySem.W.Frag) (cs : List Value) (ts : Addr → Value → Option Addr → TS) (Wout : WX) (D : Ends) : WX := fun cls d σ H =>
  ∃ b, PySem.W.exmAny K cls cs = some b ∧ (b = true → ∀ a, H a = none → ts a cls d D σ H) ∧ (b = false → Wout cls d σ H)
theorem flying_grow {B h h' : Heap} {l : List Env} {a : Addr} {Z : Obj → Prop} (k : ∀ b o, h.get? b = some o → h'.get? b = some o) (x : HandSPX.FlyingZ B l a Z h) : HandSPX.FlyingZ B l a Z h' := by
  obtain ⟨f1, f2, f3, oe, vs, T, oT, ts, he, hz, hd, h1, hnT, hTe, hT, hdT, h3⟩ := x
  exact ⟨fun b o e => k b o (f1 b o e), f2, f3.of_keeps fun b o e _ => ⟨o, k b o e, rfl⟩, oe, vs, T, oT, ts, k _ _ he, hz, hd, h1, hnT, hTe, k _ _ hT, hdT, h3⟩
section
variable {X : Cx}
/-- a test of seven names -/
theorem test_tup7 {a : Addr} {oe : Obj} {pn pins : List (Addr × Obj)} {s : Shared} {σ : L2.St} {H : Hp} {cls : Value} {b : Bool} {x1 x2 x3 x4 x5 x6 x7 : Str} {c1 c2 c3 c4 c5 c6 c7 : Value} {p1 p2 p3 p4 p5 p6 p7 tpos : Pos} {kk : Nat} {Q : Bool → Shared → Prop} {E : Value → Shared → Prop} (I : Inv (X.suite a ((a, oe) :: pn)) pins σ H s)
    (n1 : Names X x1 c1) (n2 : Names X x2 c2) (n3 : Names X x3 c3) (n4 : Names X x4 c4) (n5 : Names X x5 c5) (n6 : Names X x6 c6) (n7 : Names X x7 c7) (LT : PySem.W.Looks (model X.prog X.w) s.heap (typeOf (.ref a)) cls) (hx : PySem.W.exmAny X.K cls [c1, c2, c3, c4, c5, c6, c7] = some b)
    (q : ∀ h', (∀ b o, s.heap.get? b = some o → h'.get? b = some o) → Q b { s with heap := h' }) (A2 : Around) :
    wpAny (model X.prog X.w) (X.A.mark (some (.ref a))) (eval (.Tuple [.Name x1 p1, .Name x2 p2, .Name x3 p3, .Name x4 p4, .Name x5 p5, .Name x6 p6, .Name x7 p7] kk tpos) X.env) (fun c s1 => wpAny (model X.prog X.w) A2 (excMatches (.ref a) c) Q E s1) E s := by
  have nm : ∀ {x : Str} {c : Value} {p : Pos}, Names X x c → ∀ {Q : Value → Shared → Prop} {E : Value → Shared → Prop}, Q c s → wpAny (model X.prog X.w) (X.A.mark (some (.ref a))) (eval (.Name x p) X.env) Q E s := fun {x c p} n {Q E} q => by
    obtain ⟨hg, hdbg, hm | ⟨hm, hv, hnn⟩⟩ := n
    · exact ld_glob (X := X.suite a ((a, oe) :: pn)) I hg hm q hdbg
    · exact ld_blt (X := X.suite a ((a, oe) :: pn)) I hg hm hv q hnn hdbg
  refine wpAny_Tuple ?_
  refine wpAny_items_cons (nm n1 ?_)
  refine wpAny_items_cons (nm n2 ?_)
  refine wpAny_items_cons (nm n3 ?_)
  refine wpAny_items_cons (nm n4 ?_)
  refine wpAny_items_cons (nm n5 ?_)
  refine wpAny_items_cons (nm n6 ?_)
  refine wpAny_items_cons (nm n7 ?_)
  refine wpAny_items_nil ⟨by size_fits, ?_⟩
  have kp : ∀ q o, s.heap.get? q = some o → (s.heap.push { cls := .type "tuple", data := .seq [c1, c2, c3, c4, c5, c6, c7].toArray }).get? q = some o := fun _ _ z => Heap.get?_push_of_some _ z
  have kI : X.K.In s.heap := I.kIn
  exact (exm_tup7 (kI.keeps kp) (LT.keeps kp) (Heap.get?_push_size s.heap rfl) hx).here (q _ kp)
end
section
variable {X : Cx} {body suite : List Stmt} {b₀ : Stmt} {pos pos' : Pos} {tb : WX → TS} {ts : Addr → Value → Option Addr → TS} {Wout : WX} {x1 x2 x3 x4 x5 x6 x7 : Str} {c1 c2 c3 c4 c5 c6 c7 : Value} {p1 p2 p3 p4 p5 p6 p7 tpos : Pos} {kk : Nat}
theorem ps_try_tup7 (hs : X.stack = X.env :: X.outer) (hf : X.env.frame = some X.env.locals) (n1 : Names X x1 c1) (n2 : Names X x2 c2) (n3 : Names X x3 c3) (n4 : Names X x4 c4) (n5 : Names X x5 c5) (n6 : Names X x6 c6) (n7 : Names X x7 c7) (tk : Takes X Wout)
    (hb : ∀ (W : WX) (pn : List (Addr × Obj)) (xe : Value → Shared → Prop), Takes (X.tr pn xe) W → PassesOwn (model X.prog X.w) X.A X.env xe → PSs (X.tr pn xe) body (tb W))
    (hsu : ∀ (a : Addr) (oe : Obj) (cls : Value) (d : Option Addr) (pn : List (Addr × Obj)), Zc cls d oe → (∃ vs, oe.data = .fields vs) → PSs (X.suite a ((a, oe) :: pn)) (b₀ :: suite) (ts a cls d)) :
    PS X (.Try body [.ExceptHandler (some (.Tuple [.Name x1 p1, .Name x2 p2, .Name x3 p3, .Name x4 p4, .Name x5 p5, .Name x6 p6, .Name x7 p7] kk tpos)) none (b₀ :: suite) pos'] [] [] pos) (fun D σ H => tb (wTup X.K [c1, c2, c3, c4, c5, c6, c7] ts Wout D) D σ H) := by
  refine ⟨fun pins s σ H D I h => ?_⟩
  have ok := I.ok
  have hfr : X.A.frames = some (X.env :: X.outer) := by rw [ok.frames, hs]
  refine wpAny_Try_except ?_
  refine wpAny_mono ((hb (wTup X.K [c1, c2, c3, c4, c5, c6, c7] ts Wout D) (X.pn ++ pins) (fun e s₁ => wpAny (model X.prog X.w) X.A (noteFrame e X.env) (fun _ s₂ => wpAny (model X.prog X.w) X.A (setFlight e none) (fun _ s₃ =>
    wpAny (model X.prog X.w) X.A (handleBy e X.env [.ExceptHandler (some (.Tuple [.Name x1 p1, .Name x2 p2, .Name x3 p3, .Name x4 p4, .Name x5 p5, .Name x6 p6, .Name x7 p7] kk tpos)) none (b₀ :: suite) pos']) (SP X pins D) X.xe s₃) X.xe s₂) X.xe s₁) (fun u s' xx => ?_) PassesOwn.looking).run [] s σ H D (I.toTry _) h) (fun f s1 hsp => ?_) (fun e s1 he => he)
  · obtain ⟨a, B, sI, pins', σ', H', cls, d, rfl, J', nb, up, sky, na, os, ag, b, hb1, hyes, hno⟩ := xx
    have J : Inv X pins σ' H' sI := J'.ofTry ok
    have sky' : Sky B (X.env :: X.outer) a (Zc cls d) X.env.locals s'.heap := by rw [← hs]; exact sky
    show wpAny (model X.prog X.w) X.A (noteFrame (.ref a) X.env) _ _ _
    refine Sky.land Zc.steady hfr hf sky' fun h3 fl3 up3 => ?_
    have J3 : Inv X pins σ' H' { s' with heap := h3 } := J.landed nb fl3.1 (up.trans up3) os ag
    obtain ⟨oe3, vs3, he3, hz3, hd3⟩ := fl3.there
    have nfr : a ∉ frs (X.env :: X.outer) := fun hm => by
      obtain ⟨_, o', e', hnf⟩ := fl3.2.2.1.mem hm
      rw [he3] at e'; cases e'
      exact hnf _ hd3
    have nL : a ≠ X.env.locals := fun z => nfr (List.mem_filterMap.mpr ⟨X.env, List.mem_cons_self, by rw [hf, z]⟩)
    have nF : a ∉ X.fs := fun hm => by
      obtain ⟨e, he, q⟩ := List.mem_filterMap.mp hm
      exact nfr (List.mem_filterMap.mpr ⟨e, List.mem_cons_of_mem _ he, q⟩)
    have S3 := J3.suite he3 hd3 na nL nF
    refine wpAny_handleBy_cons (codeAny_handlers_test ?_) (by intro q; cases q)
    have LT : PySem.W.Looks (model X.prog X.w) h3 (typeOf (.ref a)) cls := fun A Q E s k q => wpAny_typeOf_ref (k _ _ he3) (by rw [hz3.1]; exact q)
    refine test_tup7 S3 n1 n2 n3 n4 n5 n6 n7 LT hb1 (fun hq kq => ?_) _
    have fl3 := flying_grow kq fl3
    have up3 : s'.heap.UpToSlots hq := up3.trans (Heap.UpToSlots.of_keeps kq)
    cases b with
    | true =>
      refine codeAny_handlers_suite ?_
      refine HandSPX.lands_againZ fl3 fun h4 fl4 up4 => ?_
      have J4 : Inv X pins σ' H' { s' with heap := h4 } := J.landed nb fl4.1 ((up.trans up3).trans up4) os ag
      obtain ⟨oe4, vs4, he4, hz4, hd4⟩ := fl4.there
      have S4 := J4.suite he4 hd4 na nL nF
      refine wpAny_mono ((hsu a oe4 cls d (X.pn ++ pins) hz4 ⟨_, hd4⟩).run [] _ _ H' _ S4 (hyes rfl a na)) (fun f s6 hsp => ?_) (fun _ _ z => False.elim z)
      cases f with
      | ret u =>
        obtain ⟨v6, σ6, H6, S6, r6, q6⟩ := hsp
        exact ⟨_, _, _, S6.unsuite ok, r6, q6⟩
      | _ =>
        obtain ⟨σ6, H6, S6, q6⟩ := hsp
        exact ⟨_, _, S6.unsuite ok, q6⟩
    | false =>
      show wpAny _ X.A (handleBy (.ref a) X.env []) _ _ _
      refine wpAny_handleBy_nil ?_
      obtain ⟨k1, k2, k3, oe, vs, T, oT, ts', he, hz, hd, h1, hr⟩ := id fl3
      unfold PySem.passOn
      refine wpAny_bind (wpAny_field he hd h1 ?_)
      rw [if_neg (show ¬ ((Value.ref T == Value.none) = true) from by simp)]
      have fin : wpAny (model X.prog X.w) X.A (setFlight (.ref a) X.env.frame) (fun _ s4 => wpAny (model X.prog X.w) X.A (throw (.ref a) : Sem Flow) (SP X pins D) X.xe s4) X.xe { s' with heap := hq } := by
        rw [hf]
        refine HandSPX.setFlight_upZ fl3 fun h4 hh4 up4 => wpAny_throw (tk _ _ ?_)
        exact ⟨a, B, sI, pins, σ', H', cls, d, rfl, J, nb, (up.trans up3).trans up4, .inr (.inr (by rw [hs]; exact hh4)), na, os, ag, hno rfl⟩
      first
        | exact wpAny_bind (wpAny_pure (wpAny_bind fin))
        | exact wpAny_bind fin
  · cases f with
    | next =>
      obtain ⟨σ', H', J', q⟩ := hsp
      exact wpAny_execs_nil ⟨σ', H', J'.ofTry ok, q⟩
    | ret u =>
      obtain ⟨v, σ', H', J', r, q⟩ := hsp
      exact ⟨v, σ', H', J'.ofTry ok, r, q⟩
    | _ =>
      obtain ⟨σ', H', J', q⟩ := hsp
      exact ⟨σ', H', J'.ofTry ok, q⟩
end
end Pp
-- PpZ5
set_option maxRecDepth 100000
set_option maxHeartbeats 4000000
namespace Pp
open PySem PySem.Spec PyProof.Rows L2 Evl
/-- the answer that execute gives -/
def exec (o : Option Pd) (c : Cmd) : Str × Option Pd := (ans o c).getD ("refused", o)
theorem exec_some {o : Option Pd} {c : Cmd} {p : Str × Option Pd} (h : ans o c = some p) : exec o c = p := by unfold exec; rw [h]; rfl
theorem exec_none {o : Option Pd} {c : Cmd} (h : ans o c = none) : exec o c = (("refused" : Str), o) := by unfold exec; rw [h]; rfl
section
variable {P : Program} {w : World} {K : PySem.W.Frag} {mg : Str → Option Value} {base : Heap} {H : Hp} {Q : VK} {E : XK}
def sevenC (K : PySem.W.Frag) : List Value := [.ref (He.ga K "Wrong"), .ref (He.ga K "NoCall"), .ref (He.ga K "NoPupil"), .ref (He.ga K "Away"), .ref (He.ga K "There"), .ref (He.ga K "Full"), .ref (He.ga K "Nothing")]
theorem seven {K : PySem.W.Frag} (M : TxtM K) {x : Str} (hx : x ∈ errNames) : PySem.W.exmAny K (.ref (He.ga K x)) (sevenC K) = some (decide (x = "Wrong") || (decide (x = "NoCall") || (decide (x = "NoPupil") || (decide (x = "Away") || (decide (x = "There") || (decide (x = "Full") || decide (x = "Nothing"))))))) := by
  unfold sevenC
  simp only [PySem.W.exmAny]
  rw [M.m x hx "Wrong" (by decide +kernel), M.m x hx "NoCall" (by decide +kernel), M.m x hx "NoPupil" (by decide +kernel), M.m x hx "Away" (by decide +kernel), M.m x hx "There" (by decide +kernel), M.m x hx "Full" (by decide +kernel), M.m x hx "Nothing" (by decide +kernel)]
  simp only [show decide (("Wrong" : Str) = "PupilError") = false by decide, show decide (("NoCall" : Str) = "PupilError") = false by decide, show decide (("NoPupil" : Str) = "PupilError") = false by decide, show decide (("Away" : Str) = "PupilError") = false by decide, show decide (("There" : Str) = "PupilError") = false by decide, show decide (("Full" : Str) = "PupilError") = false by decide, show decide (("Nothing" : Str) = "PupilError") = false by decide, Bool.or_false]
theorem seven_rf {K : PySem.W.Frag} (M : TxtM K) {cls : Value} (h : Rf K cls) : PySem.W.exmAny K cls (sevenC K) = some true := by
  rcases h with rfl | rfl | rfl | rfl | rfl | rfl | rfl
  · exact (seven M (by decide +kernel)).trans (congrArg some (by decide +kernel))
  · exact (seven M (by decide +kernel)).trans (congrArg some (by decide +kernel))
  · exact (seven M (by decide +kernel)).trans (congrArg some (by decide +kernel))
  · exact (seven M (by decide +kernel)).trans (congrArg some (by decide +kernel))
  · exact (seven M (by decide +kernel)).trans (congrArg some (by decide +kernel))
  · exact (seven M (by decide +kernel)).trans (congrArg some (by decide +kernel))
  · exact (seven M (by decide +kernel)).trans (congrArg some (by decide +kernel))
theorem seven_nc {K : PySem.W.Frag} (M : TxtM K) : PySem.W.exmAny K (.ref (He.ga K "NoCommand")) (sevenC K) = some false := (seven M (by decide +kernel)).trans (congrArg some (by decide +kernel))
/-- no text -/
def NotStr (K : PySem.W.Frag) (H : Hp) (v : V) : Prop := ∃ t, TyX K H v t ∧ PySem.W.kitOne K t (.type "str") = some false
theorem ns_int {i : Int} : NotStr K H (.int i) := ⟨_, .base (.int i), kit_ty (by decide +kernel)⟩
theorem ns_lst {a : Addr} {xs : List V} (h : H a = some (.lst xs)) : NotStr K H (.ref a) := ⟨_, .base (.lst h), kit_ty (by decide +kernel)⟩
theorem ns_tup {a : Addr} {xs : List V} (h : H a = some (.tup xs)) : NotStr K H (.ref a) := ⟨_, .base (.tup h), kit_ty (by decide +kernel)⟩
theorem ns_bl {b : Bool} : NotStr K H (.bl b) := ⟨_, .base (.bl b), kit_ty (by decide +kernel)⟩
theorem ns_non : NotStr K H .non := ⟨_, .base .non, kit_ty (by decide +kernel)⟩
abbrev s_Desk_execute : Stmt := inClass (top 66) 5
abbrev N_Desk_execute : List Str := ["self", "line"]
theorem sc_Desk_execute : FnScope N_Desk_execute ["self", "line"] (defScope s_Desk_execute) := ⟨rfl, rfl, rfl, by decide +kernel, rfl, by decide +kernel, by decide +kernel⟩
def sp_Desk_execute (K : PySem.W.Frag) : Sp := fun vs H Q E => ∃ (dk : Addr) (fp : List Addr) (o : Option Pd) (v : V), vs = [.ref dk, v] ∧ DeskAt K H dk fp o ∧ (∀ d, o = some d → d.Ok ∧ d.Sm) ∧
  ((NotStr K H v ∧ RefC K H E) ∨ ∃ z : Str, v = .str z ∧ z.length ≤ 40000 ∧ (∀ n, parse z ≠ some (.one "met" n)) ∧ (parse z = none → RefC K H E) ∧
    (∀ c, parse z = some c → ∀ fp' H', Ext (dk :: fp) H H' → (∀ b ∈ fp', b ∈ fp ∨ H b = none) → DeskAt K H' dk fp' (exec o c).2 → Q (.str (exec o c).1) H'))
theorem ok_Desk_execute (T : Txt K mg w) (U : TxtX P K mg) (M : TxtM K) {f : Addr} {fd : FuncData} (F : DefAt K "execute" "Desk.execute" s_Desk_execute f fd) : FnOk P w K mg base (L2.CX P w) 13 f fd ["self", "line"] (sp_Desk_execute K) := by
  refine okX F sc_Desk_execute (fun vs H Q E h => ?_) (fun cdv A outer s H vs Q E hr h => ?_)
  · obtain ⟨dk, fp, o, v, rfl, _⟩ := h
    rfl
  · obtain ⟨dk, fp, o, v, rfl, hD, hO, h⟩ := h
    obtain ⟨dx, dv, hdk⟩ := hD.ob
    refine ⟨_, pss_cons (ps_if (pt_not (pt_val (pe_callB call_isi (by rfl) T.b_isinstance (by decide +kernel) (pa_cons (pv 1) (pa_cons (pe_bltn (v := .ty "str") (by rfl) T.b_str (by decide +kernel) rfl) pa_nil))))) (pss_one (ps_raise rfl (takes_of rfl rfl rfl rfl) (pmk_own0 PySem.F.excBase_ValueError U.x_NoCommand.q U.x_NoCommand.g U.x_NoCommand.k (raises_own U.x_NoCommand.ex U.x_NoCommand.ty) (by rfl)))) pss_nil) (pss_one (ps_try_tup7 (ts := fun _ _ _ => tRet (tC (.str "refused"))) rfl rfl ⟨rfl, by decide, .inl U.x_Wrong.g⟩ ⟨rfl, by decide, .inl U.x_NoCall.g⟩ ⟨rfl, by decide, .inl U.x_NoPupil.g⟩ ⟨rfl, by decide, .inl U.x_Away.g⟩ ⟨rfl, by decide, .inl U.x_There.g⟩ ⟨rfl, by decide, .inl U.x_Full.g⟩ ⟨rfl, by decide, .inl U.x_Nothing.g⟩ (takes_of rfl rfl rfl rfl)
      (fun W pn xe tkW ps => pss_one (ps_ret (pe_met (met_Desk_answered T U M) hr (E := fun _ cls d H => ∀ σ, W cls d σ H) (pxE (passes_call tkW fun cls d σ H h => h σ)) (pv 0) (pa_cons (pv 1) pa_nil))))
      (fun a oe cls d pn hz hd => pss_one (ps_ret pe_str)))), ?_⟩
    rcases h with ⟨⟨t, ht, hk⟩, ke⟩ | ⟨z, rfl, hz, hmet, ke, kq⟩
    · iterate 6 (with_reducible refine St.imp ?_)
      walk_at "go"
      refine ⟨v, .ty "str", t, .type "str", false, rfl, .ty _, ht, hk, ?_⟩
      walk_at "go"
      exact ke _ (by walk_at "ex")
    · walk_at "go"
      refine ⟨dk, fp, o, z, rfl, hz, hD, hO, hmet, fun hn H' e' σ' => ⟨false, seven_nc M, (fun zz => nomatch zz), fun _ => ke hn H' e'⟩, fun c hc => ⟨fun a o' ha fp' H' x' hn' hD' => ?_, fun hn cls d' H' hr' e' σ' => ⟨true, seven_rf M hr', fun _ a _ => ?_, fun zz => nomatch zz⟩⟩⟩
      · have := kq c hc fp' H' x' hn'
        rw [exec_some ha] at this
        exact this hD'
      · have := kq c hc fp H' (exExt e') (fun b hb => .inl hb)
        rw [exec_none hn] at this
        exact i_ret (i_c (this (hD.ex e')))
theorem met_Desk_execute (T : Txt K mg w) (U : TxtX P K mg) (M : TxtM K) : Met P w K mg base (L2.CX P w) 13 (He.ga K "Desk") "execute" (sp_Desk_execute K) := metOf T.c_Desk T.a_Desk_execute T.d_Desk_execute (fun _ F => ok_Desk_execute T U M F) (fun _ _ _ _ _ _ us hl => match us, hl with | [_, _], _ => rfl)
end
end Pp
-- PpNa
set_option maxRecDepth 100000
set_option maxHeartbeats 4000000
/-! Own rules: str * int, repr of a text or None, xs[:] = ys, int // int of more than thirty bits. -/
namespace Pp
open PySem PySem.Spec PyProof.Rows L2 Evl
def rMulS : R2 := fun x y H Q => ∃ (z : Str) (n : Int), x = .str z ∧ y = .int n ∧ MulOk z n ∧ Q (.str (Txt.mul z n)) H
def rReprTN : List V → Hp → VK → Prop := fun xs H Q => (∃ z : Str, xs = [.str z] ∧ (reprText z).length ≤ sizeLine ∧ Q (.str (reprText z)) H) ∨ (xs = [.non] ∧ Q (.str "None") H)
section
variable {X : Cx}
theorem op_mulS : OpR X (binaryOp .Mult) rMulS := by
  intro pins s σ H x y v u Q I rx ry h
  obtain ⟨z, n, rfl, rfl, hm, q⟩ := h
  obtain ⟨t, rfl⟩ := rx
  obtain ⟨t', rfl⟩ := ry
  exact SB.mul hm fun t2 k => ⟨.str (Txt.mul z n), H, I.tok _, ⟨_, rfl⟩, q⟩
theorem call_reprTN : CallR X (.builtin "repr") rReprTN := by
  intro pins s σ H xs us Q I r h
  rcases h with ⟨z, rfl, hz, q⟩ | ⟨rfl, q⟩
  · obtain ⟨u, rfl, t, rfl⟩ := vals1 r
    exact PySem.P.repr_of_str ⟨.str _, H, I.tok _, ⟨_, rfl⟩, q⟩ hz
  · obtain ⟨u, rfl, ru⟩ := vals1 r
    have hu : u = .none := ru
    subst hu
    exact PySem.P.repr_of_none ⟨.str _, H, I.tok _, ⟨_, rfl⟩, q⟩
end
/-! ### xs[:] = ys -/
theorem bounds_all (n : Nat) : sliceBounds none none none n = ((0 : Int), (n : Int), 1) := by
  simp [sliceBounds]
section
variable {prog : Program} {w : World} {A : Around} {E : Value → Shared → Prop} {s : Shared}
theorem setItem_all {l b sl : Addr} {items new : Array Value} {n n2 : Nat} {Q : Unit → Shared → Prop}
    (e : s.heap.get? l = some { cls := .type "list", data := .seq items n }) (e2 : s.heap.get? b = some { cls := .type "list", data := .seq new n2 }) (hne : l ≠ b)
    (hs : s.heap.IsSliceOf sl .none .none .none)
    (hsz : items.size + new.size ≤ sizeLine) (h : Q () { s with heap := s.heap.update l (Obj.mapSeq fun xs => xs.extract 0 0 ++ new ++ xs.extract items.size xs.size) }) :
    wpAny (model prog w) A (setItem (.ref l) (.ref sl) (.ref b)) Q E s := by
  have listL : s.heap.IsList l items := PySem.IsL.isList e
  have listB : s.heap.IsList b new := PySem.IsL.isList e2
  obtain ⟨os, hos, hcs, hds⟩ := id hs
  have slT : s.TypeIs (.ref sl) "slice" := ⟨os, hos, hcs⟩
  have st0 : ¬ ((rawPart none == rawInt 0) = true) := Bool.false_ne_true
  have other : Builtin.List.listSameRef (.ref l) (.ref b) = false := by
    unfold Builtin.List.listSameRef
    exact beq_eq_false_iff_ne.mpr hne
  have mx : (max (0 : Int) (items.size : Int)).toNat = items.size := by omega
  have zz : ((fun xs : Array Value => xs.extract 0 0 ++ new ++ xs.extract items.size xs.size) items).size ≤ sizeLine + 1 := by
    simp only [Array.size_append, Array.size_extract]
    omega
  unfold setItem
  try with_reducible refine wpAny_holding ?_
  first | refine wpAny_bind (wpAny_pure ?_) | skip
  refine wpAny_bind (wpAny_sequenceKey listL.typeIs (by decide) ?_)
  refine wpAny_bind (wpAny_callSpecial?_slot (name := Str.ofString "__setitem__") listL.typeIs slot_list_setitem
    (wpAny_call_entry slot_list_setitem listL.typeIs entry_list_setitem ?_ (args_list_setitem _ _ _)))
  show wpAny _ _ (Builtin.List.listSubscript? (.ref sl) >>= _) _ _ s
  refine wpAny_bind ?_
  unfold Builtin.List.listSubscript?
  refine wpAny_bind (wpAny_specialOf slT slice_no_index ?_)
  simp only [Option.isNone_none, if_true]
  refine wpAny_pure ?_
  show wpAny _ _ (typeOf (.ref sl) >>= _) _ _ s
  refine wpAny_bind (wpAny_typeOf slT ?_)
  first
    | rw [if_neg (by decide)]
    | refine PySem.W.KFB.if_not (by decide) ?_
  rw [listSliceParts_eq]
  refine wpAny_bind (wpAny_bind (wpAny_field hos hds (x := .none) rfl (wpAny_bind (wpAny_listPart .none ?_))))
  rw [if_neg st0]
  refine wpAny_bind (wpAny_field hos hds (x := .none) rfl (wpAny_bind (wpAny_listPart .none ?_)))
  refine wpAny_bind (wpAny_field hos hds (x := .none) rfl (wpAny_bind (wpAny_listPart .none (wpAny_pure ?_))))
  first
    | simp only [other, Bool.false_eq_true, if_false]
    | refine PySem.W.KFB.if_not other ?_
    | (dsimp only
       rw [if_neg (by rw [other]; exact Bool.false_ne_true)])
  refine wpAny_bind (m := Builtin.List.listAllItems (.ref b) "must assign iterable to extended slice") ?_
  unfold Builtin.List.listAllItems
  refine wpAny_bind (wpAny_typeOf listB.typeIs ?_)
  first
    | refine PySem.W.KFB.if_so (by decide) ?_
    | rw [if_pos (by decide)]
    | simp only [beq_self_eq_true, Bool.true_or, if_true]
  unfold Builtin.List.listItems
  refine wpAny_bind (wpAny_seqItems e2 rfl (wpAny_pure ?_))
  refine wpAny_bind (wpAny_bind (wpAny_seqItems e rfl (wpAny_pure ?_)))
  refine wpAny_bind (wpAny_of_eq ((sliceIndices_raw none none none items.size (by simp)).trans (congrArg (pure : Int × Int × Int → Sem (Int × Int × Int)) (bounds_all items.size))) ?_)
  show wpAny _ _ (if ((1 : Int) == 1) = true then _ else _) _ _ s
  rw [if_pos (by decide)]
  refine wpAny_bind (wpAny_rule ?_)
  first
    | simp only [notLongL hsz, Bool.false_eq_true, if_false]
    | refine PySem.W.KFB.if_not (notLongL hsz) ?_
  first | refine wpAny_bind (wpAny_pure ?_) | skip
  show wpAny _ _ (updateSeq l (fun xs => xs.extract 0 ((0 : Int)).toNat ++ new ++ xs.extract (max (0 : Int) (items.size : Int)).toNat xs.size) >>= _) _ _ s
  rw [mx, show ((0 : Int)).toNat = 0 from rfl]
  refine wpAny_bind (wpAny_updateSeq (hz := Nat.le_trans (Nat.le_add_right _ _) hsz) (_hz' := zz) e rfl ?_)
  first
    | exact wpAny_bind (wpAny_pure (wpAny_pure ⟨.none, rfl, wpAny_pure h⟩))
    | exact wpAny_pure ⟨.none, rfl, wpAny_pure h⟩
    | exact wpAny_bind (wpAny_letGo (wpAny_bind (wpAny_pure (wpAny_pure ⟨.none, rfl, wpAny_pure h⟩))))
    | exact wpAny_bind (wpAny_letGo (wpAny_pure ⟨.none, rfl, wpAny_pure h⟩))
end
section
variable {X : Cx}
def gSetAll (to : TE) : TG := fun v σ H Q => to σ H fun o H1 => ∃ l b xs ys, o = .ref l ∧ v = .ref b ∧ l ≠ b ∧ H1 l = some (.lst xs) ∧ H1 b = some (.lst ys) ∧ xs.length + ys.length ≤ sizeLine ∧ Q σ (upd H1 l (.lst ys))
theorem pg_setAll {o : Expr} {to : TE} {pos p2 : Pos} (ho : PE X o to)
    (ha : ∀ v, assign (.Subscript o (.Slice none none none p2) pos) X.env v = (do
      let ov ← holding [v] (eval o X.env)
      let iv ← holding [v, ov] (eval (.Slice none none none p2) X.env)
      standAt pos
      holding [v, ov, iv] (setItem ov iv v)
      release [iv, v, ov] []) := by intro _; rfl) : PG X (.Subscript o (.Slice none none none p2) pos) (gSetAll to) := by
  refine ⟨fun pins s σ H v u Q I r h => ?_⟩
  rw [ha]
  refine wpAny_bind (wpAny_holding (thn (ho.run pins s σ H _ I h) fun ov s1 ⟨x, H1, I1, r1, q1⟩ => ?_))
  obtain ⟨l, b, xs, ys, rfl, rfl, hne, hl, hb, hz, q⟩ := q1
  cases r1
  cases r
  refine wpAny_bind (wpAny_holding (wpAny_Slice ?_))
  rw [evalPart_none]
  refine wpAny_pure (wpAny_pure (wpAny_pure ?_))
  have I4 : Inv X pins σ H1 { s1 with heap := s1.heap.push { cls := .type "slice", data := .fields #[.none, .none, .none] } } := I1.kept (t' := s1.toks) fun b ob q => Heap.get?_push_of_some _ q
  refine wpAny_bind (wpAny_standAt (wpAny_bind (wpAny_holding ?_)))
  obtain ⟨z1, its, n, r1, hl1, e1⟩ := I4.lstM hl
  obtain ⟨z2, its2, n2, r2, hl2, e2⟩ := I4.lstM hb
  refine setItem_all e1 e2 hne (Heap.IsSliceOf.new ..) (by rw [List.size_toArray, List.size_toArray]; omega) ?_
  refine wpAny_release ⟨σ, _, I4.lset (its' := its.take 0 ++ its2 ++ its.drop its.toArray.size) (t' := s1.toks) hl e1 ?_ ?_ ?_, q⟩
  · exact splice_eq its its2 0 its.toArray.size
  · rw [List.take_zero, List.nil_append, List.size_toArray, List.drop_length, List.append_nil]
    exact r2
  · omega
end
end Pp
-- PpNb
set_option maxRecDepth 100000
set_option maxHeartbeats 4000000
/-! try .. except C as n .. else, turned from the kit's clause with a name. -/
namespace Pp
open PySem PySem.Spec PyProof.Rows L2
section
variable {X : Cx} {x n : Str} {c : Value} {i : Nat} {body suite : List Stmt} {b₀ : Stmt} {np pos pos' : Pos} {tb : WX → TS} {ts : Addr → Value → Option Addr → TS} {Wout : WX}
theorem ps_try_asE {orelse : List Stmt} {u : TS} (ho : PSs X orelse u) (hs : X.stack = X.env :: X.outer) (hf : X.env.frame = some X.env.locals) (hN : X.N.Nodup) (hi : X.N[i]? = some n) (hln : X.env.kindOf n = some .local) (hc : Names X x c) (tk : Takes X Wout)
    (hb : ∀ (W : WX) (pn : List (Addr × Obj)) (xe : Value → Shared → Prop), Takes (X.tr pn xe) W → PassesOwn (model X.prog X.w) X.A X.env xe → PSs (X.tr pn xe) body (tb W))
    (hsu : ∀ (a : Addr) (oe : Obj) (cls : Value) (d : Option Addr) (pn : List (Addr × Obj)), Zc cls d oe → (∃ vs, oe.data = .fields vs) → PSs (X.suite a ((a, oe) :: pn)) (b₀ :: suite) (ts a cls d)) :
    PS X (.Try body [.ExceptHandler (some (.Name x np)) (some n) (b₀ :: suite) pos'] orelse [] pos) (fun D σ H => tb (wAs X.K c i ts Wout D) { D with nx := u D } σ H) := by
  refine ⟨fun pins s σ H D I h => ?_⟩
  have ok := I.ok
  have hfr₀ : X.A.frames = some (X.env :: X.outer) := by rw [ok.frames, hs]
  have hl₀ : Loc X.env.scope n := .inl hln
  refine wpAny_Try_except ?_
  refine wpAny_mono ((hb (wAs X.K c i ts Wout D) (X.pn ++ pins) (fun e s₁ => wpAny (model X.prog X.w) X.A (noteFrame e X.env) (fun _ s₂ => wpAny (model X.prog X.w) X.A (setFlight e none) (fun _ s₃ =>
    wpAny (model X.prog X.w) X.A (handleBy e X.env [.ExceptHandler (some (.Name x np)) (some n) (b₀ :: suite) pos']) (SP X pins D) X.xe s₃) X.xe s₂) X.xe s₁) (fun u s' xx => ?_) PassesOwn.looking).run [] s σ H { D with nx := u D } (I.toTry _) h) (fun f s1 hsp => ?_) (fun e s1 he => he)
  · -- the catch
    obtain ⟨a, B, sI, pins', σ', H', cls, d, rfl, J', nb, up, sky, na, os, ag, b, hb1, hyes, hno⟩ := xx
    have J : Inv X pins σ' H' sI := J'.ofTry ok
    have sk₂ : Sky B (X.env :: X.outer) a (Zc cls d) X.env.locals s'.heap := by rw [← hs]; exact sky
    show wpAny (model X.prog X.w) X.A (noteFrame (.ref a) X.env) _ _ _
    refine Sky.land Zc.steady hfr₀ hf sk₂ fun h3 fl₃ up₃ => ?_
    have J₃ : Inv X pins σ' H' { s' with heap := h3 } := J.landed nb fl₃.1 (up.trans up₃) os ag
    obtain ⟨oe₃, vs₃, he₃, hz₃, hd₃⟩ := fl₃.there
    have nofr : ∀ {h : Heap} {o : Obj} {vs : Array Value}, h.FunFrames B (X.env :: X.outer) → h.get? a = some o → o.data = .fields vs → a ∉ frs (X.env :: X.outer) := fun {h o vs} ff e dd hm => by
      obtain ⟨_, o', e', hnf⟩ := ff.mem hm
      rw [e] at e'; cases e'
      exact hnf _ dd
    have nfr := nofr fl₃.2.2.1 he₃ hd₃
    have nL : a ≠ X.env.locals := fun z => nfr (List.mem_filterMap.mpr ⟨X.env, List.mem_cons_self, by rw [hf, z]⟩)
    have nF : a ∉ X.fs := fun hm => by
      obtain ⟨e, he, q⟩ := List.mem_filterMap.mp hm
      exact nfr (List.mem_filterMap.mpr ⟨e, List.mem_cons_of_mem _ he, q⟩)
    have S₃ := J₃.suite he₃ hd₃ na nL nF
    refine wpAny_handleBy_cons (codeAny_handlers_test ?_) (by intro q; cases q)
    have lkT : PySem.W.Looks (model X.prog X.w) h3 (typeOf (.ref a)) cls := fun A Q E s k q => wpAny_typeOf_ref (k _ _ he₃) (by rw [hz₃.1]; exact q)
    have lkM := PySem.W.exm_one (M := model X.prog X.w) (J₃.kIn) lkT hb1
    have tst : ∀ {Q : Value → Shared → Prop} {E : Value → Shared → Prop}, Q c { s' with heap := h3 } → wpAny (model X.prog X.w) (X.A.mark (some (.ref a))) (eval (.Name x np) X.env) Q E { s' with heap := h3 } := fun {Q E} q => by
      obtain ⟨hg, hdbg, hm | ⟨hm, hv, hnn⟩⟩ := hc
      · exact ld_glob (X := X.suite a ((a, oe₃) :: (X.pn ++ pins))) S₃ hg hm q hdbg
      · exact ld_blt (X := X.suite a ((a, oe₃) :: (X.pn ++ pins))) S₃ hg hm hv q hnn hdbg
    refine tst (lkM.here ?_)
    cases b with
    | true =>
      refine codeAny_handlers_suite_as ?_
      refine HandSPX.lands_againZ fl₃ fun h4 fl₄ up₄ => ?_
      have J₄ : Inv X pins σ' H' { s' with heap := h4 } := J.landed nb fl₄.1 ((up.trans up₃).trans up₄) os ag
      obtain ⟨oe₄, vs₄, he₄, hz₄, hd₄⟩ := fl₄.there
      have S₄ := J₄.suite he₄ hd₄ na nL nF
      refine store_ok (X := X.suite a ((a, oe₄) :: (X.pn ++ pins))) (v := .ref a) S₄ hN hi hl₀ rfl (fun s5 S₅ => ?_) (.inr hln)
      refine wpAny_mono ((hsu a oe₄ cls d (X.pn ++ pins) hz₄ ⟨_, hd₄⟩).run [] s5 _ H' _ S₅ (hyes rfl a na)) (fun f s6 hsp => ?_) (fun _ _ z => False.elim z)
      have ende : ∀ {σ6 : L2.St} {H6 : Hp} {Q : Shared → Prop}, Inv (X.suite a ((a, oe₄) :: (X.pn ++ pins))) [] σ6 H6 s6 → (∀ s7, Inv X pins (σ6.set i none) H6 s7 → Q s7) →
          wpAny (model X.prog X.w) X.A (do bindName X.env n .none; unbindBehindTheSuite X.env n pos') (fun _ s7 => Q s7) X.xe s6 := fun {σ6 H6 Q} S6 hq => L2.gone_ok (S6.unsuite ok) hN hi hln hq
      cases f with
      | next =>
        obtain ⟨σ6, H6, S6, q6⟩ := hsp
        exact ende S6 fun s7 J7 => ⟨_, _, J7, q6⟩
      | brk =>
        obtain ⟨σ6, H6, S6, q6⟩ := hsp
        exact ende S6 fun s7 J7 => ⟨_, _, J7, q6⟩
      | cont =>
        obtain ⟨σ6, H6, S6, q6⟩ := hsp
        exact ende S6 fun s7 J7 => ⟨_, _, J7, q6⟩
      | ret u =>
        obtain ⟨v6, σ6, H6, S6, r6, q6⟩ := hsp
        exact ende S6 fun s7 J7 => ⟨_, _, _, J7, r6, q6⟩
    | false =>
      show wpAny _ X.A (handleBy (.ref a) X.env []) _ _ _
      refine wpAny_handleBy_nil ?_
      obtain ⟨k1, k2, k3, oe, vs, T, oT, ts', he, hz, hd, h1, hr⟩ := id fl₃
      unfold PySem.passOn
      refine wpAny_bind (wpAny_field he hd h1 ?_)
      rw [if_neg (show ¬ ((Value.ref T == Value.none) = true) from by simp)]
      have out : wpAny (model X.prog X.w) X.A (setFlight (.ref a) X.env.frame) (fun _ s4 => wpAny (model X.prog X.w) X.A (throw (.ref a) : Sem Flow) (SP X pins D) X.xe s4) X.xe { s' with heap := h3 } := by
        rw [hf]
        refine HandSPX.setFlight_upZ fl₃ fun h4 hh4 up₄ => wpAny_throw (tk _ _ ?_)
        exact ⟨a, B, sI, pins, σ', H', cls, d, rfl, J, nb, (up.trans up₃).trans up₄, .inr (.inr (by rw [hs]; exact hh4)), na, os, ag, hno rfl⟩
      first
        | exact wpAny_bind (wpAny_pure (wpAny_bind out))
        | exact wpAny_bind out
  · cases f with
    | next =>
      obtain ⟨σ', H', J', q⟩ := hsp
      exact ho.run pins s1 σ' H' D (J'.ofTry ok) q
    | brk =>
      obtain ⟨σ', H', J', q⟩ := hsp
      exact ⟨σ', H', J'.ofTry ok, q⟩
    | cont =>
      obtain ⟨σ', H', J', q⟩ := hsp
      exact ⟨σ', H', J'.ofTry ok, q⟩
    | ret u =>
      obtain ⟨v, σ', H', J', r, q⟩ := hsp
      exact ⟨v, σ', H', J'.ofTry ok, r, q⟩
/-- a suite under a plain premise -/
theorem pss_if {X : Cx} {p : Prop} {b : List Stmt} {t : TS} (h : p → PSs X b t) : PSs X b (fun D σ H => p ∧ t D σ H) := ⟨fun pins s σ H D I q => (h q.1).run pins s σ H D I q.2⟩
end
end Pp
-- PpNc
set_option maxRecDepth 100000
set_option maxHeartbeats 4000000
/-! Own rules: xs[k] += e, a division by a number of some hundred bits. -/
namespace Pp
open PySem PySem.Spec PyProof.Rows L2 Evl
def rGetI : V → V → Hp → VK → Prop := fun o i H Q => ∃ (p : Addr) (xs : List V) (k : Nat) (v : V), o = .ref p ∧ i = .int (k : Int) ∧ k < 1000 ∧ H p = some (.lst xs) ∧ xs[k]? = some v ∧ Q v H
def CDivL (i j : Int) : Prop := 0 < j ∧ j.natAbs < 2 ^ 200
theorem noPy {i j : Int} (h : j.natAbs < 2 ^ 200) : Builtin.divisionGoesByPylong i j = false := by
  have hd : (if j == 0 then 0 else j.natAbs.log2 / 30 + 1) ≤ 300 := by
    split
    · omega
    · rename_i hj
      have hj : j ≠ 0 := by simpa using hj
      have := (Nat.log2_lt (by omega : j.natAbs ≠ 0)).mpr h
      omega
  unfold Builtin.divisionGoesByPylong
  simp only []
  rw [Bool.and_eq_false_iff]
  exact .inl (decide_eq_false (by omega))
section
variable {X : Cx}
theorem get_listI : PGet X rGetI := by
  intro pins s σ H o i ov iv Q I ro ri h
  obtain ⟨p, xs, k, v, rfl, rfl, hk, hp, hx, q⟩ := h
  cases ro
  obtain ⟨t, rfl⟩ := ri
  obtain ⟨z, its, n, r, hl, e⟩ := I.lstM hp
  obtain ⟨u, eu, ru⟩ := r.get hx
  exact wpAny_getItem_list (PySem.IsL.isList e) (by omega) (by omega) (by simpa using eu) ⟨v, H, I, ru, q⟩
theorem op_fdivL : OpR X (binaryOp .FloorDiv) (rI CDivL fun i j => .int (i / j)) := opI fun i j _ _ _ _ _ hc q => by
  have h1 : (0 : Int) < j := hc.1
  exact floordiv_int (by omega) (by rw [Int.fdiv_eq_ediv_of_nonneg i (by omega)]; exact q) (.inl (noPy hc.2))
end
section
variable {σ : L2.St} {H : Hp} {nx bk ct : L2.St → Hp → Prop} {rt : VK} {to ti te : TE} {tget : V → V → Hp → VK → Prop} {tip : TIp} {tset : TSet}
theorem i_augS (k : to σ H fun o H1 => ti σ H1 fun i H2 => tget o i H2 fun x H3 => te σ H3 fun y H4 => tip x y H4 fun z H5 => tset o i z H5 fun H6 => nx σ H6) : tAugS to ti te tget tip tset ⟨nx, rt, bk, ct⟩ σ H := k
instance a_augS : St (tAugS to ti te tget tip tset ⟨nx, rt, bk, ct⟩ σ H) (to σ H fun o H1 => ti σ H1 fun i H2 => tget o i H2 fun x H3 => te σ H3 fun y H4 => tip x y H4 fun z H5 => tset o i z H5 fun H6 => nx σ H6) := ⟨fun k => i_augS k⟩
theorem i_getI {p : Addr} {xs : List V} {k : Nat} {v : V} {Q : VK} (hk : k < 1000) (h : H p = some (.lst xs)) (e : xs[k]? = some v) (q : Q v H) : rGetI (.ref p) (.int (k : Int)) H Q := ⟨p, xs, k, v, rfl, rfl, hk, h, e, q⟩
end
end Pp
-- PpLa
set_option maxRecDepth 100000
set_option maxHeartbeats 4000000
/-! Readings that the law's own defs want. -/
namespace Pp
open PySem PySem.Spec PyProof.Rows L2 Evl
section
variable {σ : L2.St} {H : Hp} {nx bk ct : L2.St → Hp → Prop} {rt : VK} {i j l : Nat} {ar : TA} {x y z : V}
instance a_par3 : St (tPar3 i j l ar ⟨nx, rt, bk, ct⟩ σ H) (ar σ H fun vs H1 => ∃ u v w, vs = [u, v, w] ∧ nx (((σ.set i (some u)).set j (some v)).set l (some w)) H1) := ⟨fun k => k⟩
instance a_par33 {Qp : V → V → V → Prop} : St (∃ u v w, [x, y, z] = [u, v, w] ∧ Qp u v w) (Qp x y z) := ⟨fun k => ⟨x, y, z, rfl, k⟩⟩
end
end Pp
-- PpL1
set_option maxRecDepth 100000
set_option maxHeartbeats 4000000
namespace Pp
open PySem PySem.Spec PyProof.Rows L2 Evl
theorem tup2 {a b a' b' : Int} (h1 : a = a') (h2 : b = b') : (some (HO.tup [V.int a, V.int b]) : Option HO) = some (.tup (plV (a', b'))) := by rw [h1, h2]; rfl
theorem plE {c : Cl} {files rows r fl a b : Int} (h : mv c files rows r fl = (a, b)) : (some (HO.tup [V.int a, V.int b]) : Option HO) = some (.tup (plV (mv c files rows r fl))) := by rw [h]; rfl
theorem in_two {x a b : Int} : inV (.int x) [.int a, .int b] = decide (x = a ∨ x = b) := by
  rw [Bool.eq_iff_iff]
  simp [inV, eqV]
  omega
theorem in_pair {s : Str} {x a b : Int} : inV (.int x) (cutV [.str s, .int a, .int b] (some 1) none) = decide (x = a ∨ x = b) := in_two
theorem in_pair3 {s : Str} {x a b k : Int} : inV (.int x) (cutV [.str s, .int a, .int b, .int k] (some 1) (some 3)) = decide (x = a ∨ x = b) := in_two
theorem pair_sum {r x a b : Int} (h : x = a ∨ x = b) (n : a ≠ b) : (r, if x = a then b else a) = (r, a + b - x) := by
  by_cases q : x = a
  · rw [if_pos q, q]; congr 1; omega
  · rw [if_neg q, h.resolve_left q]; congr 1; omega
section
variable {P : Program} {w : World} {K : PySem.W.Frag} {mg : Str → Option Value} {base : Heap} {H : Hp} {Q : VK} {E : XK}
abbrev s__law_open : Stmt := top 74
abbrev N__law_open : List Str := ["_law_word", "_law_files", "_law_rows", "_law_place", "_law_number", "_law_half", "_law_back", "_law_odd", "_law_late"]
theorem sc__law_open : FnScope N__law_open ["_law_word", "_law_files", "_law_rows", "_law_place"] (defScope s__law_open) := ⟨rfl, rfl, rfl, by decide +kernel, rfl, by decide +kernel, by decide +kernel⟩
def openW (c : Cl) : Prop := c = .halve ∨ c = .pair ∨ c = .others ∨ c = .fill
def sp__law_open : Sp := fun vs H Q _ => ∃ (aP : Addr) (files rows r fl : Int) (c : Cl), vs = [.str c.word, .int files, .int rows, .ref aP] ∧ openW c ∧ H aP = some (.tup [.int r, .int fl]) ∧ Bd files rows ∧ Pl files rows (r, fl) ∧
  ∀ q H', Ex H H' → H' q = some (.tup (plV (mv c files rows r fl))) → Q (.ref q) H'
theorem ok__law_open (T : Txt K mg w) {f : Addr} {fd : FuncData} (F : DefAt K "_law_open" "_law_open" s__law_open f fd) : FnOk P w K mg base CX0 1 f fd ["_law_word", "_law_files", "_law_rows", "_law_place"] sp__law_open := by
  refine ok0 F sc__law_open (fun vs H Q E h => ?_) (fun cdv A outer s H vs Q E hr h => ?_)
  · walk_at "len"
  · obtain ⟨aP, files, rows, r, fl, c, rfl, hc, hp, ⟨⟨b1, b2⟩, b3, b4⟩, ⟨⟨p1, p2⟩, p3, p4⟩, kq⟩ := h
    refine ⟨_, (pss_cons (ps_par (i := 4) (j := 5) (by rfl) sc__law_open.nd rfl rfl (by decide) rfl rfl (pa_cons (pe_op op_add (pe_op op_mul (pe_ix ix_tup (pv 3) pe_int (fun _ _ => rfl)) (pv 1)) (pe_ix ix_tup (pv 3) pe_int (fun _ _ => rfl))) (pa_cons (pe_op op_sub (pv 2) (pe_op op_fdiv (pv 2) pe_int)) pa_nil)) (by rfl))
  (pss_cons (ps_if (pt_cmpR op_eq (pv 0) pe_str (nomark _)) (pss_one (ps_ret (pe_tup (pa_cons (pe_op op_sub (pv 4) (pe_op op_mul (pv 2) (pe_op op_fdiv (pv 4) (pv 2)))) (pa_cons (pe_op op_fdiv (pv 4) (pv 2)) pa_nil))))) pss_nil)
  (pss_cons (ps_if (pt_cmpR op_eq (pv 0) pe_str (nomark _)) (pss_cons (ps_set (i := 6) sc__law_open.nd rfl (Or.inl rfl) (pe_op op_add (pe_op op_mul (pe_ix ix_tup (pv 3) pe_int (fun _ _ => rfl)) (pv 2)) (pe_ix ix_tup (pv 3) pe_int (fun _ _ => rfl))))
  (pss_one (ps_ret (pe_tup (pa_cons (pe_op op_fdiv (pv 6) (pv 1)) (pa_cons (pe_op op_sub (pv 6) (pe_op op_mul (pv 1) (pe_op op_fdiv (pv 6) (pv 1)))) pa_nil)))))) pss_nil)
  (pss_cons (ps_set (i := 7) sc__law_open.nd rfl (Or.inl rfl) (pe_op op_sub (pe_ix ix_tup (pv 3) pe_int (fun _ _ => rfl)) (pe_op op_mul pe_int (pe_op op_fdiv (pe_ix ix_tup (pv 3) pe_int (fun _ _ => rfl)) pe_int))))
  (pss_cons (ps_if (pt_cmpR op_eq (pv 0) pe_str (nomark _)) (pss_one (ps_ret (pe_tup (pa_cons (pe_op op_add (pe_op op_fdiv (pe_ix ix_tup (pv 3) pe_int (fun _ _ => rfl)) pe_int) (pe_op op_mul (pv 5) (pv 7))) (pa_cons (pe_ix ix_tup (pv 3) pe_int (fun _ _ => rfl)) pa_nil))))) pss_nil)
  (pss_cons (ps_set (i := 8) sc__law_open.nd rfl (Or.inl rfl) (pe_callTy cr_int (by rfl) T.b_int (by decide +kernel) (pa_cons (pe_cmpR op_ge (pe_ix ix_tup (pv 3) pe_int (fun _ _ => rfl)) (pv 5) (nomark _)) pa_nil)))
  (pss_one (ps_ret (pe_tup (pa_cons (pe_op op_add (pe_op op_mul pe_int (pe_op op_sub (pe_ix ix_tup (pv 3) pe_int (fun _ _ => rfl)) (pe_op op_mul (pv 5) (pv 8)))) (pv 8)) (pa_cons (pe_ix ix_tup (pv 3) pe_int (fun _ _ => rfl)) pa_nil))))))))))), ?_⟩
    rcases hc with rfl | rfl | rfl | rfl
    · walk_at "go"
      exact kq _ _ (by walk_at "ex") (g.trans (tup2 (Int.emod_def _ _).symm rfl))
    · walk_at "go"
      exact kq _ _ (by walk_at "ex") (g.trans (tup2 rfl (Int.emod_def _ _).symm))
    · walk_at "go"
      refine kq _ _ (by walk_at "ex") (g.trans (tup2 ?_ rfl))
      show r / 2 + (rows - rows / 2) * (r - 2 * (r / 2)) = if r % 2 = 0 then r / 2 else (rows + 1) / 2 + r / 2
      by_cases h : r % 2 = 0
      · rw [if_pos h, show r - 2 * (r / 2) = 0 by omega]; omega
      · rw [if_neg h, show r - 2 * (r / 2) = 1 by omega]; omega
    · walk_at "go"
      refine kq _ _ (by walk_at "ex") (g.trans (tup2 ?_ rfl))
      show _ = if r < (rows + 1) / 2 then 2 * r else 2 * (r - (rows + 1) / 2) + 1
      by_cases h : rows - rows / 2 ≤ r
      · simp only [decide_eq_true h, if_true]
        rw [if_neg (by omega)]
        omega
      · simp only [decide_eq_false h, Bool.false_eq_true, if_false]
        rw [if_pos (by omega)]
        omega
theorem cal__law_open (T : Txt K mg w) : Cal P w K mg base CX0 1 "_law_open" sp__law_open := calOf T.g__law_open T.d__law_open (fun _ F => ok__law_open T F) (fun _ _ _ _ _ _ us hl => match us, hl with | [_, _, _, _], _ => rfl)
theorem u__law_open {aP : Addr} {files rows r fl : Int} {c : Cl} (h1 : openW c) (h2 : H aP = some (.tup [.int r, .int fl])) (h3 : Bd files rows) (h4 : Pl files rows (r, fl))
    (k : ∀ q H', Ex H H' → H' q = some (.tup (plV (mv c files rows r fl))) → Q (.ref q) H') : sp__law_open [.str c.word, .int files, .int rows, .ref aP] H Q E := ⟨aP, files, rows, r, fl, c, rfl, h1, h2, h3, h4, k⟩
abbrev s__law_goes : Stmt := top 75
abbrev N__law_goes : List Str := ["_law_call_here", "_law_files", "_law_rows", "_law_place", "_law_word", "_law_row", "_law_file", "_law_seat"]
theorem sc__law_goes : FnScope N__law_goes ["_law_call_here", "_law_files", "_law_rows", "_law_place"] (defScope s__law_goes) := ⟨rfl, rfl, rfl, by decide +kernel, rfl, by decide +kernel, by decide +kernel⟩
def sp__law_goes : Sp := fun vs H Q _ => ∃ (aC aP : Addr) (files rows r fl : Int) (c : Cl), vs = [.ref aC, .int files, .int rows, .ref aP] ∧ H aC = some (.tup c.vs) ∧ c.Ok files ∧ H aP = some (.tup [.int r, .int fl]) ∧ Bd files rows ∧ Pl files rows (r, fl) ∧
  ∀ q H', Ex H H' → H' q = some (.tup (plV (mv c files rows r fl))) → Q (.ref q) H'
theorem ok__law_goes (T : Txt K mg w) {f : Addr} {fd : FuncData} (F : DefAt K "_law_goes" "_law_goes" s__law_goes f fd) : FnOk P w K mg base CX0 2 f fd ["_law_call_here", "_law_files", "_law_rows", "_law_place"] sp__law_goes := by
  refine ok0 F sc__law_goes (fun vs H Q E h => ?_) (fun cdv A outer s H vs Q E hr h => ?_)
  · walk_at "len"
  · obtain ⟨aC, aP, files, rows, r, fl, c, rfl, hc, ho, hp, hb, hpl, kq⟩ := h
    have hb0 := hb
    have hpl0 := hpl
    obtain ⟨⟨b1, b2⟩, b3, b4⟩ := hb
    obtain ⟨⟨p1, p2⟩, p3, p4⟩ := hpl
    refine ⟨_, (pss_cons (ps_par3 (i := 4) (j := 5) (l := 6) (by rfl) sc__law_goes.nd rfl rfl rfl (by decide) (by decide) (by decide) rfl rfl rfl (pa_cons (pe_ix ix_tup (pv 0) pe_int (fun _ _ => rfl)) (pa_cons (pe_ix ix_tup (pv 3) pe_int (fun _ _ => rfl)) (pa_cons (pe_ix ix_tup (pv 3) pe_int (fun _ _ => rfl)) pa_nil))) (by rfl))
  (pss_cons (ps_if (PW.pt (pw_or (pt_cmpR op_eq (pv 4) pe_str (nomark _)) (pw_or1 (PW.pt (pw_and (pt_cmpR op_eq (pv 4) pe_str (nomark _)) (pw_and1 (pt_cmpR op_eq (pv 6) (pe_ix ix_tup (pv 0) pe_int (fun _ _ => rfl)) (nomark _)))))))) (pss_one (ps_ret (pe_tup (pa_cons (pe_op op_mod (pe_callTy cr_int (by rfl) T.b_int (by decide +kernel) (pa_cons (pe_op op_sub (pv 5) (pe_ix ix_tup (pv 0) (pe_un un_neg pe_int) (fun _ _ => rfl))) pa_nil)) (pv 2)) (pa_cons (pv 6) pa_nil))))) pss_nil)
  (pss_cons (ps_if (pt_cmpR op_eq (pv 4) pe_str (nomark _)) (pss_one (ps_ret (pe_tup (pa_cons (pe_op op_sub (pe_op op_sub (pv 2) pe_int) (pv 5)) (pa_cons (pe_op op_sub (pe_op op_sub (pv 1) pe_int) (pv 6)) pa_nil))))) pss_nil)
  (pss_cons (ps_if (PW.pt (pw_and (pt_cmpR op_in_seq (pv 4) (pe_tup (pa_cons pe_str (pa_cons pe_str pa_nil))) (by rfl)) (pw_and (pt_cmpR op_in_seq (pv 6) (pe_slice sl_tupA (pv 0) (po_some pe_int) po_none) (by rfl)) (pw_and1 (PW.pt (pw_or (pt_cmpR op_eq (pv 4) pe_str (nomark _)) (pw_or1 (pt_cmpR op_eq (pv 5) pe_int (nomark _))))))))) (pss_one (ps_ret (pe_tup (pa_cons (pv 5) (pa_cons (pe_op op_sub (pe_op op_add (pe_ix ix_tup (pv 0) pe_int (fun _ _ => rfl)) (pe_ix ix_tup (pv 0) pe_int (fun _ _ => rfl))) (pv 6)) pa_nil))))) pss_nil)
  (pss_cons (ps_if (PW.pt (pw_and (pt_cmpR op_eq (pv 4) pe_str (nomark _)) (pw_and1 (pt_cmpR op_in_seq (pv 6) (pe_slice sl_tupA (pv 0) (po_some pe_int) (po_some pe_int)) (by rfl))))) (pss_cons (ps_set (i := 7) sc__law_goes.nd rfl (Or.inl rfl) (pe_op op_mod (pe_callTy cr_int (by rfl) T.b_int (by decide +kernel) (pa_cons (pe_op op_add (pe_ifExp (pt_cmpR op_eq (pv 6) (pe_ix ix_tup (pv 0) pe_int (fun _ _ => rfl)) (nomark _)) (pe_op op_add (pv 2) (pv 5)) (pe_op op_sub (pe_op op_sub (pv 2) pe_int) (pv 5))) (pe_ix ix_tup (pv 0) pe_int (fun _ _ => rfl))) pa_nil)) (pe_op op_mul pe_int (pv 2))))
  (pss_one (ps_ret (pe_ifExp (pt_cmpR op_ge (pv 7) (pv 2) (nomark _)) (pe_tup (pa_cons (pe_op op_sub (pv 7) (pv 2)) (pa_cons (pe_ix ix_tup (pv 0) pe_int (fun _ _ => rfl)) pa_nil))) (pe_tup (pa_cons (pe_op op_sub (pe_op op_sub (pv 2) pe_int) (pv 7)) (pa_cons (pe_ix ix_tup (pv 0) pe_int (fun _ _ => rfl)) pa_nil))))))) pss_nil)
  (pss_cons (ps_if (pt_cmpR op_in_seq (pv 4) (pe_tup (pa_cons pe_str (pa_cons pe_str (pa_cons pe_str (pa_cons pe_str pa_nil))))) (by rfl)) (pss_one (ps_ret (pe_cal (cal__law_open T) hr px0 (pa_cons (pv 4) (pa_cons (pv 1) (pa_cons (pv 2) (pa_cons (pv 3) pa_nil))))))) pss_nil)
  (pss_one (ps_ret (pv 3))))))))), ?_⟩
    cases c with
    | all k =>
      have hc : H aC = some (.tup [.str "all", .int k]) := hc
      walk_at "go"
      exact kq _ _ (by walk_at "ex") (g.trans (tup2 rfl rfl))
    | up a k =>
      have hc : H aC = some (.tup [.str "up", .int a, .int k]) := hc
      walk_at "go"
      refine i_dec (fun h => ?_) (fun h => ?_)
      · have h := V.int.inj h
        walk_at "go"
        exact kq _ _ (by walk_at "ex") (g.trans (plE (if_pos h)))
      · have h : ¬ fl = a := fun z => h (by rw [z])
        walk_at "go"
        exact kq _ _ (by walk_at "ex") (Eq.trans (by walk_at "tx") (plE (if_neg h)))
    | about =>
      have hc : H aC = some (.tup [.str "about"]) := hc
      walk_at "go"
      exact kq _ _ (by walk_at "ex") (g.trans (tup2 rfl rfl))
    | swap a b =>
      have hc : H aC = some (.tup [.str "swap", .int a, .int b]) := hc
      obtain ⟨o1, o2, o3⟩ : (0 ≤ a ∧ a < files) ∧ (0 ≤ b ∧ b < files) ∧ a ≠ b := ho
      walk_at "go"
      rw [in_pair]
      refine i_dec (fun h => ?_) (fun h => ?_)
      · walk_at "go"
        refine kq _ _ (by walk_at "ex") (Eq.trans (by walk_at "tx") (plE (Eq.trans (if_pos h) ?_)))
        rw [pair_sum h o3]
      · walk_at "go"
        exact kq _ _ (by walk_at "ex") (Eq.trans (by walk_at "tx") (plE (if_neg h)))
    | front a b =>
      have hc : H aC = some (.tup [.str "front", .int a, .int b]) := hc
      obtain ⟨o1, o2, o3⟩ : (0 ≤ a ∧ a < files) ∧ (0 ≤ b ∧ b < files) ∧ a ≠ b := ho
      walk_at "go"
      rw [in_pair]
      refine i_dec (fun h => ?_) (fun h => ?_)
      · walk_at "go"
        refine i_dec (fun h2 => ?_) (fun h2 => ?_)
        · have h2 := V.int.inj h2
          walk_at "go"
          refine kq _ _ (by walk_at "ex") (Eq.trans (by walk_at "tx") (plE (Eq.trans (if_pos ⟨h, by omega⟩) ?_)))
          rw [pair_sum h o3]
        · have h2 : ¬ r = 0 := fun z => h2 (by rw [z])
          walk_at "go"
          exact kq _ _ (by walk_at "ex") (Eq.trans (by walk_at "tx") (plE (if_neg fun z => z.2 (by omega))))
      · walk_at "go"
        exact kq _ _ (by walk_at "ex") (Eq.trans (by walk_at "tx") (plE (if_neg fun z => h z.1)))
    | wheel a b k =>
      have hc : H aC = some (.tup [.str "wheel", .int a, .int b, .int k]) := hc
      obtain ⟨o1, o2, o3, o4⟩ : (0 ≤ a ∧ a < files) ∧ (0 ≤ b ∧ b < files) ∧ a ≠ b ∧ k ≠ 0 := ho
      walk_at "go"
      rw [in_pair3]
      refine i_dec (fun h => ?_) (fun h => ?_)
      · walk_at "go"
        refine i_dec (fun h2 => ?_) (fun h2 => ?_)
        · have h2 := V.int.inj h2
          have h3 : ¬ fl = a := fun z => o3 (by omega)
          walk_at "go"
          refine i_dec (fun h4 => ?_) (fun h4 => ?_)
          · walk_at "go"
            refine kq _ _ (by walk_at "ex") (Eq.trans (by walk_at "tx") (plE ?_))
            show onWheel a b k rows r fl = _
            unfold onWheel
            rw [if_pos h]
            simp only [if_neg h3]
            rw [if_neg (by omega)]
          · walk_at "go"
            refine kq _ _ (by walk_at "ex") (Eq.trans (by walk_at "tx") (plE ?_))
            show onWheel a b k rows r fl = _
            unfold onWheel
            rw [if_pos h]
            simp only [if_neg h3]
            rw [if_pos (by omega)]
        · have h2 : ¬ fl = b := fun z => h2 (by rw [z])
          have h3 : fl = a := h.resolve_right h2
          walk_at "go"
          refine i_dec (fun h4 => ?_) (fun h4 => ?_)
          · walk_at "go"
            refine kq _ _ (by walk_at "ex") (Eq.trans (by walk_at "tx") (plE ?_))
            show onWheel a b k rows r fl = _
            unfold onWheel
            rw [if_pos h]
            simp only [if_pos h3]
            rw [if_neg (by omega)]
          · walk_at "go"
            refine kq _ _ (by walk_at "ex") (Eq.trans (by walk_at "tx") (plE ?_))
            show onWheel a b k rows r fl = _
            unfold onWheel
            rw [if_pos h]
            simp only [if_pos h3]
            rw [if_pos (by omega)]
      · walk_at "go"
        refine kq _ _ (by walk_at "ex") (Eq.trans (by walk_at "tx") (plE ?_))
        show onWheel a b k rows r fl = _
        unfold onWheel
        rw [if_neg h]
    | halve =>
      have hc : H aC = some (.tup [.str "halve"]) := hc
      walk_at "go"
      exact u__law_open (c := .halve) (.inl rfl) (by walk_at "tx") hb0 hpl0 fun q H4 e4 g4 => kq _ _ (by walk_at "ex") g4
    | pair =>
      have hc : H aC = some (.tup [.str "pair"]) := hc
      walk_at "go"
      exact u__law_open (c := .pair) (.inr (.inl rfl)) (by walk_at "tx") hb0 hpl0 fun q H4 e4 g4 => kq _ _ (by walk_at "ex") g4
    | others =>
      have hc : H aC = some (.tup [.str "others"]) := hc
      walk_at "go"
      exact u__law_open (c := .others) (.inr (.inr (.inl rfl))) (by walk_at "tx") hb0 hpl0 fun q H4 e4 g4 => kq _ _ (by walk_at "ex") g4
    | fill =>
      have hc : H aC = some (.tup [.str "fill"]) := hc
      walk_at "go"
      exact u__law_open (c := .fill) (.inr (.inr (.inr rfl))) (by walk_at "tx") hb0 hpl0 fun q H4 e4 g4 => kq _ _ (by walk_at "ex") g4
theorem cal__law_goes (T : Txt K mg w) : Cal P w K mg base CX0 2 "_law_goes" sp__law_goes := calOf T.g__law_goes T.d__law_goes (fun _ F => ok__law_goes T F) (fun _ _ _ _ _ _ us hl => match us, hl with | [_, _, _, _], _ => rfl)
theorem u__law_goes {aC aP : Addr} {files rows r fl : Int} {c : Cl} (h0 : H aC = some (.tup c.vs)) (h1 : c.Ok files) (h2 : H aP = some (.tup [.int r, .int fl])) (h3 : Bd files rows) (h4 : Pl files rows (r, fl))
    (k : ∀ q H', Ex H H' → H' q = some (.tup (plV (mv c files rows r fl))) → Q (.ref q) H') : sp__law_goes [.ref aC, .int files, .int rows, .ref aP] H Q E := ⟨aC, aP, files, rows, r, fl, c, rfl, h0, h1, h2, h3, h4, k⟩
end
end Pp
-- PpL2
set_option maxRecDepth 100000
set_option maxHeartbeats 4000000
namespace Pp
open PySem PySem.Spec PyProof.Rows L2 Evl
def pdN : V → PyData
  | .int i => .int i
  | _ => .none
/-- None or an integer -/
def IntN (v : V) : Prop := v = .non ∨ ∃ i : Int, v = .int i ∧ i.natAbs < 10 ^ 100
theorem IntN.ok {v : V} (h : IntN v) : OkN v := by
  rcases h with rfl | ⟨i, rfl, h⟩
  · exact .inl rfl
  · exact .inr h
theorem dpN {K : PySem.W.Frag} {H : Hp} : ∀ {xs : List V}, (∀ v ∈ xs, IntN v) → DpAll K H xs (xs.map pdN)
  | [], _ => .nil
  | v :: r, h => .cons (by
      rcases h v (List.mem_cons_self ..) with rfl | ⟨i, rfl, _⟩
      · exact .non
      · exact .int i) (dpN fun u hu => h u (List.mem_cons_of_mem _ hu))
theorem shN (xs : List V) : Sh 2 (.list (xs.map pdN)) := Sh.list fun d hd => by
  obtain ⟨v, _, rfl⟩ := List.mem_map.mp hd
  cases v <;> exact ⟨by simp [pdN, PyData.canLay0], by simp [pdN, PyData.depth]⟩
section
variable {P : Program} {w : World} {K : PySem.W.Frag} {mg : Str → Option Value} {base : Heap} {H : Hp} {Q : VK} {E : XK}
abbrev s__law_words : Stmt := top 76
abbrev N__law_words : List Str := ["_law_things", "_law_thing"]
theorem sc__law_words : FnScope N__law_words ["_law_things"] (defScope s__law_words) := ⟨rfl, rfl, rfl, by decide +kernel, rfl, by decide +kernel, by decide +kernel⟩
def sp__law_words : Sp := fun vs H Q _ => ∃ (a : Addr) (xs : List V), vs = [.ref a] ∧ H a = some (.lst xs) ∧ (∀ v ∈ xs, OkV v) ∧ xs.length ≤ 40000 ∧ RetV (.str (Txt.join " " (xs.map sV))) H Q
theorem ok__law_words (T : Txt K mg w) {f : Addr} {fd : FuncData} (F : DefAt K "_law_words" "_law_words" s__law_words f fd) : FnOk P w K mg base CX0 1 f fd ["_law_things"] sp__law_words := by
  refine ok0 F sc__law_words (fun vs H Q E h => ?_) (fun cdv A outer s H vs Q E hr h => ?_)
  · walk_at "len"
  · obtain ⟨a, xs, rfl, hs, hok, hl, kq⟩ := h
    refine ⟨_, (pss_one (ps_ret (pe_joinX pe_str (pe_lc (own := [("_law_thing", 1)]) (g := gName 1) (tt := tYes) rfl sc__law_words.nd (pi_list (pv 0)) (blkOk_by (own := [("_law_thing", 1)]) (N := N__law_words) (sc := defScope s__law_words) (by decide +kernel)) (fun _ _ _ _ _ => pg_name (i := 1) sc__law_words.nd rfl (Or.inl rfl)) (fun _ _ _ _ _ => pts_nil) (fun _ _ _ _ _ => (pe_callTy cr_strV (by rfl) T.b_str (by decide +kernel) (pa_cons (pv 1) pa_nil))))))), ?_⟩
    walk_at "go"
    refine lc_allL hs (fun v => .str (sV v)) hl (fun _ => rfl) (fun i x H1 e hx Q1 q => ?_) (fun p H2 hp e g => ?_)
    · walk_at "go"
      exact i_sV (hok x (List.mem_of_getElem? hx)) (q _ (Ex.refl _))
    · rw [map_str] at g
      walk_at "go"
      refine i_join g (join_ok hok hl (by decide +kernel)) ?_
      exact kq _ (by walk_at "ex")
theorem cal__law_words (T : Txt K mg w) : Cal P w K mg base CX0 1 "_law_words" sp__law_words := calOf T.g__law_words T.d__law_words (fun _ F => ok__law_words T F) (fun _ _ _ _ _ _ us hl => match us, hl with | [_], _ => rfl)
abbrev s__law_call_text : Stmt := top 77
abbrev N__law_call_text : List Str := ["_law_call_here"]
theorem sc__law_call_text : FnScope N__law_call_text ["_law_call_here"] (defScope s__law_call_text) := ⟨rfl, rfl, rfl, by decide +kernel, rfl, by decide +kernel, by decide +kernel⟩
def sp__law_call_text : Sp := fun vs H Q _ => ∃ (a : Addr) (c : Cl), vs = [.ref a] ∧ H a = some (.tup c.vs) ∧ c.Sm ∧ RetV (.str (callText c)) H Q
theorem ok__law_call_text (T : Txt K mg w) {f : Addr} {fd : FuncData} (F : DefAt K "_law_call_text" "_law_call_text" s__law_call_text f fd) : FnOk P w K mg base CX0 2 f fd ["_law_call_here"] sp__law_call_text := by
  refine ok0 F sc__law_call_text (fun vs H Q E h => ?_) (fun cdv A outer s H vs Q E hr h => ?_)
  · walk_at "len"
  · obtain ⟨a, c, rfl, hs, hok, kq⟩ := h
    refine ⟨_, (pss_one (ps_ret (pe_cal (cal__law_words T) hr px0 (pa_cons (pe_callTy cr_list (by rfl) T.b_list (by decide +kernel) (pa_cons (pv 0) pa_nil)) pa_nil)))), ?_⟩
    walk_at "go"
    exact ⟨p, c.vs, rfl, g, vs_ok hok, by have := vs_len c; omega, fun H4 e4 => kq _ (e.trans e4)⟩
theorem cal__law_call_text (T : Txt K mg w) : Cal P w K mg base CX0 2 "_law_call_text" sp__law_call_text := calOf T.g__law_call_text T.d__law_call_text (fun _ F => ok__law_call_text T F) (fun _ _ _ _ _ _ us hl => match us, hl with | [_], _ => rfl)
theorem u__law_call_text {a : Addr} {c : Cl} (h1 : H a = some (.tup c.vs)) (h2 : c.Sm) (k : RetV (.str (callText c)) H Q) : sp__law_call_text [.ref a] H Q E := ⟨a, c, rfl, h1, h2, k⟩
abbrev s__law_joined : Stmt := top 82
abbrev N__law_joined : List Str := ["_law_things", "_law_thing"]
theorem sc__law_joined : FnScope N__law_joined ["_law_things"] (defScope s__law_joined) := ⟨rfl, rfl, rfl, by decide +kernel, rfl, by decide +kernel, by decide +kernel⟩
def sp__law_joined : Sp := fun vs H Q _ => ∃ (a : Addr) (xs : List V), vs = [.ref a] ∧ H a = some (.lst xs) ∧ (∀ v ∈ xs, IntN v) ∧ xs.length ≤ 40000 ∧ RetV (.str (oneText xs)) H Q
theorem ok__law_joined (T : Txt K mg w) {f : Addr} {fd : FuncData} (F : DefAt K "_law_joined" "_law_joined" s__law_joined f fd) : FnOk P w K mg base CX0 2 f fd ["_law_things"] sp__law_joined := by
  refine ok0 F sc__law_joined (fun vs H Q E h => ?_) (fun cdv A outer s H vs Q E hr h => ?_)
  · walk_at "len"
  · obtain ⟨a, xs, rfl, hs, hok, hl, kq⟩ := h
    refine ⟨_, (pss_cons (ps_if (pt_cmpR (op_eqD hr.units) (pv 0) (pe_lst pa_nil) (nomark _)) (pss_one (ps_ret pe_str)) pss_nil)
  (pss_one (ps_ret (pe_joinX pe_str (pe_lc (own := [("_law_thing", 1)]) (g := gName 1) (tt := tYes) rfl sc__law_joined.nd (pi_list (pv 0)) (blkOk_by (own := [("_law_thing", 1)]) (N := N__law_joined) (sc := defScope s__law_joined) (by decide +kernel)) (fun _ _ _ _ _ => pg_name (i := 1) sc__law_joined.nd rfl (Or.inl rfl)) (fun _ _ _ _ _ => pts_nil) (fun _ _ _ _ _ => (pe_ifExp (pt_cmpR op_isN (pv 1) pe_non (nomark _)) pe_str (pe_callTy cr_strV (by rfl) T.b_str (by decide +kernel) (pa_cons (pv 1) pa_nil))))))))), ?_⟩
    walk_at "go"
    have hs2 := e _ _ hs
    refine i_eqE hs2 (dpN hok) (shN xs) (by decide) g ?_
    rw [show (xs.map pdN).isEmpty = xs.isEmpty by cases xs <;> rfl]
    unfold oneText at kq
    cases hx : xs.isEmpty with
    | true =>
      rw [hx] at kq
      walk_at "go"
      exact kq _ (by walk_at "ex")
    | false =>
      rw [hx] at kq
      walk_at "go"
      refine lc_allL hs2 (fun v => .str (sV (dashV v))) hl (fun _ => rfl) (fun i x H1 e1 hx1 Q1 q => ?_) (fun p2 H3 hp2 e2 g2 => ?_)
      · have hok1 := (hok x (List.mem_of_getElem? hx1)).ok
        walk_at "go"
        refine ⟨rfl, ?_⟩
        refine i_bl ?_
        refine i_dec (fun h => ?_) (fun h => ?_)
        · subst h
          exact q _ (Ex.refl _)
        · walk_at "go"
          have hv : OkV x := hok1.resolve_left h
          have e3 : dashV x = x := by cases x <;> first | rfl | exact absurd rfl h
          have := q _ (Ex.refl _)
          rw [e3] at this
          exact i_sV hv this
      · have e4 : (xs.map fun v => V.str (sV (dashV v))) = ((xs.map dashV).map sV).map V.str := by rw [List.map_map, List.map_map]; rfl
        rw [e4] at g2
        walk_at "go"
        refine i_join g2 (join_ok (fun v hv => ?_) (by rw [List.length_map]; exact hl) (by decide +kernel)) ?_
        · obtain ⟨u, hu, rfl⟩ := List.mem_map.mp hv
          exact dash_ok (hok u hu).ok
        · have := kq H3 (by walk_at "ex")
          rw [List.map_map]
          exact this
theorem cal__law_joined (T : Txt K mg w) : Cal P w K mg base CX0 2 "_law_joined" sp__law_joined := calOf T.g__law_joined T.d__law_joined (fun _ F => ok__law_joined T F) (fun _ _ _ _ _ _ us hl => match us, hl with | [_], _ => rfl)
theorem u__law_joined {a : Addr} {xs : List V} (h1 : H a = some (.lst xs)) (h2 : ∀ v ∈ xs, IntN v) (h3 : xs.length ≤ 40000) (k : RetV (.str (oneText xs)) H Q) : sp__law_joined [.ref a] H Q E := ⟨a, xs, rfl, h1, h2, h3, k⟩
end
end Pp
-- PpL3
set_option maxRecDepth 100000
set_option maxHeartbeats 4000000
namespace Pp
open PySem PySem.Spec PyProof.Rows L2 Evl
theorem joinL_blank (s : Nat) : ∀ (ps : List (List Nat)) (p : List Nat), TL.joinL [44] ((p :: ps).map fun q => 32 :: q) = 32 :: TL.joinL [44, 32] (p :: ps)
  | [], p => rfl
  | q :: r, p => by
    have ih := joinL_blank s r q
    show (32 :: p) ++ ([44] ++ TL.joinL [44] ((q :: r).map fun q => 32 :: q)) = 32 :: (p ++ ([44, 32] ++ TL.joinL [44, 32] (q :: r)))
    rw [ih]
    simp
theorem scrText_nil (files : Int) : scrText files [] = Str.ofString (toString files) ++ ":" := TL.ext_tl (by
  unfold scrText
  rw [TL.tl_append]
  show _ ++ TL.tl (Txt.join "," []) = _
  rw [TL.join_eq, TL.tl_join]
  exact List.append_nil _)
theorem scrText_cons (files : Int) (c : Cl) (cs : List Cl) : scrText files (c :: cs) = Str.ofString (toString files) ++ ": " ++ Txt.join ", " ((c :: cs).map callText) := TL.ext_tl (by
  unfold scrText
  rw [TL.tl_append, TL.tl_append, TL.tl_append, TL.tl_append, TL.join_eq, TL.join_eq, TL.tl_join, TL.tl_join]
  have e1 : ((c :: cs).map fun c => (" " : Str) ++ callText c).map TL.tl = (TL.tl (callText c) :: cs.map fun c => TL.tl (callText c)).map fun q => 32 :: q := by
    rw [List.map_map, ← List.map_cons (f := fun c => TL.tl (callText c)), List.map_map]
    refine List.map_congr_left fun d _ => ?_
    show TL.tl ((" " : Str) ++ callText d) = _
    rw [TL.tl_append]
    rfl
  have e2 : ((c :: cs).map callText).map TL.tl = TL.tl (callText c) :: cs.map fun c => TL.tl (callText c) := by rw [List.map_map]; rfl
  rw [e1, e2, show TL.tl "," = [44] by decide +kernel, show TL.tl ", " = [44, 32] by decide +kernel, joinL_blank 0, show TL.tl ": " = [58, 32] by decide +kernel, show TL.tl ":" = [58] by decide +kernel]
  simp)
section
variable {P : Program} {w : World} {K : PySem.W.Frag} {mg : Str → Option Value} {base : Heap} {H : Hp} {Q : VK} {E : XK}
theorem lc_idxL {σ : L2.St} {te : TE} {vs : List Nat} {j : Nat} {a : Addr} {xs : List V} (h : H a = some (.lst xs)) (c : List V) (hc : c.length = xs.length) (hz : xs.length ≤ 40000) (hw : ∀ x, wipe ((wipe σ vs).set j (some x)) vs = wipe σ vs)
    (he : ∀ (i : Nat) (x y : V) H1, Ex H H1 → xs[i]? = some x → c[i]? = some y → ∀ Q1 : VK, (∀ H2, Ex H1 H2 → Q1 y H2) → te ((wipe σ vs).set j (some x)) H1 Q1)
    (k : ∀ p H2, H p = none → Ex H H2 → H2 p = some (.lst c) → Q (.ref p) H2) : lcR (gName j) tYes te vs σ Q (Itl K a) H := by
  refine ⟨fun Dl hD => ?_⟩
  refine lc_it (walk_list (K := K) (a := a) (xs := xs)) (fun i H' => H Dl = none ∧ Ex H H' ∧ H' Dl = some (.lst (c.take i))) ⟨hD, Ex.new hD, by rw [List.take_zero]; exact upd_same⟩ (fun i H' _ p => SqL.of (p.2.1 _ _ h)) ?_ (fun H' p => k Dl H' p.1 p.2.1 (by rw [p.2.2, ← hc, List.take_length]))
  rintro i x H1 H2 hi ⟨p0, p1, p2⟩ ⟨rfl, hx⟩
  refine ⟨hw x, ?_⟩
  obtain ⟨y, hy⟩ : ∃ y, c[i]? = some y := ⟨_, List.getElem?_eq_getElem (by omega)⟩
  dsimp only [tYes]
  rw [if_pos rfl]
  have ln : (c.take i).length < sizeLine := by
    rw [List.length_take]
    exact sz_lt (by omega)
  refine he i x y _ p1 hx hy _ fun H4 e4 => ⟨_, e4 _ _ p2, ln, p0, Ex.mut (p1.trans e4) p0, ?_⟩
  rw [upd_same, List.take_succ, hy]
  rfl
abbrev s__law_script_text : Stmt := top 78
abbrev N__law_script_text : List Str := ["_law_files", "_law_calls", "_law_call_here"]
theorem sc__law_script_text : FnScope N__law_script_text ["_law_files", "_law_calls"] (defScope s__law_script_text) := ⟨rfl, rfl, rfl, by decide +kernel, rfl, by decide +kernel, by decide +kernel⟩
def sp__law_script_text : Sp := fun vs H Q _ => ∃ (l : Addr) (as : List Addr) (files : Int) (cs : List Cl), vs = [.int files, .ref l] ∧ H l = some (.lst (as.map V.ref)) ∧ CallsAt H as cs ∧ files.natAbs < 10 ^ 40 ∧ (∀ c ∈ cs, c.Sm) ∧ cs.length ≤ 250 ∧ RetV (.str (scrText files cs)) H Q
theorem ok__law_script_text (T : Txt K mg w) {f : Addr} {fd : FuncData} (F : DefAt K "_law_script_text" "_law_script_text" s__law_script_text f fd) : FnOk P w K mg base CX0 3 f fd ["_law_files", "_law_calls"] sp__law_script_text := by
  refine ok0 F sc__law_script_text (fun vs H Q E h => ?_) (fun cdv A outer s H vs Q E hr h => ?_)
  · walk_at "len"
  · obtain ⟨l, as, files, cs, rfl, hl, hcs, hf, hok, hn, kq⟩ := h
    refine ⟨_, (pss_cons (ps_if (pt_cmpR (op_eqD hr.units) (pv 1) (pe_lst pa_nil) (nomark _)) (pss_one (ps_ret (pe_op op_addS (pe_callTy cr_strI (by rfl) T.b_str (by decide +kernel) (pa_cons (pv 0) pa_nil)) pe_str))) pss_nil)
  (pss_one (ps_ret (pe_op op_addS (pe_op op_addS (pe_callTy cr_strI (by rfl) T.b_str (by decide +kernel) (pa_cons (pv 0) pa_nil)) pe_str) (pe_joinX pe_str (pe_lc (own := [("_law_call_here", 2)]) (g := gName 2) (tt := tYes) rfl sc__law_script_text.nd (pi_list (pv 1)) (blkOk_by (own := [("_law_call_here", 2)]) (N := N__law_script_text) (sc := defScope s__law_script_text) (by decide +kernel)) (fun _ _ _ _ _ => pg_name (i := 2) sc__law_script_text.nd rfl (Or.inl rfl)) (fun _ _ _ _ _ => pts_nil) (fun _ _ _ _ _ => (pe_cal (cal__law_call_text T) hr px0 (pa_cons (pv 2) pa_nil))))))))), ?_⟩
    walk_at "go"
    have hl2 := e _ _ hl
    refine i_eqC hl2 (hcs.ex e) g ?_
    have hnz := numZ_len (by decide : 0 < 40) hf
    rw [← tl_int, ← TL.len_tl] at hnz
    cases cs with
    | nil =>
      walk_at "go"
      refine i_strI (log_lt (sm_ok hf)) ?_
      walk_at "go"
      refine i_catS (by have h2 : (":": Str).length = 1 := rfl; omega) ?_
      rw [scrText_nil] at kq
      exact kq _ (by walk_at "ex")
    | cons c cs =>
      walk_at "go"
      refine i_strI (log_lt (sm_ok hf)) ?_
      walk_at "go"
      refine i_catS (by have h2 : (": ": Str).length = 2 := rfl; omega) ?_
      walk_at "go"
      have hcs2 := hcs.ex e
      refine lc_idxL hl2 (((c :: cs).map callText).map V.str) (by rw [List.length_map, List.length_map, List.length_map, hcs.len]) (by rw [List.length_map, hcs.len]; omega) (fun _ => rfl) (fun i x y H1 e1 hx hy Q1 q => ?_) (fun p2 H3 hp2 e2 g2 => ?_)
      · obtain ⟨pc, c', rfl, hi, hc1, hc2⟩ := hcs2.get hx
        rw [List.map_map, List.getElem?_map, hc1] at hy
        have hy := Option.some.inj hy
        walk_at "go"
        refine u__law_call_text (e1 _ _ hc2) (hok c' (List.mem_of_getElem? hc1)) fun H4 e4 => ?_
        have := q H4 e4
        rw [← hy] at this
        exact this
      · have hw : ∀ x ∈ (c :: cs).map callText, x.length ≤ 200 := fun x hx => by
          obtain ⟨d, hd, rfl⟩ := List.mem_map.mp hx
          exact callText_len (hok d hd)
        have hj := join_len (y := ", ") hw
        have hj2 := sum_le hw
        rw [List.length_map] at hj hj2
        have h1 : (", ": Str).length = 2 := rfl
        have h2 : (": ": Str).length = 2 := rfl
        rw [h1] at hj
        walk_at "go"
        refine i_join g2 (by rw [List.length_map, h1]; omega) ?_
        refine i_catS (by rw [TL.len_tl, TL.tl_append, List.length_append, ← TL.len_tl, ← TL.len_tl]; omega) ?_
        rw [scrText_cons] at kq
        exact kq _ (by walk_at "ex")
theorem cal__law_script_text (T : Txt K mg w) : Cal P w K mg base CX0 3 "_law_script_text" sp__law_script_text := calOf T.g__law_script_text T.d__law_script_text (fun _ F => ok__law_script_text T F) (fun _ _ _ _ _ _ us hl => match us, hl with | [_, _], _ => rfl)
theorem u__law_script_text {l : Addr} {as : List Addr} {files : Int} {cs : List Cl} (h1 : H l = some (.lst (as.map V.ref))) (h2 : CallsAt H as cs) (h3 : files.natAbs < 10 ^ 40) (h4 : ∀ c ∈ cs, c.Sm) (h5 : cs.length ≤ 250) (k : RetV (.str (scrText files cs)) H Q) : sp__law_script_text [.int files, .ref l] H Q E := ⟨l, as, files, cs, rfl, h1, h2, h3, h4, h5, k⟩
end
end Pp
-- PpL4
set_option maxRecDepth 100000
set_option maxHeartbeats 4000000
namespace Pp
open PySem PySem.Spec PyProof.Rows L2 Evl
theorem in_ints {n : Int} : ∀ {g : List Int}, inV (.int n) (g.map V.int) = decide (n ∈ g)
  | [] => rfl
  | x :: r => by
    have ih := in_ints (n := n) (g := r)
    unfold inV at ih ⊢
    rw [List.map_cons, List.any_cons, ih, Bool.eq_iff_iff]
    simp only [Bool.or_eq_true, decide_eq_true_eq, List.mem_cons]
    unfold eqV
    simp only [beq_iff_eq, V.int.injEq]
    first | exact Iff.rfl | exact or_congr eq_comm Iff.rfl
section
variable {P : Program} {w : World} {K : PySem.W.Frag} {mg : Str → Option Value} {base : Heap} {H : Hp} {Q : VK} {E : XK}
abbrev s__law_shown : Stmt := top 80
abbrev N__law_shown : List Str := ["_law_files", "_law_stand_here", "_law_away", "_law_some", "_law_pupil", "_law_at"]
theorem sc__law_shown : FnScope N__law_shown ["_law_files", "_law_stand_here", "_law_away"] (defScope s__law_shown) := ⟨rfl, rfl, rfl, by decide +kernel, rfl, by decide +kernel, by decide +kernel⟩
def sp__law_shown : Sp := fun vs H Q _ => ∃ (ls lg : Addr) (f r : Nat) (st g : List Int), vs = [.int f, .ref ls, .ref lg] ∧ H ls = some (.lst (st.map V.int)) ∧ H lg = some (.lst (g.map V.int)) ∧ (0 < f ∧ f < 10) ∧ r < 1000 ∧ st.length = r * f ∧ g.length ≤ 1000 ∧
  ∀ l (rs : List Addr) H', Ex H H' → H l = none → H' l = some (.lst (rs.map V.ref)) → RowsAt H' rs (shownL f st g) r → Q (.ref l) H'
theorem ok__law_shown (T : Txt K mg w) {f : Addr} {fd : FuncData} (F : DefAt K "_law_shown" "_law_shown" s__law_shown f fd) : FnOk P w K mg base CX0 1 f fd ["_law_files", "_law_stand_here", "_law_away"] sp__law_shown := by
  refine ok0 F sc__law_shown (fun vs H Q E h => ?_) (fun cdv A outer s H vs Q E hr h => ?_)
  · walk_at "len"
  · obtain ⟨ls, lg, fN, r, st, gn, rfl, hls, hlg, ⟨hf1, hf2⟩, hr1, hlen, hgl, kq⟩ := h
    refine ⟨_, (pss_cons (ps_set (i := 3) sc__law_shown.nd rfl (Or.inr rfl) (pe_lc (own := [("_law_pupil", 4)]) (g := gName 4) (tt := tYes) rfl sc__law_shown.nd (pi_list (pv 1)) (blkOk_by (own := [("_law_pupil", 4)]) (N := N__law_shown) (sc := defScope s__law_shown) (by decide +kernel)) (fun _ _ _ _ _ => pg_name (i := 4) sc__law_shown.nd rfl (Or.inl rfl)) (fun _ _ _ _ _ => pts_nil) (fun _ _ _ _ _ => (pe_ifExp (pt_cmpR (op_inK (K := K) rfl) (pv 4) (pv 2) (by rfl)) pe_non (pv 4)))))
  (pss_one (ps_ret (pe_lc (own := [("_law_at", 5)]) (g := gName 5) (tt := tYes) rfl sc__law_shown.nd (pi_range3 rfl T.b_range (pa_cons pe_int (pa_cons (pe_callB cr_len (by rfl) T.b_len PySem.boot_len (pa_cons (pv 3) pa_nil)) (pa_cons (pv 0) pa_nil)))) (blkOk_by (own := [("_law_at", 5)]) (N := N__law_shown) (sc := defScope s__law_shown) (by decide +kernel)) (fun _ _ _ _ _ => pg_name (i := 5) sc__law_shown.nd rfl (Or.inl rfl)) (fun _ _ _ _ _ => pts_nil) (fun _ _ _ _ _ => (pe_slice (sl_listK (K := K) rfl) (pv 3) (po_some (pv 5)) (po_some (pe_op op_add (pv 5) (pv 0))))))))), ?_⟩
    walk_at "go"
    refine lc_intsL hls (pvV gn) (by rw [hlen]; have : r * fN ≤ 1000 * 10 := Nat.mul_le_mul (by omega) (by omega); omega) (fun _ => rfl) (fun z H4 e4 _ Q1 q1 => ?_) (fun l4 H4 hl4 e4 g4 => ?_)
    · have hlg4 := e4 _ _ hlg
      walk_at "go"
      refine i_inL (SqL.of hlg4) rfl (flat_ints _) ?_
      refine i_bl ?_
      rw [in_ints]
      have q2 := q1 _ (Ex.refl _)
      unfold pvV at q2
      refine i_dec (fun h => ?_) (fun h => ?_)
      · rw [if_pos h] at q2
        walk_at "go"
        exact q2
      · rw [if_neg h] at q2
        walk_at "go"
        exact q2
    · walk_at "go"
      have hrg : RgC 0 (((st.map (pvV gn)).length : Nat) : Int) (fN : Int) r := by
        rw [List.length_map, hlen]
        exact rgC_step (by omega) (by omega) (by omega)
      refine i_rg3 hrg ?_
      refine lc_lists (walk_rangeC (lo := 0) (c := (fN : Int)) (n := r)) (fun _ _ => trivial) (shownL fN st gn) (by omega) (fun _ => rfl) (fun i x H5 H6 e5 hi hy => ?_) (fun l7 H7 rs hl7 e7 g7 r7 => ?_)
      · obtain ⟨rfl, rfl⟩ := hy
        refine ⟨Ex.refl _, fun Q1 q1 => ?_⟩
        have g45 := e5 _ _ g4
        walk_at "go"
        refine q1 _ _ (by walk_at "ex") (by assumption) ?_
        rw [← shown_cut]
        assumption
      · exact kq l7 rs H7 (e4.trans e7) (fresh_back e4 hl7) g7 r7
theorem cal__law_shown (T : Txt K mg w) : Cal P w K mg base CX0 1 "_law_shown" sp__law_shown := calOf T.g__law_shown T.d__law_shown (fun _ F => ok__law_shown T F) (fun _ _ _ _ _ _ us hl => match us, hl with | [_, _, _], _ => rfl)
end
end Pp
-- PpL5
set_option maxRecDepth 100000
set_option maxHeartbeats 4000000
/-! The law's own step, in plain Lean. -/
namespace Pp
open PySem PySem.Spec PyProof.Rows L2 Evl
theorem mvn_sur {files rows p : Int} {c : Cl} (b : Bd files rows) (o : c.Ok files) (h0 : 0 ≤ p) (h1 : p < rows * files) : mvn files rows c (mvn files rows c.turn p) = p := by
  have := mvn_turn (c := c.turn) (n := p) b (turn_ok o) h0 h1
  rwa [turn_turn] at this
theorem law_step {files rows : Int} {c : Cl} {st A : List Int} (b : Bd files rows) (o : c.Ok files) (hl : A.length = (rows * files).toNat)
    (h : ∀ j : Nat, j < (rows * files).toNat → A[(mvn files rows c (j : Int)).toNat]? = some (st.getD j 0)) : A = stepL files rows c st := by
  refine List.ext_getElem? fun p => ?_
  by_cases hp : p < (rows * files).toNat
  · have b1 := mvn_bd (c := c.turn) (n := (p : Int)) b (turn_ok o) (by omega) (by omega)
    have s1 := mvn_sur (c := c) (p := (p : Int)) b o (by omega) (by omega)
    have hj : (mvn files rows c.turn (p : Int)).toNat < (rows * files).toNat := by omega
    have g1 := h _ hj
    have g2 := step_get (st := st) b o hj
    rw [Int.toNat_of_nonneg b1.1, s1, Int.toNat_natCast] at g1 g2
    rw [g1, g2]
  · rw [List.getElem?_eq_none (by omega), List.getElem?_eq_none (by rw [step_len]; omega)]
end Pp
-- PpLb
set_option maxRecDepth 100000
set_option maxHeartbeats 4000000
/-! What the law's lines mean, in plain Lean. -/
namespace Pp
open PySem PySem.Spec PyProof.Rows L2 Evl
/-- no blank in it -/
def NoB (z : Str) : Prop := 32 ∉ TL.tl z
theorem split_w {ws : List Str} (hne : ws ≠ []) (h : ∀ w ∈ ws, NoB w) : Txt.split (Txt.join " " ws) " " = ws :=
  TL.split_join (s := 32) (S := []) (by decide +kernel) (by decide +kernel) hne h
theorem noB_int (n : Int) : NoB (Str.ofString (toString n)) := by
  unfold NoB
  rw [tl_int]
  unfold numZ
  split
  · intro h
    rcases List.mem_cons.mp h with h | h
    · cases h
    · exact TL.numL_free (Or.inl (by decide)) h
  · exact TL.numL_free (Or.inl (by decide))
def wordsL : List Str := ["all", "up", "swap", "wheel", "about", "front", "halve", "pair", "others", "fill"]
theorem word_mem (c : Cl) : c.word ∈ wordsL := by cases c <;> simp [wordsL, Cl.word]
theorem noB_words : ∀ w ∈ wordsL, 32 ∉ TL.tl w := by decide +kernel
theorem noB_word (c : Cl) : NoB c.word := noB_words _ (word_mem c)
theorem callText_eq (c : Cl) : callText c = Txt.join " " (c.word :: c.ns.map fun n => Str.ofString (toString n)) := by
  unfold callText
  rw [Cl.vs_wv]
  unfold wv
  rw [List.map_cons, List.map_map]
  rfl
theorem callText_split (c : Cl) : Txt.split (callText c) " " = c.word :: c.ns.map fun n => Str.ofString (toString n) := by
  rw [callText_eq]
  refine split_w (by simp) fun w hw => ?_
  rcases List.mem_cons.mp hw with rfl | hw
  · exact noB_word c
  · obtain ⟨n, _, rfl⟩ := List.mem_map.mp hw
    exact noB_int n
theorem readAll_back : ∀ {ns : List Int}, (∀ n ∈ ns, n.natAbs < 10 ^ 40) → readAll (ns.map fun n => Str.ofString (toString n)) = some ns
  | [], _ => rfl
  | n :: r, h => by
    rw [List.map_cons]
    unfold readAll
    rw [readI_back (h n (by simp)), readAll_back fun m hm => h m (by simp [hm])]
    rfl
theorem clOf_back (c : Cl) : clOf c.word c.ns = some c := by cases c <;> rfl
theorem alone_split : ∀ z ∈ aloneL, Txt.split z " " = [z] := by decide +kernel
theorem words_alone : ∀ w ∈ wordsL, w ∉ aloneL := by decide +kernel
theorem words_with : ∀ w ∈ wordsL, w ∉ withL := by decide +kernel
theorem words_line : ∀ w ∈ wordsL, w ≠ "line" := by decide +kernel
theorem word_alone (c : Cl) : c.word ∉ aloneL := words_alone _ (word_mem c)
theorem word_with (c : Cl) : c.word ∉ withL := words_with _ (word_mem c)
theorem word_line (c : Cl) : c.word ≠ "line" := words_line _ (word_mem c)
/-- a call's text is read -/
theorem parse_call {c : Cl} (h1 : isCallB 3 c.word c.ns = true) (h2 : c.Sm) : parse (callText c) = some (.call c) := by
  have hs := callText_split c
  unfold parse
  rw [hs]
  have ha : callText c ∉ aloneL := fun z => by
    have e := alone_split _ z
    rw [hs] at e
    have e1 : c.word = callText c := (List.cons.inj e).1
    exact word_alone c (e1 ▸ z)
  rw [parseW_call (fun z => word_line c z.1) ha (fun z => word_with c z.1)]
  unfold parseC readC
  rw [hs, readW_yes (readAll_back h2) h1]
  show (clOf c.word c.ns).map Cmd.call = _
  rw [clOf_back]
  rfl
theorem join2 (a b : Str) : a ++ " " ++ b = Txt.join " " [a, b] := by
  rw [TL.join_eq]
  rfl
theorem parse_two {w : Str} {n : Int} (h : w ∈ withL) (hn : n.natAbs < 10 ^ 40) : parse (w ++ " " ++ Str.ofString (toString n)) = some (.one w n) := by
  have hw : NoB w := by
    have : ∀ w ∈ withL, NoB w := by unfold NoB; decide +kernel
    exact this w h
  have hs : Txt.split (w ++ " " ++ Str.ofString (toString n)) " " = [w, Str.ofString (toString n)] := by
    rw [join2]
    refine split_w (by simp) fun v hv => ?_
    simp only [List.mem_cons, List.not_mem_nil, or_false] at hv
    rcases hv with rfl | rfl
    · exact hw
    · exact noB_int n
  unfold parse
  rw [hs, parseW_one (fun z => by cases z.2) (fun z => ?_) h, readI_back hn]
  · rfl
  · have e := alone_split _ z
    rw [hs] at e
    cases (List.cons.inj e).2
theorem parse_line {f r : Int} (hf : f.natAbs < 10 ^ 40) (hr : r.natAbs < 10 ^ 40) : parse ("line " ++ Str.ofString (toString f) ++ " " ++ Str.ofString (toString r)) = some (.begin f r) := by
  have hs : Txt.split ("line " ++ Str.ofString (toString f) ++ " " ++ Str.ofString (toString r)) " " = [("line" : Str), Str.ofString (toString f), Str.ofString (toString r)] := by
    have e : ("line " : Str) ++ Str.ofString (toString f) ++ " " ++ Str.ofString (toString r) = Txt.join " " [("line" : Str), Str.ofString (toString f), Str.ofString (toString r)] := by
      refine TL.ext_tl ?_
      rw [TL.join_eq, TL.tl_join, TL.tl_append, TL.tl_append, TL.tl_append]
      show TL.tl "line " ++ _ ++ _ ++ _ = TL.tl "line" ++ (TL.tl " " ++ (_ ++ (TL.tl " " ++ _)))
      rw [show TL.tl "line " = TL.tl "line" ++ TL.tl " " by decide +kernel]
      simp only [List.append_assoc]
      rfl
    rw [e]
    refine split_w (by simp) fun v hv => ?_
    simp only [List.mem_cons, List.not_mem_nil, or_false] at hv
    rcases hv with rfl | rfl | rfl
    · unfold NoB; decide +kernel
    · exact noB_int f
    · exact noB_int r
  unfold parse
  rw [hs, parseW_line, readI_back hf, readI_back hr]
  rfl
theorem parse_alone {z : Str} (h : z ∈ aloneL) : parse z = some (.alone z) := by
  unfold parse
  rw [alone_split z h]
  refine parseW_alone (fun q => by cases q.2) h
end Pp
-- PpLc
set_option maxRecDepth 100000
set_option maxHeartbeats 4000000
/-! What a command keeps, in plain Lean. -/
namespace Pp
open PySem PySem.Spec PyProof.Rows L2 Evl
/-- a parade that is good, with at most n away -/
def Good (n : Nat) (o : Option Pd) : Prop := ∀ d, o = some d → d.Ok ∧ d.Sm ∧ d.gone.length ≤ n
def CmdOk : Cmd → Prop
  | .call c => c.Sm
  | _ => True
theorem Good.mono {n m : Nat} {o : Option Pd} (h : Good n o) (k : n ≤ m) : Good m o := fun d e => ⟨(h d e).1, (h d e).2.1, Nat.le_trans (h d e).2.2 k⟩
theorem Good.o {n : Nat} {o : Option Pd} (h : Good n o) : ∀ d, o = some d → d.Ok ∧ d.Sm := fun d e => ⟨(h d e).1, (h d e).2.1⟩
theorem Good.ok {n : Nat} {o : Option Pd} (h : Good n o) : ∀ d, o = some d → d.Ok := fun d e => (h d e).1
theorem good_none (n : Nat) : Good n none := fun d e => nomatch e
def Good1 (n : Nat) (d : Pd) : Prop := d.Ok ∧ d.Sm ∧ d.gone.length ≤ n
theorem last_of {l : List Cl} {c : Cl} (h : l.getLast? = some c) : l = l.dropLast ++ [c] := by
  obtain ⟨ys, rfl⟩ := List.getLast?_eq_some_iff.mp h
  rw [List.dropLast_concat]
theorem ans_one {d : Pd} {w : Str} {n : Int} : ans (some d) (.one w n) = (oneA d w n).map fun p => (p.1, some p.2) := rfl
theorem ans_alone {d : Pd} {w : Str} : ans (some d) (.alone w) = (aloneA d w).map fun p => (p.1, some p.2) := rfl
theorem ans_begin {o : Option Pd} {f r : Int} : ans o (.begin f r) = if (f = 2 ∨ f = 3) ∧ 1 ≤ r ∧ r ≤ 100 then some (("ok" : Str), some ⟨f, r, [], [], []⟩) else none := rfl
theorem ans_call {d : Pd} {c : Cl} : ans (some d) (.call c) = if (c.Ok d.files ∧ szOf c ≤ 16) ∧ d.done.length < 200 then some (("ok" : Str), some { d with done := d.done ++ [c], undone := [] }) else none := rfl
theorem good_back {n : Nat} {d : Pd} {c : Cl} (g : Good1 n d) (h : d.done.getLast? = some c) : Good1 n { d with done := d.done.dropLast, undone := d.undone ++ [c] } := by
  obtain ⟨o, s, l⟩ := g
  have e := last_of h
  have hm : ∀ x, x ∈ d.done.dropLast ∨ x = c → x ∈ d.done := fun x hx => by
    rw [e, List.mem_append, List.mem_singleton]
    exact hx
  have hl : d.done.length = d.done.dropLast.length + 1 := by
    have := congrArg List.length e
    rwa [List.length_append] at this
  refine ⟨⟨o.fr, o.rr, fun x hx => o.dn x (hm x (.inl hx)), fun x hx => ?_, ?_, o.gn, o.gi, o.gl⟩, ⟨fun x hx => s.1 x (hm x (.inl hx)), fun x hx => ?_⟩, l⟩
  · rcases List.mem_append.mp hx with hx | hx
    · exact o.un x hx
    · exact o.dn x (hm x (.inr (List.mem_singleton.mp hx)))
  · show d.done.dropLast.length + (d.undone ++ [c]).length ≤ 200
    have := o.ld
    rw [List.length_append, List.length_singleton]
    omega
  · rcases List.mem_append.mp hx with hx | hx
    · exact s.2 x hx
    · exact s.1 x (hm x (.inr (List.mem_singleton.mp hx)))
theorem good_again {n : Nat} {d : Pd} {c : Cl} (g : Good1 n d) (h : d.undone.getLast? = some c) : Good1 n { d with done := d.done ++ [c], undone := d.undone.dropLast } := by
  obtain ⟨o, s, l⟩ := g
  have e := last_of h
  have hm : ∀ x, x ∈ d.undone.dropLast ∨ x = c → x ∈ d.undone := fun x hx => by
    rw [e, List.mem_append, List.mem_singleton]
    exact hx
  have hl : d.undone.length = d.undone.dropLast.length + 1 := by
    have := congrArg List.length e
    rwa [List.length_append] at this
  refine ⟨⟨o.fr, o.rr, fun x hx => ?_, fun x hx => o.un x (hm x (.inl hx)), ?_, o.gn, o.gi, o.gl⟩, ⟨fun x hx => ?_, fun x hx => s.2 x (hm x (.inl hx))⟩, l⟩
  · rcases List.mem_append.mp hx with hx | hx
    · exact o.dn x hx
    · exact o.un x (hm x (.inr (List.mem_singleton.mp hx)))
  · show (d.done ++ [c]).length + d.undone.dropLast.length ≤ 200
    have := o.ld
    rw [List.length_append, List.length_singleton]
    omega
  · rcases List.mem_append.mp hx with hx | hx
    · exact s.1 x hx
    · exact s.2 x (hm x (.inr (List.mem_singleton.mp hx)))
theorem aloneA_good {n : Nat} {d d' : Pd} {w a : Str} (g : Good1 n d) (h : aloneA d w = some (a, d')) : Good1 n d' := by
  unfold aloneA at h
  split at h
  · cases h; exact g
  split at h
  · cases h; exact g
  split at h
  · cases h; exact g
  split at h
  · split at h
    · cases h
    · rename_i c hc
      cases h
      exact good_back g hc
  · split at h
    · cases h
    · rename_i c hc
      cases h
      exact good_again g hc
theorem oneA_good {n : Nat} {d d' : Pd} {w a : Str} {k : Int} (g : Good1 n d) (hn : n < 60) (h : oneA d w k = some (a, d')) : Good1 (n + 1) d' := by
  have up : Good1 (n + 1) d := ⟨g.1, g.2.1, by have := g.2.2; omega⟩
  have hi : ¬ inR d k = false → 0 ≤ k ∧ k < d.rows * d.files := fun z => by
    unfold inR at z
    exact of_decide_eq_true (by simpa using z)
  obtain ⟨o, s, l⟩ := g
  unfold oneA at h
  split at h
  · cases h; exact up
  split at h
  · cases h
  rename_i hin
  have hr := hi hin
  split at h
  · cases h; exact up
  split at h
  · cases h; exact up
  split at h
  · split at h
    · cases h
    · rename_i hk
      cases h
      have hl : (d.gone ++ [k]).length = d.gone.length + 1 := by simp
      refine ⟨⟨o.fr, o.rr, o.dn, o.un, o.ld, ?_, fun x hx => ?_, ?_⟩, s, ?_⟩
      · show (d.gone ++ [k]).Nodup
        rw [List.nodup_append]
        exact ⟨o.gn, by simp, fun a ha b hb => by rw [List.mem_singleton.mp hb]; rintro rfl; exact hk ha⟩
      · rcases List.mem_append.mp hx with hx | hx
        · exact o.gi x hx
        · rw [List.mem_singleton.mp hx]; exact hr
      · show (d.gone ++ [k]).length ≤ 60
        omega
      · show (d.gone ++ [k]).length ≤ n + 1
        omega
  · split at h
    · cases h
      have hl : (d.gone.filter fun x => decide (x ≠ k)).length ≤ d.gone.length := List.length_filter_le ..
      refine ⟨⟨o.fr, o.rr, o.dn, o.un, o.ld, o.gn.filter _, fun x hx => o.gi x (List.mem_filter.mp hx).1, ?_⟩, s, ?_⟩
      · have := o.gl
        show (d.gone.filter fun x => decide (x ≠ k)).length ≤ 60
        omega
      · show (d.gone.filter fun x => decide (x ≠ k)).length ≤ n + 1
        omega
    · cases h
theorem ans_good {n : Nat} {o : Option Pd} {c : Cmd} {p : Str × Option Pd} (g : Good n o) (hn : n < 60) (hc : CmdOk c) (h : ans o c = some p) : Good (n + 1) p.2 := by
  cases c with
  | begin f r =>
    rw [ans_begin] at h
    split at h
    · rename_i hb
      cases h
      intro d e
      cases e
      exact ⟨⟨hb.1, hb.2, (fun _ z => nomatch z), (fun _ z => nomatch z), by simp, by simp, (fun _ z => nomatch z), by simp⟩, ⟨(fun _ z => nomatch z), (fun _ z => nomatch z)⟩, by simp⟩
    · cases h
  | alone w =>
    cases o with
    | none => cases h; exact good_none _
    | some d =>
      have h : (aloneA d w).map (fun p => (p.1, some p.2)) = some p := h
      cases ha : aloneA d w with
      | none => rw [ha] at h; cases h
      | some q =>
        rw [ha] at h
        cases h
        intro d' e
        cases e
        have := aloneA_good (g d rfl) (a := q.1) (d' := q.2) ha
        exact ⟨this.1, this.2.1, by have := this.2.2; omega⟩
  | one w k =>
    cases o with
    | none => cases h; exact good_none _
    | some d =>
      have h : (oneA d w k).map (fun p => (p.1, some p.2)) = some p := h
      cases ha : oneA d w k with
      | none => rw [ha] at h; cases h
      | some q =>
        rw [ha] at h
        cases h
        intro d' e
        cases e
        exact oneA_good (g d rfl) hn (a := q.1) (d' := q.2) ha
  | call c =>
    cases o with
    | none => cases h; exact good_none _
    | some d =>
      obtain ⟨o, s, l⟩ := g d rfl
      rw [ans_call] at h
      split at h
      · rename_i hb
        cases h
        intro d' e
        cases e
        refine ⟨⟨o.fr, o.rr, fun x hx => ?_, (fun _ z => nomatch z), ?_, o.gn, o.gi, o.gl⟩, ⟨fun x hx => ?_, (fun _ z => nomatch z)⟩, by show d.gone.length ≤ n + 1; omega⟩
        · rcases List.mem_append.mp hx with hx | hx
          · exact o.dn x hx
          · rw [List.mem_singleton.mp hx]; exact hb.1.1
        · show (d.done ++ [c]).length + ([] : List Cl).length ≤ 200
          have := hb.2
          simp
          omega
        · rcases List.mem_append.mp hx with hx | hx
          · exact s.1 x hx
          · rw [List.mem_singleton.mp hx]; exact hc
      · cases h
theorem exec_good {n : Nat} {o : Option Pd} {c : Cmd} (g : Good n o) (hn : n < 60) (hc : CmdOk c) : Good (n + 1) (exec o c).2 := by
  cases ha : ans o c with
  | none => rw [exec_none ha]; exact g.mono (by omega)
  | some p => rw [exec_some ha]; exact ans_good g hn hc ha
/-- a question changes nothing -/
theorem exec_ask {o : Option Pd} {w : Str} (h : w = "away" ∨ w = "script" ∨ w = "home") : (exec o (.alone w)).2 = o := by
  cases o with
  | none => rfl
  | some d =>
    rcases h with rfl | rfl | rfl <;> rfl
theorem exec_ask1 {o : Option Pd} {w : Str} {n : Int} (h : w = "where" ∨ w = "mates" ∨ w = "row") : (exec o (.one w n)).2 = o := by
  cases o with
  | none => rfl
  | some d =>
    by_cases hr : 0 ≤ n ∧ n < d.rows * d.files
    · rcases h with rfl | rfl | rfl
      · rw [exec_some (show ans (some d) (.one "where" n) = some (placeT d n, some d) by show (oneA d "where" n).map _ = _; rw [oneA_where hr]; rfl)]
      · rw [exec_some (show ans (some d) (.one "mates" n) = some (matesT d n, some d) by show (oneA d "mates" n).map _ = _; rw [oneA_mates hr]; rfl)]
      · rw [exec_some (show ans (some d) (.one "row" n) = some ((if 0 ≤ n ∧ n < d.rows then oneText (shownL d.files.toNat d.st d.gone n.toNat) else "refused"), some d) by rw [ans_one, oneA_row]; rfl)]
    · rcases h with rfl | rfl | rfl
      · rw [exec_none (show ans (some d) (.one "where" n) = none by show (oneA d "where" n).map _ = _; rw [oneA_out hr (by decide)]; rfl)]
      · rw [exec_none (show ans (some d) (.one "mates" n) = none by show (oneA d "mates" n).map _ = _; rw [oneA_out hr (by decide)]; rfl)]
      · rw [exec_some (show ans (some d) (.one "row" n) = some ((if 0 ≤ n ∧ n < d.rows then oneText (shownL d.files.toNat d.st d.gone n.toNat) else "refused"), some d) by rw [ans_one, oneA_row]; rfl)]
end Pp
-- PpL6
set_option maxRecDepth 100000
set_option maxHeartbeats 4000000
namespace Pp
open PySem PySem.Spec PyProof.Rows L2 Evl
section
variable {P : Program} {w : World} {K : PySem.W.Frag} {mg : Str → Option Value} {base : Heap} {H : Hp} {Q : VK} {E : XK}
abbrev s__law_stand : Stmt := top 79
abbrev N__law_stand : List Str := ["_law_files", "_law_rows", "_law_calls", "_law_found", "_law_call_here", "_law_later", "_law_number", "_law_row", "_law_file"]
theorem sc__law_stand : FnScope N__law_stand ["_law_files", "_law_rows", "_law_calls"] (defScope s__law_stand) := ⟨rfl, rfl, rfl, by decide +kernel, rfl, by decide +kernel, by decide +kernel⟩
def sp__law_stand : Sp := fun vs H Q _ => ∃ (l : Addr) (as : List Addr) (files rows : Int) (cs : List Cl), vs = [.int files, .int rows, .ref l] ∧ H l = some (.lst (as.map V.ref)) ∧ CallsAt H as cs ∧ Bd files rows ∧ (∀ c ∈ cs, c.Ok files) ∧ cs.length ≤ 250 ∧
  ∀ p H', Ex H H' → H p = none → H' p = some (.lst ((standL files rows cs).map V.int)) → Q (.ref p) H'
theorem ok__law_stand (T : Txt K mg w) {f : Addr} {fd : FuncData} (F : DefAt K "_law_stand" "_law_stand" s__law_stand f fd) : FnOk P w K mg base CX0 3 f fd ["_law_files", "_law_rows", "_law_calls"] sp__law_stand := by
  refine ok0 F sc__law_stand (fun vs H Q E h => ?_) (fun cdv A outer s H vs Q E hr h => ?_)
  · walk_at "len"
  · obtain ⟨l, as, files, rows, cs, rfl, hl, hcs, hb, hok, hn, kq⟩ := h
    have hm := bd_mul hb
    obtain ⟨⟨b1, b2⟩, b3, b4⟩ := id hb
    refine ⟨_, (pss_cons (ps_set (i := 3) sc__law_stand.nd rfl (Or.inl rfl) (pe_listRg rfl (by rfl) T.b_list (prg_1 (by rfl) T.b_range (pe_op op_mul (pv 0) (pv 1)))))
  (pss_cons (ps_for PassesOwn.never rfl (pi_list (pv 2)) (pg_name (i := 4) sc__law_stand.nd rfl (Or.inl rfl))
  (pss_cons (ps_set (i := 5) sc__law_stand.nd rfl (Or.inl rfl) (pe_callTy cr_list (by rfl) T.b_list (by decide +kernel) (pa_cons (pv 3) pa_nil)))
  (pss_cons (ps_for PassesOwn.never rfl (pi_range1 rfl T.b_range (pa_cons (pe_op op_mul (pv 0) (pv 1)) pa_nil)) (pg_name (i := 6) sc__law_stand.nd rfl (Or.inl rfl))
  (pss_cons (ps_asg (pe_cal (cal__law_goes T) hr px0 (pa_cons (pv 4) (pa_cons (pv 0) (pa_cons (pv 1) (pa_cons (pe_tup (pa_cons (pe_op op_fdiv (pv 6) (pv 0)) (pa_cons (pe_op op_sub (pv 6) (pe_op op_mul (pv 0) (pe_op op_fdiv (pv 6) (pv 0)))) pa_nil))) pa_nil))))) (pg_tup (by rfl) (pgs_cons (pg_name (i := 7) sc__law_stand.nd rfl (Or.inl rfl)) (pgs_cons (pg_name (i := 8) sc__law_stand.nd rfl (Or.inl rfl)) pgs_nil))))
  (pss_one (ps_asg (pe_ix ix_list (pv 3) (pv 6) (fun _ _ => rfl)) (pg_sub (pv 5) (pe_op op_add (pe_op op_mul (pv 7) (pv 0)) (pv 8)) set_list)))))
  (pss_one (ps_set (i := 3) sc__law_stand.nd rfl (Or.inl rfl) (pv 5))))))
  (pss_one (ps_ret (pv 3))))), ?_⟩
    walk_at "go"
    have hcm : files * rows = rows * files := Int.mul_comm _ _
    rw [hcm]
    refine i_rg ⟨by omega, by omega⟩ rfl ?_
    walk_at "go"
    have g0 : H2 p = some (.lst ((standL files rows []).map V.int)) := by
      rw [g]
      show _ = some (HO.lst ((home (rows * files).toNat).map V.int))
      rw [home_rg]
    refine fr_L (xs := as.map V.ref) (fun i σ H' => ∃ pf o4 o5 o6 o7 o8, σ = [some (.int files), some (.int rows), some (.ref l), some (.ref pf), o4, o5, o6, o7, o8] ∧ Ex H H' ∧ H pf = none ∧ H' pf = some (.lst ((standL files rows (cs.take i)).map V.int))) ?_ ?_ ?_ ?_
    · exact ⟨p, _, _, _, _, _, rfl, by walk_at "ex", by assumption, g0⟩
    · rintro i σ H' hi ⟨pf, o4, o5, o6, o7, o8, _, e', _⟩
      exact e' _ _ hl
    · rintro i x σ H' hx ⟨pf, o4, o5, o6, o7, o8, rfl, e', n1, n2⟩
      obtain ⟨pc, c, rfl, hi, hc1, hc2⟩ := hcs.get hx
      have hc3 := e' _ _ hc2
      have hco := hok c (List.mem_of_getElem? hc1)
      walk_at "go"
      refine ⟨files * rows, rfl, by omega, by omega, ?_⟩
      rw [hcm]
      revert p H2
      intro pl H2 hpl e2 g2
      generalize hst : standL files rows (cs.take i) = st at n2 g2
      have hsl : st.length = (rows * files).toNat := by rw [← hst]; exact stand_len
      have hplH : H pl = none := fresh_back e' hpl
      have hpf2 := e2 _ _ n2
      refine fr_R (fun j σ H' => ∃ o6 o7 o8 A, σ = [some (.int files), some (.int rows), some (.ref l), some (.ref pf), some (.ref pc), some (.ref pl), o6, o7, o8] ∧ Ex H H' ∧ H' pf = some (.lst (st.map V.int)) ∧ H' pl = some (.lst ((A : List Int).map V.int)) ∧ H' pc = some (.tup c.vs) ∧ A.length = (rows * files).toNat ∧
        ∀ k : Nat, k < j → A[(mvn files rows c (k : Int)).toNat]? = some (st.getD k 0)) ?_ ?_ ?_
      · exact ⟨_, _, _, st, rfl, by walk_at "ex", hpf2, g2, by walk_at "tx", hsl, fun k hk => absurd hk (Nat.not_lt_zero _)⟩
      · rintro j σ H' hj ⟨o6, o7, o8, A, rfl, e3, k1, k2, k3, k4, k5⟩
        walk_at "go"
        have hpl1 : Pl files rows ((j : Int) / files, (j : Int) % files) := pl_of hb (by omega) (by omega)
        have hem : (j : Int) - files * ((j : Int) / files) = (j : Int) % files := (Int.emod_def _ _).symm
        rw [hem] at g
        refine u__law_goes (by walk_at "tx") hco g hb hpl1 fun q H4 e4 g4 => ?_
        unfold plV at g4
        have hmb := mvn_bd (c := c) (n := (j : Int)) hb hco (by omega) (by omega)
        have hqq := mv_pl hb hco hpl1
        have k1' := e4 _ _ (e _ _ k1)
        have k2' := e4 _ _ (e _ _ k2)
        have hij : atI (st.map V.int) (j : Int) = some (.int (st.getD j 0)) := atI_at (by
          rw [List.getElem?_map, List.getD_eq_getElem?_getD, List.getElem?_eq_getElem (by omega)]
          rfl)
        walk_at "go"
        have hmb : 0 ≤ mvn files rows c (j : Int) ∧ mvn files rows c (j : Int) < rows * files := hmb
        refine i_setL (j := (mvn files rows c (j : Int)).toNat) k2' (by show mvn files rows c (j : Int) = _; omega) (by rw [List.length_map, k4]; omega) fun H5 hU => ?_
        have hpc4 := e4 _ _ (e _ _ k3)
        have npf : pf ≠ pl := fun z => by rw [z] at n2; rw [hpl] at n2; cases n2
        have npc : pc ≠ pl := fun z => by rw [z] at hc3; rw [hpl] at hc3; cases hc3
        refine ⟨_, _, _, A.set (mvn files rows c (j : Int)).toNat (st.getD j 0), rfl, hU ▸ Ex.mut ((e3.trans e).trans e4) hplH, put_o hU k1' npf, ?_, put_o hU hpc4 npc, by rw [List.length_set, k4], fun k hk => ?_⟩
        · rw [← hU, upd_same, List.map_set]
        · by_cases hkj : k = j
          · subst hkj
            rw [List.getElem?_set_self (by rw [k4]; omega)]
          · have hne : (mvn files rows c (j : Int)).toNat ≠ (mvn files rows c (k : Int)).toNat := fun z => hkj (by
              have i1 := moves_inj (c := c) hb hco k j (by rw [moves_len]; omega) (by rw [moves_len]; omega)
              rw [moves_at (by omega), moves_at (by omega)] at i1
              exact i1 z.symm)
            rw [List.getElem?_set_ne hne]
            exact k5 k (by omega)
      · rintro σ H' ⟨o6, o7, o8, A, rfl, e3, k1, k2, k3, k4, k5⟩
        walk_at "go"
        refine ⟨pl, _, _, _, _, _, rfl, e3, hplH, ?_⟩
        rw [k2, law_step hb hco k4 k5, List.take_succ, hc1, ← hst]
        show _ = some (HO.lst ((standL files rows (cs.take i ++ [c])).map V.int))
        rw [stand_snoc]
    · rintro σ H' ⟨pf, o4, o5, o6, o7, o8, rfl, e', n1, n2⟩
      walk_at "go"
      refine kq _ _ e' n1 ?_
      rw [n2, List.length_map, hcs.len, List.take_length]
theorem cal__law_stand (T : Txt K mg w) : Cal P w K mg base CX0 3 "_law_stand" sp__law_stand := calOf T.g__law_stand T.d__law_stand (fun _ F => ok__law_stand T F) (fun _ _ _ _ _ _ us hl => match us, hl with | [_, _, _], _ => rfl)
end
end Pp
-- PpL7
set_option maxRecDepth 100000
set_option maxHeartbeats 4000000
namespace Pp
open PySem PySem.Spec PyProof.Rows L2 Evl
theorem wr_of {H H2 : Hp} {a : Addr} {o u : HO} (hU : upd H a o = H2) (h : H a = some u) (nt : ∀ xs, u ≠ .tup xs) : Ext [a] H H2 ∧ H2 a = some o ∧ ∀ b o, b ≠ a → H b = some o → H2 b = some o := by
  subst hU
  exact ⟨Ext.put h nt (List.Mem.head _), upd_same, fun b o hb e => by rw [upd_ne hb]; exact e⟩
/-- the law's own state at st -/
def StateAt (K : PySem.W.Frag) (H : Hp) (st : Addr) (fp : List Addr) : Option Pd → Prop
  | none => fp = [] ∧ H st = some (.lst [])
  | some d => ∃ l1 l2 l3 as1 as2, fp = [l1, l2, l3] ∧ [st, l1, l2, l3].Nodup ∧ H st = some (.lst [.int d.files, .int d.rows, .ref l1, .ref l2, .ref l3]) ∧ H l1 = some (.lst (as1.map V.ref)) ∧ CallsAt H as1 d.done ∧ H l2 = some (.lst (as2.map V.ref)) ∧ CallsAt H as2 d.undone ∧ H l3 = some (.lst (d.gone.map V.int))
theorem StateAt.ext {K : PySem.W.Frag} {G : List Addr} {H H' : Hp} {st : Addr} {fp : List Addr} {o : Option Pd} (h : StateAt K H st fp o) (e : Ext G H H') (n : ∀ b ∈ st :: fp, b ∉ G) : StateAt K H' st fp o := by
  cases o with
  | none => exact ⟨h.1, e.keep _ _ h.2 (n _ (by simp))⟩
  | some d =>
    obtain ⟨l1, l2, l3, as1, as2, rfl, nd, h1, h2, h3, h4, h5, h6⟩ := h
    exact ⟨l1, l2, l3, as1, as2, rfl, nd, e.keep _ _ h1 (n _ (by simp)), e.keep _ _ h2 (n _ (by simp)), h3.ext e, e.keep _ _ h4 (n _ (by simp)), h5.ext e, e.keep _ _ h6 (n _ (by simp))⟩
theorem StateAt.ex {K : PySem.W.Frag} {H H' : Hp} {st : Addr} {fp : List Addr} {o : Option Pd} (h : StateAt K H st fp o) (e : Ex H H') : StateAt K H' st fp o := h.ext (exExt (G := []) e) fun _ _ z => nomatch z
section
variable {P : Program} {w : World} {K : PySem.W.Frag} {mg : Str → Option Value} {base : Heap} {H : Hp} {Q : VK} {E : XK}
theorem i_eqSt {st b : Addr} {fp : List Addr} {o : Option Pd} (h : StateAt K H st fp o) (h' : H b = some (.lst [])) (k : Q (.bl o.isNone) H) : rEqD K (.ref st) (.ref b) H Q := by
  cases o with
  | none => exact i_eqE (n := 5) h.2 .nil (Sh.mono (Sh.list (n := 0) fun _ z => nomatch z) (by decide)) (by decide) h' k
  | some d =>
    obtain ⟨l1, l2, l3, as1, as2, rfl, nd, h1, h2, h3, h4, h5, h6⟩ := h
    refine i_eqE (n := 5) h1 (.cons (.int _) (.cons (.int _) (.cons (.lst (SqL.of h2) (dpCalls h3)) (.cons (.lst (SqL.of h4) (dpCalls h5)) (.cons (.lst (SqL.of h6) dpInts) .nil))))) (Sh.list fun d hd => ?_) (by decide) h' k
    simp only [List.mem_cons, List.not_mem_nil, or_false] at hd
    rcases hd with rfl | rfl | rfl | rfl | rfl
    · exact sh_int
    · exact sh_int
    · exact (shCalls _).mono (by decide)
    · exact (shCalls _).mono (by decide)
    · exact Sh.mono (Sh.list (n := 1) fun d hd => by
        obtain ⟨i, _, rfl⟩ := List.mem_map.mp hd
        exact sh_int) (by decide)
abbrev s__law_undone : Stmt := top 85
abbrev N__law_undone : List Str := ["_law_state", "_law_at"]
theorem sc__law_undone : FnScope N__law_undone ["_law_state", "_law_at"] (defScope s__law_undone) := ⟨rfl, rfl, rfl, by decide +kernel, rfl, by decide +kernel, by decide +kernel⟩
def backW (at' : Int) : Str := if at' = 0 then "back" else "again"
def sp__law_undone (K : PySem.W.Frag) : Sp := fun vs H Q _ => ∃ (st : Addr) (fp : List Addr) (o : Option Pd) (a : Int), vs = [.ref st, .int a] ∧ (a = 0 ∨ a = 1) ∧ StateAt K H st fp o ∧ (∀ d, o = some d → d.Ok ∧ d.Sm) ∧
  ∀ fp' H', Ext (st :: fp) H H' → (∀ b ∈ fp', b ∈ fp ∨ H b = none) → StateAt K H' st fp' (exec o (.alone (backW a))).2 → Q (.str (exec o (.alone (backW a))).1) H'
theorem ok__law_undone (T : Txt K mg w) {f : Addr} {fd : FuncData} (F : DefAt K "_law_undone" "_law_undone" s__law_undone f fd) : FnOk P w K mg base CX0 3 f fd ["_law_state", "_law_at"] (sp__law_undone K) := by
  refine ok0 F sc__law_undone (fun vs H Q E h => ?_) (fun cdv A outer s H vs Q E hr h => ?_)
  · walk_at "len"
  · obtain ⟨st, fp, o, a, rfl, ha, hS, hO, kq⟩ := h
    refine ⟨_, (pss_cons (ps_if (PW.pt (pw_or (pt_cmpR (op_eqD hr.units) (pv 0) (pe_lst pa_nil) (nomark _)) (pw_or1 (pt_cmpR (op_eqD hr.units) (pe_ix ix_list (pv 0) (pe_op op_add pe_int (pv 1)) (fun _ _ => rfl)) (pe_lst pa_nil) (nomark _))))) (pss_one (ps_ret pe_str)) pss_nil)
  (pss_cons (ps_expr (pe_bm PySem.F.plainAttrs_list PySem.F.slot_list_append PySem.F.type_list_append mt_append (pe_ix ix_list (pv 0) (pe_op op_sub pe_int (pv 1)) (fun _ _ => rfl)) (pa_cons (pe_bm0 PySem.F.plainAttrs_list PySem.F.slot_list_pop PySem.F.type_list_pop mt_pop (pe_ix ix_list (pv 0) (pe_op op_add pe_int (pv 1)) (fun _ _ => rfl))) pa_nil)))
  (pss_one (ps_ret (pe_cal (cal__law_call_text T) hr px0 (pa_cons (pe_ix ix_list (pe_ix ix_list (pv 0) (pe_op op_sub pe_int (pv 1)) (fun _ _ => rfl)) (pe_un un_neg pe_int) (fun _ _ => rfl)) pa_nil)))))), ?_⟩
    walk_at "go"
    refine i_eqSt (hS.ex e) g ?_
    cases o with
    | none =>
      walk_at "go"
      exact kq fp _ (exExt (by walk_at "ex")) (fun b hb => .inl hb) (hS.ex (by walk_at "ex"))
    | some d =>
      obtain ⟨l1, l2, l3, as1, as2, rfl, nd, h1, h2, h3, h4, h5, h6⟩ := hS.ex e
      obtain ⟨o1, o2⟩ := hO d rfl
      have e0 := e
      have hnd := nd
      simp only [List.nodup_cons, List.mem_cons, List.not_mem_nil, or_false, not_or] at nd
      obtain ⟨⟨n01, n02, n03⟩, ⟨n12, n13⟩, n23, _⟩ := nd
      rcases ha with rfl | rfl
      · walk_at "go"
        have h2' := e _ _ h2
        refine i_eqC h2' (h3.ex e) g ?_
        rcases List.eq_nil_or_concat d.done with hz | ⟨cs, c, hz⟩
        · rw [hz]
          walk_at "go"
          have := kq [l1, l2, l3] H2 (exExt (by walk_at "ex")) (fun b hb => .inl hb)
          rw [exec_none (show ans (some d) (.alone (backW 0)) = none by show (aloneA d "back").map _ = none; rw [aloneA_back0 hz]; rfl)] at this
          exact this (hS.ex (by walk_at "ex"))
        · rw [List.concat_eq_append] at hz
          have hem : d.done.isEmpty = false := by rw [hz]; simp
          rw [hem]
          have hcs := h3.ex e
          rw [hz] at hcs
          obtain ⟨bs, bq, rfl, hb1, hb2⟩ := CallsAt.unsnoc hcs
          rw [List.map_append] at h2'
          walk_at "go"
          refine i_pop h2' ?_
          refine i_nil ?_
          generalize hU3 : upd H2 l1 _ = H3
          obtain ⟨x3, g3, k3⟩ := wr_of hU3 h2' (by intro _ z; cases z)
          have h43 := k3 _ _ (by walk_at "nm") (e _ _ h4)
          walk_at "go"
          refine i_app h43 (by rw [List.length_map, h5.len]; have := o1.ld; omega) ?_
          generalize hU4 : upd H3 l2 _ = H4
          obtain ⟨x4, g4, k4⟩ := wr_of hU4 h43 (by intro _ z; cases z)
          have h14 := k4 _ _ (by walk_at "nm") (k3 _ _ (by walk_at "nm") (e _ _ h1))
          walk_at "go"
          refine i_ixL (SqL.of g4) (atI_last (v := V.ref bq) (by simp)) (i_nil ?_)
          have E4 : Ext [st, l1, l2, l3] H H4 := (Ext.xr (e0.trans e) (x3.mono (by simp))).trans (x4.mono (by simp))
          have X4 : Ext [l1, l2] H2 H4 := (x3.mono (by simp)).trans (x4.mono (by simp))
          refine u__law_call_text (X4.tup _ _ hb2) (o2.1 c (by rw [hz]; simp)) fun H5 e5 => ?_
          have := kq [l1, l2, l3] H5 (E4.xl e5) (fun b hb => .inl hb)
          rw [exec_some (show ans (some d) (.alone (backW 0)) = some (callText c, some { d with done := cs, undone := d.undone ++ [c] }) by rw [ans_alone]; show (aloneA d "back").map _ = _; rw [aloneA_back hz]; rfl)] at this
          refine this ⟨l1, l2, l3, bs, as2 ++ [bq], rfl, hnd, e5 _ _ h14, e5 _ _ (k4 _ _ (by walk_at "nm") g3), (hb1.ext X4).ex e5, e5 _ _ (by rw [g4, List.map_append]; rfl), ((h5.ex e).snoc hb2).ext X4 |>.ex e5, e5 _ _ (k4 _ _ (by walk_at "nm") (k3 _ _ (by walk_at "nm") (e _ _ h6)))⟩
      · walk_at "go"
        have h4' := e _ _ h4
        refine i_eqC h4' (h5.ex e) g ?_
        rcases List.eq_nil_or_concat d.undone with hz | ⟨cs, c, hz⟩
        · rw [hz]
          walk_at "go"
          have := kq [l1, l2, l3] H2 (exExt (by walk_at "ex")) (fun b hb => .inl hb)
          rw [exec_none (show ans (some d) (.alone (backW 1)) = none by show (aloneA d "again").map _ = none; rw [aloneA_again0 hz]; rfl)] at this
          exact this (hS.ex (by walk_at "ex"))
        · rw [List.concat_eq_append] at hz
          have hem : d.undone.isEmpty = false := by rw [hz]; simp
          rw [hem]
          have hcs := h5.ex e
          rw [hz] at hcs
          obtain ⟨bs, bq, rfl, hb1, hb2⟩ := CallsAt.unsnoc hcs
          rw [List.map_append] at h4'
          walk_at "go"
          refine i_pop h4' ?_
          refine i_nil ?_
          generalize hU3 : upd H2 l2 _ = H3
          obtain ⟨x3, g3, k3⟩ := wr_of hU3 h4' (by intro _ z; cases z)
          have h43 := k3 _ _ (by walk_at "nm") (e _ _ h2)
          walk_at "go"
          refine i_app h43 (by rw [List.length_map, h3.len]; have := o1.ld; omega) ?_
          generalize hU4 : upd H3 l1 _ = H4
          obtain ⟨x4, g4, k4⟩ := wr_of hU4 h43 (by intro _ z; cases z)
          have h14 := k4 _ _ (by walk_at "nm") (k3 _ _ (by walk_at "nm") (e _ _ h1))
          walk_at "go"
          refine i_ixL (SqL.of g4) (atI_last (v := V.ref bq) (by simp)) (i_nil ?_)
          have E4 : Ext [st, l1, l2, l3] H H4 := (Ext.xr (e0.trans e) (x3.mono (by simp))).trans (x4.mono (by simp))
          have X4 : Ext [l1, l2] H2 H4 := (x3.mono (by simp)).trans (x4.mono (by simp))
          refine u__law_call_text (X4.tup _ _ hb2) (o2.2 c (by rw [hz]; simp)) fun H5 e5 => ?_
          have := kq [l1, l2, l3] H5 (E4.xl e5) (fun b hb => .inl hb)
          rw [exec_some (show ans (some d) (.alone (backW 1)) = some (callText c, some { d with done := d.done ++ [c], undone := cs }) by rw [ans_alone]; show (aloneA d "again").map _ = _; rw [aloneA_again hz]; rfl)] at this
          refine this ⟨l1, l2, l3, as1 ++ [bq], bs, rfl, hnd, e5 _ _ h14, e5 _ _ (by rw [g4, List.map_append]; rfl), ((h3.ex e).snoc hb2).ext X4 |>.ex e5, e5 _ _ (k4 _ _ (by walk_at "nm") g3), (hb1.ext X4).ex e5, e5 _ _ (k4 _ _ (by walk_at "nm") (k3 _ _ (by walk_at "nm") (e _ _ h6)))⟩
theorem cal__law_undone (T : Txt K mg w) : Cal P w K mg base CX0 3 "_law_undone" (sp__law_undone K) := calOf T.g__law_undone T.d__law_undone (fun _ F => ok__law_undone T F) (fun _ _ _ _ _ _ us hl => match us, hl with | [_, _], _ => rfl)
end
end Pp
-- PpL8
set_option maxRecDepth 100000
set_option maxHeartbeats 4000000
namespace Pp
open PySem PySem.Spec PyProof.Rows L2 Evl
/-- the files that a call names -/
def Cl.nm : Cl → List Int
  | .up f _ => [f] | .swap f g => [f, g] | .wheel f g _ => [f, g] | .front f g => [f, g] | _ => []
theorem nm_ok {c : Cl} {files : Int} (h : c.Ok 3) : c.Ok files ↔ c.nm.filter (fun x => decide (files ≤ x)) = [] := by
  cases c <;> simp [Cl.Ok, Cl.nm] at h ⊢ <;> omega
theorem sh_ints {ns : List Int} : Sh 2 (.list (ns.map PyData.int)) := Sh.mono (Sh.list (n := 1) fun d hd => by
  obtain ⟨i, _, rfl⟩ := List.mem_map.mp hd
  exact sh_int) (by decide)
section
variable {P : Program} {w : World} {K : PySem.W.Frag} {mg : Str → Option Value} {base : Heap} {H : Hp} {Q : VK} {E : XK}
abbrev s__law_called : Stmt := top 84
abbrev N__law_called : List Str := ["_law_state", "_law_call_here", "_law_named", "_law_one_here"]
theorem sc__law_called : FnScope N__law_called ["_law_state", "_law_call_here"] (defScope s__law_called) := ⟨rfl, rfl, rfl, by decide +kernel, rfl, by decide +kernel, by decide +kernel⟩
def sp__law_called (K : PySem.W.Frag) : Sp := fun vs H Q _ => ∃ (st aC : Addr) (fp : List Addr) (o : Option Pd) (c : Cl), vs = [.ref st, .ref aC] ∧ H aC = some (.tup c.vs) ∧ c.Ok 3 ∧ StateAt K H st fp o ∧ (∀ d, o = some d → d.Ok) ∧
  ∀ fp' H', Ext (st :: fp) H H' → (∀ b ∈ fp', b ∈ fp ∨ H b = none) → StateAt K H' st fp' (exec o (.call c)).2 → Q (.str (exec o (.call c)).1) H'
theorem ok__law_called (T : Txt K mg w) {f : Addr} {fd : FuncData} (F : DefAt K "_law_called" "_law_called" s__law_called f fd) : FnOk P w K mg base CX0 1 f fd ["_law_state", "_law_call_here"] (sp__law_called K) := by
  refine ok0 F sc__law_called (fun vs H Q E h => ?_) (fun cdv A outer s H vs Q E hr h => ?_)
  · walk_at "len"
  · obtain ⟨st, aC, fp, o, c, rfl, hc, hok, hS, hO, kq⟩ := h
    refine ⟨_, (pss_cons (ps_set (i := 2) sc__law_called.nd rfl (Or.inl rfl) (pe_ifExp (pt_cmpR op_eq (pe_ix ix_tup (pv 1) pe_int (fun _ _ => rfl)) pe_str (nomark _)) (pe_lst pa_nil) (pe_callTy cr_list (by rfl) T.b_list (by decide +kernel) (pa_cons (pe_slice sl_tupA (pv 1) (po_some pe_int) (po_some (pe_op op_add pe_int (pe_callTy cr_int (by rfl) T.b_int (by decide +kernel) (pa_cons (pe_cmpR op_ne (pe_ix ix_tup (pv 1) pe_int (fun _ _ => rfl)) pe_str (nomark _)) pa_nil))))) pa_nil))))
  (pss_cons (ps_if (PW.pt (pw_or (pt_cmpR (op_eqD hr.units) (pv 0) (pe_lst pa_nil) (nomark _)) (pw_or (pt_cmpR op_gt (pe_callB cr_len (by rfl) T.b_len PySem.boot_len (pa_cons (pe_ix ix_list (pv 0) pe_int (fun _ _ => rfl)) pa_nil)) pe_int (nomark _)) (pw_or1 (pt_cmpR (op_neD hr.units) (pe_lc (own := [("_law_one_here", 3)]) (g := gName 3) rfl sc__law_called.nd (pi_list (pv 2)) (blkOk_by (own := [("_law_one_here", 3)]) (N := N__law_called) (sc := defScope s__law_called) (by decide +kernel)) (fun _ _ _ _ _ => pg_name (i := 3) sc__law_called.nd rfl (Or.inl rfl)) (fun _ _ _ _ _ => pts_one (pt_cmpR op_ge (pv 3) (pe_ix (ix_listK (K := K) rfl) (pv 0) pe_int (fun _ _ => rfl)) (nomark _))) (fun _ _ _ _ _ => (pv 3))) (pe_lst pa_nil) (nomark _)))))) (pss_one (ps_ret pe_str)) pss_nil)
  (pss_cons (ps_if (PW.pt (pw_and (pt_cmpR op_in_seq (pe_ix ix_tup (pv 1) pe_int (fun _ _ => rfl)) (pe_tup (pa_cons pe_str (pa_cons pe_str (pa_cons pe_str pa_nil)))) (by rfl)) (pw_and1 (pt_cmpR op_gt (pe_callB cr_abs (by rfl) T.b_abs (by decide +kernel) (pa_cons (pe_ix ix_tup (pv 1) (pe_un un_neg pe_int) (fun _ _ => rfl)) pa_nil)) pe_int (nomark _))))) (pss_one (ps_ret pe_str)) pss_nil)
  (pss_cons (ps_expr (pe_bm PySem.F.plainAttrs_list PySem.F.slot_list_append PySem.F.type_list_append mt_append (pe_ix ix_list (pv 0) pe_int (fun _ _ => rfl)) (pa_cons (pv 1) pa_nil)))
  (pss_cons (ps_expr (pe_bm0 PySem.F.plainAttrs_list PySem.F.slot_list_clear PySem.F.type_list_clear mt_clear (pe_ix ix_list (pv 0) pe_int (fun _ _ => rfl))))
  (pss_one (ps_ret pe_str))))))), ?_⟩
    have no : ∀ d, o = some d → ¬((c.Ok d.files ∧ szOf c ≤ 16) ∧ d.done.length < 200) → ∀ H', Ex H H' → Q (.str "refused") H' := fun d ho hn H' e' => by
      subst ho
      have := kq fp H' (exExt e') (fun b hb => .inl hb)
      rw [exec_none (show ans (some d) (.call c) = none by rw [ans_call, if_neg hn])] at this
      exact this (hS.ex e')
    have yes : ∀ d, o = some d → (c.Ok d.files ∧ szOf c ≤ 16) ∧ d.done.length < 200 → ∀ fp' H', Ext (st :: fp) H H' → (∀ b ∈ fp', b ∈ fp ∨ H b = none) → StateAt K H' st fp' (some { d with done := d.done ++ [c], undone := [] }) → Q (.str "ok") H' := fun d ho hy fp' H' x' hn' hS' => by
      subst ho
      have := kq fp' H' x' hn'
      rw [exec_some (show ans (some d) (.call c) = some (("ok" : Str), some { d with done := d.done ++ [c], undone := [] }) by rw [ans_call, if_pos hy])] at this
      exact this hS'
    have hnm := fun files => nm_ok (files := files) hok
    have kn : o = none → ∀ H', Ex H H' → Q (.str "refused") H' := fun ho H' e' => by
      subst ho
      exact kq fp H' (exExt e') (fun b hb => .inl hb) (hS.ex e')
    clear kq
    cases c with
    | all k =>
      have hc : H aC = some (.tup [V.str "all", V.int k]) := hc
      walk_at "go"
      rename_i pn hpn H1 e1 g1
      have hn1 : H1 pn = some (.lst (([] : List Int).map V.int)) := g1
      have e1t : Ex H H1 := by walk_at "ex"
      have hnm : ∀ files : Int, Cl.Ok files (Cl.all k) ↔ List.filter (fun x => decide (files ≤ x)) ([] : List Int) = [] := hnm
      refine i_eqSt (hS.ex (by walk_at "ex")) g ?_
      cases o with
      | none =>
        walk_at "go"
        exact kn rfl _ (by walk_at "ex")
      | some d =>
        have O := hO d rfl
        obtain ⟨l1, l2, l3, as1, as2, rfl, hnd, h1, h2, h3, h4, h5, h6⟩ := hS.ex (show Ex H H2 by walk_at "ex")
        walk_at "go"
        rw [List.length_map, h3.len]
        refine i_dec (fun h => ?_) (fun h => ?_)
        · walk_at "go"
          exact no d rfl (fun z => by omega) _ (by walk_at "ex")
        · walk_at "go"
          have hn2 := e _ _ hn1
          refine lc_intsF hn2 (fun x => decide (d.files ≤ x)) V.int (by simp) (fun _ => rfl) (fun x H4 e4 _ Qb q => ?_) (fun x H4 e4 _ Q1 q => ?_) (fun l4 H4 hl4 e4 g4 => ?_)
          · have h14 := e4 _ _ h1
            walk_at "go"
            exact q _ (by walk_at "ex")
          · walk_at "go"
            exact q _ (by walk_at "ex")
          · obtain hfl | ⟨y, r, hfl⟩ : List.filter (fun x => decide (d.files ≤ x)) ([] : List Int) = [] ∨ ∃ y r, List.filter (fun x => decide (d.files ≤ x)) ([] : List Int) = y :: r := by
              cases List.filter (fun x => decide (d.files ≤ x)) ([] : List Int) <;> simp
            · rw [hfl] at g4
              walk_at "go"
              refine i_neE (ds := []) (e _ _ g4) .nil (sh_ints (ns := [])) (by decide) g ?_
              have hv := (hnm d.files).mpr hfl
              have e2t : Ex H H2 := by walk_at "ex"
              have e3t : Ex H4 H2 := by walk_at "ex"
              have h4t := e3t _ _ (e4 _ _ h4)
              have h2t := e3t _ _ (e4 _ _ h2)
              have h1t := e3t _ _ (e4 _ _ h1)
              have h6t := e3t _ _ (e4 _ _ h6)
              have h3t := (h3.ex e4).ex e3t
              clear h1 h2 h3 h4 h5 h6 hn1 hn2 g4 hl4 e4 e3t g e e1t
              walk_at "go"
              have hsz : szOf (Cl.all k) = if k < 0 then -k else k := rfl
              refine i_dec (fun hz => ?_) (fun hz => ?_)
              · walk_at "go"
                exact no d rfl (fun z => by have := z.1.2; rw [hsz] at this; omega) _ (by walk_at "ex")
              walk_at "go"
              revert p H2
              intro p5 _ H5 _ _
              have h25 : H5 l1 = some (.lst (as1.map V.ref)) := by walk_at "lk"
              have h45 : H5 l2 = some (.lst (as2.map V.ref)) := by walk_at "lk"
              have h15 : H5 st = some (.lst [.int d.files, .int d.rows, .ref l1, .ref l2, .ref l3]) := by walk_at "lk"
              have h65 : H5 l3 = some (.lst (d.gone.map V.int)) := by walk_at "lk"
              have h35 : CallsAt H5 as1 d.done := h3t.ex (by walk_at "ex")
              have hc5 : H5 aC = some (.tup (Cl.all k).vs) := by walk_at "tx"
              have e5 : Ex H H5 := by walk_at "ex"
              refine i_app h25 (by rw [List.length_map, h3t.len]; omega) ?_
              generalize hU6 : upd H5 l1 _ = H6
              obtain ⟨x6, g6, k6⟩ := wr_of hU6 h25 (by intro _ z; cases z)
              have h46 := k6 _ _ (by walk_at "nm") h45
              have h16 := k6 _ _ (by walk_at "nm") h15
              walk_at "go"
              refine ⟨l2, _, rfl, rfl, h46, ?_⟩
              generalize hU7 : upd H6 l2 _ = H7
              obtain ⟨x7, g7, k7⟩ := wr_of hU7 h46 (by intro _ z; cases z)
              walk_at "go"
              have X7 : Ext [l1, l2] H5 H7 := (x6.mono (by simp)).trans (x7.mono (by simp))
              refine yes d rfl ⟨⟨hv, by rw [hsz]; omega⟩, by omega⟩ [l1, l2, l3] H7 (Ext.xr e5 (X7.mono (by simp))) (fun b hb => .inl hb) ⟨l1, l2, l3, as1 ++ [aC], [], rfl, hnd, k7 _ _ (by walk_at "nm") h16, k7 _ _ (by walk_at "nm") (by rw [g6, List.map_append]; rfl), (h35.snoc hc5).ext X7, g7, .nil, k7 _ _ (by walk_at "nm") (k6 _ _ (by walk_at "nm") h65)⟩
            · rw [hfl] at g4
              walk_at "go"
              refine i_neE (ds := (y :: r).map PyData.int) (e _ _ g4) dpInts sh_ints (by decide) g ?_
              walk_at "go"
              exact no d rfl (fun z => by
                have q := (hnm d.files).mp z.1.1
                rw [hfl] at q
                cases q) _ (by walk_at "ex")
    | up a k =>
      have hc : H aC = some (.tup [V.str "up", V.int a, V.int k]) := hc
      walk_at "go"
      rename_i ps H0 e0 g0 pn H1 hpn e1 g1
      have hif : (if (!decide (V.str "up" = V.str "up")) = true then (1 : Int) else 0) = 0 := by decide +kernel
      rw [hif] at g1
      have hn1 : H1 pn = some (.lst (([a] : List Int).map V.int)) := g1
      have e1t : Ex H H1 := by walk_at "ex"
      have hnm : ∀ files : Int, Cl.Ok files (Cl.up a k) ↔ List.filter (fun x => decide (files ≤ x)) ([a] : List Int) = [] := hnm
      refine i_eqSt (hS.ex (by walk_at "ex")) g ?_
      cases o with
      | none =>
        walk_at "go"
        exact kn rfl _ (by walk_at "ex")
      | some d =>
        have O := hO d rfl
        obtain ⟨l1, l2, l3, as1, as2, rfl, hnd, h1, h2, h3, h4, h5, h6⟩ := hS.ex (show Ex H H2 by walk_at "ex")
        walk_at "go"
        rw [List.length_map, h3.len]
        refine i_dec (fun h => ?_) (fun h => ?_)
        · walk_at "go"
          exact no d rfl (fun z => by omega) _ (by walk_at "ex")
        · walk_at "go"
          have hn2 := e _ _ hn1
          refine lc_intsF hn2 (fun x => decide (d.files ≤ x)) V.int (by simp) (fun _ => rfl) (fun x H4 e4 _ Qb q => ?_) (fun x H4 e4 _ Q1 q => ?_) (fun l4 H4 hl4 e4 g4 => ?_)
          · have h14 := e4 _ _ h1
            walk_at "go"
            exact q _ (by walk_at "ex")
          · walk_at "go"
            exact q _ (by walk_at "ex")
          · obtain hfl | ⟨y, r, hfl⟩ : List.filter (fun x => decide (d.files ≤ x)) ([a] : List Int) = [] ∨ ∃ y r, List.filter (fun x => decide (d.files ≤ x)) ([a] : List Int) = y :: r := by
              cases List.filter (fun x => decide (d.files ≤ x)) ([a] : List Int) <;> simp
            · rw [hfl] at g4
              walk_at "go"
              refine i_neE (ds := []) (e _ _ g4) .nil (sh_ints (ns := [])) (by decide) g ?_
              have hv := (hnm d.files).mpr hfl
              have e2t : Ex H H2 := by walk_at "ex"
              have e3t : Ex H4 H2 := by walk_at "ex"
              have h4t := e3t _ _ (e4 _ _ h4)
              have h2t := e3t _ _ (e4 _ _ h2)
              have h1t := e3t _ _ (e4 _ _ h1)
              have h6t := e3t _ _ (e4 _ _ h6)
              have h3t := (h3.ex e4).ex e3t
              clear h1 h2 h3 h4 h5 h6 hn1 hn2 g4 hl4 e4 e3t g e e1t
              walk_at "go"
              have hsz : szOf (Cl.up a k) = if k < 0 then -k else k := rfl
              refine i_dec (fun hz => ?_) (fun hz => ?_)
              · walk_at "go"
                exact no d rfl (fun z => by have := z.1.2; rw [hsz] at this; omega) _ (by walk_at "ex")
              walk_at "go"
              revert p H2
              intro p5 _ H5 _ _
              have h25 : H5 l1 = some (.lst (as1.map V.ref)) := by walk_at "lk"
              have h45 : H5 l2 = some (.lst (as2.map V.ref)) := by walk_at "lk"
              have h15 : H5 st = some (.lst [.int d.files, .int d.rows, .ref l1, .ref l2, .ref l3]) := by walk_at "lk"
              have h65 : H5 l3 = some (.lst (d.gone.map V.int)) := by walk_at "lk"
              have h35 : CallsAt H5 as1 d.done := h3t.ex (by walk_at "ex")
              have hc5 : H5 aC = some (.tup (Cl.up a k).vs) := by walk_at "tx"
              have e5 : Ex H H5 := by walk_at "ex"
              refine i_app h25 (by rw [List.length_map, h3t.len]; omega) ?_
              generalize hU6 : upd H5 l1 _ = H6
              obtain ⟨x6, g6, k6⟩ := wr_of hU6 h25 (by intro _ z; cases z)
              have h46 := k6 _ _ (by walk_at "nm") h45
              have h16 := k6 _ _ (by walk_at "nm") h15
              walk_at "go"
              refine ⟨l2, _, rfl, rfl, h46, ?_⟩
              generalize hU7 : upd H6 l2 _ = H7
              obtain ⟨x7, g7, k7⟩ := wr_of hU7 h46 (by intro _ z; cases z)
              walk_at "go"
              have X7 : Ext [l1, l2] H5 H7 := (x6.mono (by simp)).trans (x7.mono (by simp))
              refine yes d rfl ⟨⟨hv, by rw [hsz]; omega⟩, by omega⟩ [l1, l2, l3] H7 (Ext.xr e5 (X7.mono (by simp))) (fun b hb => .inl hb) ⟨l1, l2, l3, as1 ++ [aC], [], rfl, hnd, k7 _ _ (by walk_at "nm") h16, k7 _ _ (by walk_at "nm") (by rw [g6, List.map_append]; rfl), (h35.snoc hc5).ext X7, g7, .nil, k7 _ _ (by walk_at "nm") (k6 _ _ (by walk_at "nm") h65)⟩
            · rw [hfl] at g4
              walk_at "go"
              refine i_neE (ds := (y :: r).map PyData.int) (e _ _ g4) dpInts sh_ints (by decide) g ?_
              walk_at "go"
              exact no d rfl (fun z => by
                have q := (hnm d.files).mp z.1.1
                rw [hfl] at q
                cases q) _ (by walk_at "ex")
    | swap a b =>
      have hc : H aC = some (.tup [V.str "swap", V.int a, V.int b]) := hc
      walk_at "go"
      rename_i ps H0 e0 g0 pn H1 hpn e1 g1
      have hif : (if (!decide (V.str "swap" = V.str "up")) = true then (1 : Int) else 0) = 1 := by decide +kernel
      rw [hif] at g1
      have hn1 : H1 pn = some (.lst (([a, b] : List Int).map V.int)) := g1
      have e1t : Ex H H1 := by walk_at "ex"
      have hnm : ∀ files : Int, Cl.Ok files (Cl.swap a b) ↔ List.filter (fun x => decide (files ≤ x)) ([a, b] : List Int) = [] := hnm
      refine i_eqSt (hS.ex (by walk_at "ex")) g ?_
      cases o with
      | none =>
        walk_at "go"
        exact kn rfl _ (by walk_at "ex")
      | some d =>
        have O := hO d rfl
        obtain ⟨l1, l2, l3, as1, as2, rfl, hnd, h1, h2, h3, h4, h5, h6⟩ := hS.ex (show Ex H H2 by walk_at "ex")
        walk_at "go"
        rw [List.length_map, h3.len]
        refine i_dec (fun h => ?_) (fun h => ?_)
        · walk_at "go"
          exact no d rfl (fun z => by omega) _ (by walk_at "ex")
        · walk_at "go"
          have hn2 := e _ _ hn1
          refine lc_intsF hn2 (fun x => decide (d.files ≤ x)) V.int (by simp) (fun _ => rfl) (fun x H4 e4 _ Qb q => ?_) (fun x H4 e4 _ Q1 q => ?_) (fun l4 H4 hl4 e4 g4 => ?_)
          · have h14 := e4 _ _ h1
            walk_at "go"
            exact q _ (by walk_at "ex")
          · walk_at "go"
            exact q _ (by walk_at "ex")
          · obtain hfl | ⟨y, r, hfl⟩ : List.filter (fun x => decide (d.files ≤ x)) ([a, b] : List Int) = [] ∨ ∃ y r, List.filter (fun x => decide (d.files ≤ x)) ([a, b] : List Int) = y :: r := by
              cases List.filter (fun x => decide (d.files ≤ x)) ([a, b] : List Int) <;> simp
            · rw [hfl] at g4
              walk_at "go"
              refine i_neE (ds := []) (e _ _ g4) .nil (sh_ints (ns := [])) (by decide) g ?_
              have hv := (hnm d.files).mpr hfl
              have e2t : Ex H H2 := by walk_at "ex"
              have e3t : Ex H4 H2 := by walk_at "ex"
              have h4t := e3t _ _ (e4 _ _ h4)
              have h2t := e3t _ _ (e4 _ _ h2)
              have h1t := e3t _ _ (e4 _ _ h1)
              have h6t := e3t _ _ (e4 _ _ h6)
              have h3t := (h3.ex e4).ex e3t
              clear h1 h2 h3 h4 h5 h6 hn1 hn2 g4 hl4 e4 e3t g e e1t
              walk_at "go"
              have hsz : szOf (Cl.swap a b) = 1 := rfl
              revert p H2
              intro p5 _ H5 _ _
              have h25 : H5 l1 = some (.lst (as1.map V.ref)) := by walk_at "lk"
              have h45 : H5 l2 = some (.lst (as2.map V.ref)) := by walk_at "lk"
              have h15 : H5 st = some (.lst [.int d.files, .int d.rows, .ref l1, .ref l2, .ref l3]) := by walk_at "lk"
              have h65 : H5 l3 = some (.lst (d.gone.map V.int)) := by walk_at "lk"
              have h35 : CallsAt H5 as1 d.done := h3t.ex (by walk_at "ex")
              have hc5 : H5 aC = some (.tup (Cl.swap a b).vs) := by walk_at "tx"
              have e5 : Ex H H5 := by walk_at "ex"
              refine i_app h25 (by rw [List.length_map, h3t.len]; omega) ?_
              generalize hU6 : upd H5 l1 _ = H6
              obtain ⟨x6, g6, k6⟩ := wr_of hU6 h25 (by intro _ z; cases z)
              have h46 := k6 _ _ (by walk_at "nm") h45
              have h16 := k6 _ _ (by walk_at "nm") h15
              walk_at "go"
              refine ⟨l2, _, rfl, rfl, h46, ?_⟩
              generalize hU7 : upd H6 l2 _ = H7
              obtain ⟨x7, g7, k7⟩ := wr_of hU7 h46 (by intro _ z; cases z)
              walk_at "go"
              have X7 : Ext [l1, l2] H5 H7 := (x6.mono (by simp)).trans (x7.mono (by simp))
              refine yes d rfl ⟨⟨hv, by rw [hsz]; omega⟩, by omega⟩ [l1, l2, l3] H7 (Ext.xr e5 (X7.mono (by simp))) (fun b hb => .inl hb) ⟨l1, l2, l3, as1 ++ [aC], [], rfl, hnd, k7 _ _ (by walk_at "nm") h16, k7 _ _ (by walk_at "nm") (by rw [g6, List.map_append]; rfl), (h35.snoc hc5).ext X7, g7, .nil, k7 _ _ (by walk_at "nm") (k6 _ _ (by walk_at "nm") h65)⟩
            · rw [hfl] at g4
              walk_at "go"
              refine i_neE (ds := (y :: r).map PyData.int) (e _ _ g4) dpInts sh_ints (by decide) g ?_
              walk_at "go"
              exact no d rfl (fun z => by
                have q := (hnm d.files).mp z.1.1
                rw [hfl] at q
                cases q) _ (by walk_at "ex")
    | wheel a b k =>
      have hc : H aC = some (.tup [V.str "wheel", V.int a, V.int b, V.int k]) := hc
      walk_at "go"
      rename_i ps H0 e0 g0 pn H1 hpn e1 g1
      have hif : (if (!decide (V.str "wheel" = V.str "up")) = true then (1 : Int) else 0) = 1 := by decide +kernel
      rw [hif] at g1
      have hn1 : H1 pn = some (.lst (([a, b] : List Int).map V.int)) := g1
      have e1t : Ex H H1 := by walk_at "ex"
      have hnm : ∀ files : Int, Cl.Ok files (Cl.wheel a b k) ↔ List.filter (fun x => decide (files ≤ x)) ([a, b] : List Int) = [] := hnm
      refine i_eqSt (hS.ex (by walk_at "ex")) g ?_
      cases o with
      | none =>
        walk_at "go"
        exact kn rfl _ (by walk_at "ex")
      | some d =>
        have O := hO d rfl
        obtain ⟨l1, l2, l3, as1, as2, rfl, hnd, h1, h2, h3, h4, h5, h6⟩ := hS.ex (show Ex H H2 by walk_at "ex")
        walk_at "go"
        rw [List.length_map, h3.len]
        refine i_dec (fun h => ?_) (fun h => ?_)
        · walk_at "go"
          exact no d rfl (fun z => by omega) _ (by walk_at "ex")
        · walk_at "go"
          have hn2 := e _ _ hn1
          refine lc_intsF hn2 (fun x => decide (d.files ≤ x)) V.int (by simp) (fun _ => rfl) (fun x H4 e4 _ Qb q => ?_) (fun x H4 e4 _ Q1 q => ?_) (fun l4 H4 hl4 e4 g4 => ?_)
          · have h14 := e4 _ _ h1
            walk_at "go"
            exact q _ (by walk_at "ex")
          · walk_at "go"
            exact q _ (by walk_at "ex")
          · obtain hfl | ⟨y, r, hfl⟩ : List.filter (fun x => decide (d.files ≤ x)) ([a, b] : List Int) = [] ∨ ∃ y r, List.filter (fun x => decide (d.files ≤ x)) ([a, b] : List Int) = y :: r := by
              cases List.filter (fun x => decide (d.files ≤ x)) ([a, b] : List Int) <;> simp
            · rw [hfl] at g4
              walk_at "go"
              refine i_neE (ds := []) (e _ _ g4) .nil (sh_ints (ns := [])) (by decide) g ?_
              have hv := (hnm d.files).mpr hfl
              have e2t : Ex H H2 := by walk_at "ex"
              have e3t : Ex H4 H2 := by walk_at "ex"
              have h4t := e3t _ _ (e4 _ _ h4)
              have h2t := e3t _ _ (e4 _ _ h2)
              have h1t := e3t _ _ (e4 _ _ h1)
              have h6t := e3t _ _ (e4 _ _ h6)
              have h3t := (h3.ex e4).ex e3t
              clear h1 h2 h3 h4 h5 h6 hn1 hn2 g4 hl4 e4 e3t g e e1t
              walk_at "go"
              have hsz : szOf (Cl.wheel a b k) = if k < 0 then -k else k := rfl
              refine i_dec (fun hz => ?_) (fun hz => ?_)
              · walk_at "go"
                exact no d rfl (fun z => by have := z.1.2; rw [hsz] at this; omega) _ (by walk_at "ex")
              walk_at "go"
              revert p H2
              intro p5 _ H5 _ _
              have h25 : H5 l1 = some (.lst (as1.map V.ref)) := by walk_at "lk"
              have h45 : H5 l2 = some (.lst (as2.map V.ref)) := by walk_at "lk"
              have h15 : H5 st = some (.lst [.int d.files, .int d.rows, .ref l1, .ref l2, .ref l3]) := by walk_at "lk"
              have h65 : H5 l3 = some (.lst (d.gone.map V.int)) := by walk_at "lk"
              have h35 : CallsAt H5 as1 d.done := h3t.ex (by walk_at "ex")
              have hc5 : H5 aC = some (.tup (Cl.wheel a b k).vs) := by walk_at "tx"
              have e5 : Ex H H5 := by walk_at "ex"
              refine i_app h25 (by rw [List.length_map, h3t.len]; omega) ?_
              generalize hU6 : upd H5 l1 _ = H6
              obtain ⟨x6, g6, k6⟩ := wr_of hU6 h25 (by intro _ z; cases z)
              have h46 := k6 _ _ (by walk_at "nm") h45
              have h16 := k6 _ _ (by walk_at "nm") h15
              walk_at "go"
              refine ⟨l2, _, rfl, rfl, h46, ?_⟩
              generalize hU7 : upd H6 l2 _ = H7
              obtain ⟨x7, g7, k7⟩ := wr_of hU7 h46 (by intro _ z; cases z)
              walk_at "go"
              have X7 : Ext [l1, l2] H5 H7 := (x6.mono (by simp)).trans (x7.mono (by simp))
              refine yes d rfl ⟨⟨hv, by rw [hsz]; omega⟩, by omega⟩ [l1, l2, l3] H7 (Ext.xr e5 (X7.mono (by simp))) (fun b hb => .inl hb) ⟨l1, l2, l3, as1 ++ [aC], [], rfl, hnd, k7 _ _ (by walk_at "nm") h16, k7 _ _ (by walk_at "nm") (by rw [g6, List.map_append]; rfl), (h35.snoc hc5).ext X7, g7, .nil, k7 _ _ (by walk_at "nm") (k6 _ _ (by walk_at "nm") h65)⟩
            · rw [hfl] at g4
              walk_at "go"
              refine i_neE (ds := (y :: r).map PyData.int) (e _ _ g4) dpInts sh_ints (by decide) g ?_
              walk_at "go"
              exact no d rfl (fun z => by
                have q := (hnm d.files).mp z.1.1
                rw [hfl] at q
                cases q) _ (by walk_at "ex")
    | about =>
      have hc : H aC = some (.tup [V.str "about"]) := hc
      walk_at "go"
      rename_i ps H0 e0 g0 pn H1 hpn e1 g1
      have hif : (if (!decide (V.str "about" = V.str "up")) = true then (1 : Int) else 0) = 1 := by decide +kernel
      rw [hif] at g1
      have hn1 : H1 pn = some (.lst (([] : List Int).map V.int)) := g1
      have e1t : Ex H H1 := by walk_at "ex"
      have hnm : ∀ files : Int, Cl.Ok files (Cl.about) ↔ List.filter (fun x => decide (files ≤ x)) ([] : List Int) = [] := hnm
      refine i_eqSt (hS.ex (by walk_at "ex")) g ?_
      cases o with
      | none =>
        walk_at "go"
        exact kn rfl _ (by walk_at "ex")
      | some d =>
        have O := hO d rfl
        obtain ⟨l1, l2, l3, as1, as2, rfl, hnd, h1, h2, h3, h4, h5, h6⟩ := hS.ex (show Ex H H2 by walk_at "ex")
        walk_at "go"
        rw [List.length_map, h3.len]
        refine i_dec (fun h => ?_) (fun h => ?_)
        · walk_at "go"
          exact no d rfl (fun z => by omega) _ (by walk_at "ex")
        · walk_at "go"
          have hn2 := e _ _ hn1
          refine lc_intsF hn2 (fun x => decide (d.files ≤ x)) V.int (by simp) (fun _ => rfl) (fun x H4 e4 _ Qb q => ?_) (fun x H4 e4 _ Q1 q => ?_) (fun l4 H4 hl4 e4 g4 => ?_)
          · have h14 := e4 _ _ h1
            walk_at "go"
            exact q _ (by walk_at "ex")
          · walk_at "go"
            exact q _ (by walk_at "ex")
          · obtain hfl | ⟨y, r, hfl⟩ : List.filter (fun x => decide (d.files ≤ x)) ([] : List Int) = [] ∨ ∃ y r, List.filter (fun x => decide (d.files ≤ x)) ([] : List Int) = y :: r := by
              cases List.filter (fun x => decide (d.files ≤ x)) ([] : List Int) <;> simp
            · rw [hfl] at g4
              walk_at "go"
              refine i_neE (ds := []) (e _ _ g4) .nil (sh_ints (ns := [])) (by decide) g ?_
              have hv := (hnm d.files).mpr hfl
              have e2t : Ex H H2 := by walk_at "ex"
              have e3t : Ex H4 H2 := by walk_at "ex"
              have h4t := e3t _ _ (e4 _ _ h4)
              have h2t := e3t _ _ (e4 _ _ h2)
              have h1t := e3t _ _ (e4 _ _ h1)
              have h6t := e3t _ _ (e4 _ _ h6)
              have h3t := (h3.ex e4).ex e3t
              clear h1 h2 h3 h4 h5 h6 hn1 hn2 g4 hl4 e4 e3t g e e1t
              walk_at "go"
              have hsz : szOf (Cl.about ) = 1 := rfl
              revert p H2
              intro p5 _ H5 _ _
              have h25 : H5 l1 = some (.lst (as1.map V.ref)) := by walk_at "lk"
              have h45 : H5 l2 = some (.lst (as2.map V.ref)) := by walk_at "lk"
              have h15 : H5 st = some (.lst [.int d.files, .int d.rows, .ref l1, .ref l2, .ref l3]) := by walk_at "lk"
              have h65 : H5 l3 = some (.lst (d.gone.map V.int)) := by walk_at "lk"
              have h35 : CallsAt H5 as1 d.done := h3t.ex (by walk_at "ex")
              have hc5 : H5 aC = some (.tup (Cl.about).vs) := by walk_at "tx"
              have e5 : Ex H H5 := by walk_at "ex"
              refine i_app h25 (by rw [List.length_map, h3t.len]; omega) ?_
              generalize hU6 : upd H5 l1 _ = H6
              obtain ⟨x6, g6, k6⟩ := wr_of hU6 h25 (by intro _ z; cases z)
              have h46 := k6 _ _ (by walk_at "nm") h45
              have h16 := k6 _ _ (by walk_at "nm") h15
              walk_at "go"
              refine ⟨l2, _, rfl, rfl, h46, ?_⟩
              generalize hU7 : upd H6 l2 _ = H7
              obtain ⟨x7, g7, k7⟩ := wr_of hU7 h46 (by intro _ z; cases z)
              walk_at "go"
              have X7 : Ext [l1, l2] H5 H7 := (x6.mono (by simp)).trans (x7.mono (by simp))
              refine yes d rfl ⟨⟨hv, by rw [hsz]; omega⟩, by omega⟩ [l1, l2, l3] H7 (Ext.xr e5 (X7.mono (by simp))) (fun b hb => .inl hb) ⟨l1, l2, l3, as1 ++ [aC], [], rfl, hnd, k7 _ _ (by walk_at "nm") h16, k7 _ _ (by walk_at "nm") (by rw [g6, List.map_append]; rfl), (h35.snoc hc5).ext X7, g7, .nil, k7 _ _ (by walk_at "nm") (k6 _ _ (by walk_at "nm") h65)⟩
            · rw [hfl] at g4
              walk_at "go"
              refine i_neE (ds := (y :: r).map PyData.int) (e _ _ g4) dpInts sh_ints (by decide) g ?_
              walk_at "go"
              exact no d rfl (fun z => by
                have q := (hnm d.files).mp z.1.1
                rw [hfl] at q
                cases q) _ (by walk_at "ex")
    | front a b =>
      have hc : H aC = some (.tup [V.str "front", V.int a, V.int b]) := hc
      walk_at "go"
      rename_i ps H0 e0 g0 pn H1 hpn e1 g1
      have hif : (if (!decide (V.str "front" = V.str "up")) = true then (1 : Int) else 0) = 1 := by decide +kernel
      rw [hif] at g1
      have hn1 : H1 pn = some (.lst (([a, b] : List Int).map V.int)) := g1
      have e1t : Ex H H1 := by walk_at "ex"
      have hnm : ∀ files : Int, Cl.Ok files (Cl.front a b) ↔ List.filter (fun x => decide (files ≤ x)) ([a, b] : List Int) = [] := hnm
      refine i_eqSt (hS.ex (by walk_at "ex")) g ?_
      cases o with
      | none =>
        walk_at "go"
        exact kn rfl _ (by walk_at "ex")
      | some d =>
        have O := hO d rfl
        obtain ⟨l1, l2, l3, as1, as2, rfl, hnd, h1, h2, h3, h4, h5, h6⟩ := hS.ex (show Ex H H2 by walk_at "ex")
        walk_at "go"
        rw [List.length_map, h3.len]
        refine i_dec (fun h => ?_) (fun h => ?_)
        · walk_at "go"
          exact no d rfl (fun z => by omega) _ (by walk_at "ex")
        · walk_at "go"
          have hn2 := e _ _ hn1
          refine lc_intsF hn2 (fun x => decide (d.files ≤ x)) V.int (by simp) (fun _ => rfl) (fun x H4 e4 _ Qb q => ?_) (fun x H4 e4 _ Q1 q => ?_) (fun l4 H4 hl4 e4 g4 => ?_)
          · have h14 := e4 _ _ h1
            walk_at "go"
            exact q _ (by walk_at "ex")
          · walk_at "go"
            exact q _ (by walk_at "ex")
          · obtain hfl | ⟨y, r, hfl⟩ : List.filter (fun x => decide (d.files ≤ x)) ([a, b] : List Int) = [] ∨ ∃ y r, List.filter (fun x => decide (d.files ≤ x)) ([a, b] : List Int) = y :: r := by
              cases List.filter (fun x => decide (d.files ≤ x)) ([a, b] : List Int) <;> simp
            · rw [hfl] at g4
              walk_at "go"
              refine i_neE (ds := []) (e _ _ g4) .nil (sh_ints (ns := [])) (by decide) g ?_
              have hv := (hnm d.files).mpr hfl
              have e2t : Ex H H2 := by walk_at "ex"
              have e3t : Ex H4 H2 := by walk_at "ex"
              have h4t := e3t _ _ (e4 _ _ h4)
              have h2t := e3t _ _ (e4 _ _ h2)
              have h1t := e3t _ _ (e4 _ _ h1)
              have h6t := e3t _ _ (e4 _ _ h6)
              have h3t := (h3.ex e4).ex e3t
              clear h1 h2 h3 h4 h5 h6 hn1 hn2 g4 hl4 e4 e3t g e e1t
              walk_at "go"
              have hsz : szOf (Cl.front a b) = 1 := rfl
              revert p H2
              intro p5 _ H5 _ _
              have h25 : H5 l1 = some (.lst (as1.map V.ref)) := by walk_at "lk"
              have h45 : H5 l2 = some (.lst (as2.map V.ref)) := by walk_at "lk"
              have h15 : H5 st = some (.lst [.int d.files, .int d.rows, .ref l1, .ref l2, .ref l3]) := by walk_at "lk"
              have h65 : H5 l3 = some (.lst (d.gone.map V.int)) := by walk_at "lk"
              have h35 : CallsAt H5 as1 d.done := h3t.ex (by walk_at "ex")
              have hc5 : H5 aC = some (.tup (Cl.front a b).vs) := by walk_at "tx"
              have e5 : Ex H H5 := by walk_at "ex"
              refine i_app h25 (by rw [List.length_map, h3t.len]; omega) ?_
              generalize hU6 : upd H5 l1 _ = H6
              obtain ⟨x6, g6, k6⟩ := wr_of hU6 h25 (by intro _ z; cases z)
              have h46 := k6 _ _ (by walk_at "nm") h45
              have h16 := k6 _ _ (by walk_at "nm") h15
              walk_at "go"
              refine ⟨l2, _, rfl, rfl, h46, ?_⟩
              generalize hU7 : upd H6 l2 _ = H7
              obtain ⟨x7, g7, k7⟩ := wr_of hU7 h46 (by intro _ z; cases z)
              walk_at "go"
              have X7 : Ext [l1, l2] H5 H7 := (x6.mono (by simp)).trans (x7.mono (by simp))
              refine yes d rfl ⟨⟨hv, by rw [hsz]; omega⟩, by omega⟩ [l1, l2, l3] H7 (Ext.xr e5 (X7.mono (by simp))) (fun b hb => .inl hb) ⟨l1, l2, l3, as1 ++ [aC], [], rfl, hnd, k7 _ _ (by walk_at "nm") h16, k7 _ _ (by walk_at "nm") (by rw [g6, List.map_append]; rfl), (h35.snoc hc5).ext X7, g7, .nil, k7 _ _ (by walk_at "nm") (k6 _ _ (by walk_at "nm") h65)⟩
            · rw [hfl] at g4
              walk_at "go"
              refine i_neE (ds := (y :: r).map PyData.int) (e _ _ g4) dpInts sh_ints (by decide) g ?_
              walk_at "go"
              exact no d rfl (fun z => by
                have q := (hnm d.files).mp z.1.1
                rw [hfl] at q
                cases q) _ (by walk_at "ex")
    | halve =>
      have hc : H aC = some (.tup [V.str "halve"]) := hc
      walk_at "go"
      rename_i ps H0 e0 g0 pn H1 hpn e1 g1
      have hif : (if (!decide (V.str "halve" = V.str "up")) = true then (1 : Int) else 0) = 1 := by decide +kernel
      rw [hif] at g1
      have hn1 : H1 pn = some (.lst (([] : List Int).map V.int)) := g1
      have e1t : Ex H H1 := by walk_at "ex"
      have hnm : ∀ files : Int, Cl.Ok files (Cl.halve) ↔ List.filter (fun x => decide (files ≤ x)) ([] : List Int) = [] := hnm
      refine i_eqSt (hS.ex (by walk_at "ex")) g ?_
      cases o with
      | none =>
        walk_at "go"
        exact kn rfl _ (by walk_at "ex")
      | some d =>
        have O := hO d rfl
        obtain ⟨l1, l2, l3, as1, as2, rfl, hnd, h1, h2, h3, h4, h5, h6⟩ := hS.ex (show Ex H H2 by walk_at "ex")
        walk_at "go"
        rw [List.length_map, h3.len]
        refine i_dec (fun h => ?_) (fun h => ?_)
        · walk_at "go"
          exact no d rfl (fun z => by omega) _ (by walk_at "ex")
        · walk_at "go"
          have hn2 := e _ _ hn1
          refine lc_intsF hn2 (fun x => decide (d.files ≤ x)) V.int (by simp) (fun _ => rfl) (fun x H4 e4 _ Qb q => ?_) (fun x H4 e4 _ Q1 q => ?_) (fun l4 H4 hl4 e4 g4 => ?_)
          · have h14 := e4 _ _ h1
            walk_at "go"
            exact q _ (by walk_at "ex")
          · walk_at "go"
            exact q _ (by walk_at "ex")
          · obtain hfl | ⟨y, r, hfl⟩ : List.filter (fun x => decide (d.files ≤ x)) ([] : List Int) = [] ∨ ∃ y r, List.filter (fun x => decide (d.files ≤ x)) ([] : List Int) = y :: r := by
              cases List.filter (fun x => decide (d.files ≤ x)) ([] : List Int) <;> simp
            · rw [hfl] at g4
              walk_at "go"
              refine i_neE (ds := []) (e _ _ g4) .nil (sh_ints (ns := [])) (by decide) g ?_
              have hv := (hnm d.files).mpr hfl
              have e2t : Ex H H2 := by walk_at "ex"
              have e3t : Ex H4 H2 := by walk_at "ex"
              have h4t := e3t _ _ (e4 _ _ h4)
              have h2t := e3t _ _ (e4 _ _ h2)
              have h1t := e3t _ _ (e4 _ _ h1)
              have h6t := e3t _ _ (e4 _ _ h6)
              have h3t := (h3.ex e4).ex e3t
              clear h1 h2 h3 h4 h5 h6 hn1 hn2 g4 hl4 e4 e3t g e e1t
              walk_at "go"
              have hsz : szOf (Cl.halve ) = 1 := rfl
              revert p H2
              intro p5 _ H5 _ _
              have h25 : H5 l1 = some (.lst (as1.map V.ref)) := by walk_at "lk"
              have h45 : H5 l2 = some (.lst (as2.map V.ref)) := by walk_at "lk"
              have h15 : H5 st = some (.lst [.int d.files, .int d.rows, .ref l1, .ref l2, .ref l3]) := by walk_at "lk"
              have h65 : H5 l3 = some (.lst (d.gone.map V.int)) := by walk_at "lk"
              have h35 : CallsAt H5 as1 d.done := h3t.ex (by walk_at "ex")
              have hc5 : H5 aC = some (.tup (Cl.halve).vs) := by walk_at "tx"
              have e5 : Ex H H5 := by walk_at "ex"
              refine i_app h25 (by rw [List.length_map, h3t.len]; omega) ?_
              generalize hU6 : upd H5 l1 _ = H6
              obtain ⟨x6, g6, k6⟩ := wr_of hU6 h25 (by intro _ z; cases z)
              have h46 := k6 _ _ (by walk_at "nm") h45
              have h16 := k6 _ _ (by walk_at "nm") h15
              walk_at "go"
              refine ⟨l2, _, rfl, rfl, h46, ?_⟩
              generalize hU7 : upd H6 l2 _ = H7
              obtain ⟨x7, g7, k7⟩ := wr_of hU7 h46 (by intro _ z; cases z)
              walk_at "go"
              have X7 : Ext [l1, l2] H5 H7 := (x6.mono (by simp)).trans (x7.mono (by simp))
              refine yes d rfl ⟨⟨hv, by rw [hsz]; omega⟩, by omega⟩ [l1, l2, l3] H7 (Ext.xr e5 (X7.mono (by simp))) (fun b hb => .inl hb) ⟨l1, l2, l3, as1 ++ [aC], [], rfl, hnd, k7 _ _ (by walk_at "nm") h16, k7 _ _ (by walk_at "nm") (by rw [g6, List.map_append]; rfl), (h35.snoc hc5).ext X7, g7, .nil, k7 _ _ (by walk_at "nm") (k6 _ _ (by walk_at "nm") h65)⟩
            · rw [hfl] at g4
              walk_at "go"
              refine i_neE (ds := (y :: r).map PyData.int) (e _ _ g4) dpInts sh_ints (by decide) g ?_
              walk_at "go"
              exact no d rfl (fun z => by
                have q := (hnm d.files).mp z.1.1
                rw [hfl] at q
                cases q) _ (by walk_at "ex")
    | pair =>
      have hc : H aC = some (.tup [V.str "pair"]) := hc
      walk_at "go"
      rename_i ps H0 e0 g0 pn H1 hpn e1 g1
      have hif : (if (!decide (V.str "pair" = V.str "up")) = true then (1 : Int) else 0) = 1 := by decide +kernel
      rw [hif] at g1
      have hn1 : H1 pn = some (.lst (([] : List Int).map V.int)) := g1
      have e1t : Ex H H1 := by walk_at "ex"
      have hnm : ∀ files : Int, Cl.Ok files (Cl.pair) ↔ List.filter (fun x => decide (files ≤ x)) ([] : List Int) = [] := hnm
      refine i_eqSt (hS.ex (by walk_at "ex")) g ?_
      cases o with
      | none =>
        walk_at "go"
        exact kn rfl _ (by walk_at "ex")
      | some d =>
        have O := hO d rfl
        obtain ⟨l1, l2, l3, as1, as2, rfl, hnd, h1, h2, h3, h4, h5, h6⟩ := hS.ex (show Ex H H2 by walk_at "ex")
        walk_at "go"
        rw [List.length_map, h3.len]
        refine i_dec (fun h => ?_) (fun h => ?_)
        · walk_at "go"
          exact no d rfl (fun z => by omega) _ (by walk_at "ex")
        · walk_at "go"
          have hn2 := e _ _ hn1
          refine lc_intsF hn2 (fun x => decide (d.files ≤ x)) V.int (by simp) (fun _ => rfl) (fun x H4 e4 _ Qb q => ?_) (fun x H4 e4 _ Q1 q => ?_) (fun l4 H4 hl4 e4 g4 => ?_)
          · have h14 := e4 _ _ h1
            walk_at "go"
            exact q _ (by walk_at "ex")
          · walk_at "go"
            exact q _ (by walk_at "ex")
          · obtain hfl | ⟨y, r, hfl⟩ : List.filter (fun x => decide (d.files ≤ x)) ([] : List Int) = [] ∨ ∃ y r, List.filter (fun x => decide (d.files ≤ x)) ([] : List Int) = y :: r := by
              cases List.filter (fun x => decide (d.files ≤ x)) ([] : List Int) <;> simp
            · rw [hfl] at g4
              walk_at "go"
              refine i_neE (ds := []) (e _ _ g4) .nil (sh_ints (ns := [])) (by decide) g ?_
              have hv := (hnm d.files).mpr hfl
              have e2t : Ex H H2 := by walk_at "ex"
              have e3t : Ex H4 H2 := by walk_at "ex"
              have h4t := e3t _ _ (e4 _ _ h4)
              have h2t := e3t _ _ (e4 _ _ h2)
              have h1t := e3t _ _ (e4 _ _ h1)
              have h6t := e3t _ _ (e4 _ _ h6)
              have h3t := (h3.ex e4).ex e3t
              clear h1 h2 h3 h4 h5 h6 hn1 hn2 g4 hl4 e4 e3t g e e1t
              walk_at "go"
              have hsz : szOf (Cl.pair ) = 1 := rfl
              revert p H2
              intro p5 _ H5 _ _
              have h25 : H5 l1 = some (.lst (as1.map V.ref)) := by walk_at "lk"
              have h45 : H5 l2 = some (.lst (as2.map V.ref)) := by walk_at "lk"
              have h15 : H5 st = some (.lst [.int d.files, .int d.rows, .ref l1, .ref l2, .ref l3]) := by walk_at "lk"
              have h65 : H5 l3 = some (.lst (d.gone.map V.int)) := by walk_at "lk"
              have h35 : CallsAt H5 as1 d.done := h3t.ex (by walk_at "ex")
              have hc5 : H5 aC = some (.tup (Cl.pair).vs) := by walk_at "tx"
              have e5 : Ex H H5 := by walk_at "ex"
              refine i_app h25 (by rw [List.length_map, h3t.len]; omega) ?_
              generalize hU6 : upd H5 l1 _ = H6
              obtain ⟨x6, g6, k6⟩ := wr_of hU6 h25 (by intro _ z; cases z)
              have h46 := k6 _ _ (by walk_at "nm") h45
              have h16 := k6 _ _ (by walk_at "nm") h15
              walk_at "go"
              refine ⟨l2, _, rfl, rfl, h46, ?_⟩
              generalize hU7 : upd H6 l2 _ = H7
              obtain ⟨x7, g7, k7⟩ := wr_of hU7 h46 (by intro _ z; cases z)
              walk_at "go"
              have X7 : Ext [l1, l2] H5 H7 := (x6.mono (by simp)).trans (x7.mono (by simp))
              refine yes d rfl ⟨⟨hv, by rw [hsz]; omega⟩, by omega⟩ [l1, l2, l3] H7 (Ext.xr e5 (X7.mono (by simp))) (fun b hb => .inl hb) ⟨l1, l2, l3, as1 ++ [aC], [], rfl, hnd, k7 _ _ (by walk_at "nm") h16, k7 _ _ (by walk_at "nm") (by rw [g6, List.map_append]; rfl), (h35.snoc hc5).ext X7, g7, .nil, k7 _ _ (by walk_at "nm") (k6 _ _ (by walk_at "nm") h65)⟩
            · rw [hfl] at g4
              walk_at "go"
              refine i_neE (ds := (y :: r).map PyData.int) (e _ _ g4) dpInts sh_ints (by decide) g ?_
              walk_at "go"
              exact no d rfl (fun z => by
                have q := (hnm d.files).mp z.1.1
                rw [hfl] at q
                cases q) _ (by walk_at "ex")
    | others =>
      have hc : H aC = some (.tup [V.str "others"]) := hc
      walk_at "go"
      rename_i ps H0 e0 g0 pn H1 hpn e1 g1
      have hif : (if (!decide (V.str "others" = V.str "up")) = true then (1 : Int) else 0) = 1 := by decide +kernel
      rw [hif] at g1
      have hn1 : H1 pn = some (.lst (([] : List Int).map V.int)) := g1
      have e1t : Ex H H1 := by walk_at "ex"
      have hnm : ∀ files : Int, Cl.Ok files (Cl.others) ↔ List.filter (fun x => decide (files ≤ x)) ([] : List Int) = [] := hnm
      refine i_eqSt (hS.ex (by walk_at "ex")) g ?_
      cases o with
      | none =>
        walk_at "go"
        exact kn rfl _ (by walk_at "ex")
      | some d =>
        have O := hO d rfl
        obtain ⟨l1, l2, l3, as1, as2, rfl, hnd, h1, h2, h3, h4, h5, h6⟩ := hS.ex (show Ex H H2 by walk_at "ex")
        walk_at "go"
        rw [List.length_map, h3.len]
        refine i_dec (fun h => ?_) (fun h => ?_)
        · walk_at "go"
          exact no d rfl (fun z => by omega) _ (by walk_at "ex")
        · walk_at "go"
          have hn2 := e _ _ hn1
          refine lc_intsF hn2 (fun x => decide (d.files ≤ x)) V.int (by simp) (fun _ => rfl) (fun x H4 e4 _ Qb q => ?_) (fun x H4 e4 _ Q1 q => ?_) (fun l4 H4 hl4 e4 g4 => ?_)
          · have h14 := e4 _ _ h1
            walk_at "go"
            exact q _ (by walk_at "ex")
          · walk_at "go"
            exact q _ (by walk_at "ex")
          · obtain hfl | ⟨y, r, hfl⟩ : List.filter (fun x => decide (d.files ≤ x)) ([] : List Int) = [] ∨ ∃ y r, List.filter (fun x => decide (d.files ≤ x)) ([] : List Int) = y :: r := by
              cases List.filter (fun x => decide (d.files ≤ x)) ([] : List Int) <;> simp
            · rw [hfl] at g4
              walk_at "go"
              refine i_neE (ds := []) (e _ _ g4) .nil (sh_ints (ns := [])) (by decide) g ?_
              have hv := (hnm d.files).mpr hfl
              have e2t : Ex H H2 := by walk_at "ex"
              have e3t : Ex H4 H2 := by walk_at "ex"
              have h4t := e3t _ _ (e4 _ _ h4)
              have h2t := e3t _ _ (e4 _ _ h2)
              have h1t := e3t _ _ (e4 _ _ h1)
              have h6t := e3t _ _ (e4 _ _ h6)
              have h3t := (h3.ex e4).ex e3t
              clear h1 h2 h3 h4 h5 h6 hn1 hn2 g4 hl4 e4 e3t g e e1t
              walk_at "go"
              have hsz : szOf (Cl.others ) = 1 := rfl
              revert p H2
              intro p5 _ H5 _ _
              have h25 : H5 l1 = some (.lst (as1.map V.ref)) := by walk_at "lk"
              have h45 : H5 l2 = some (.lst (as2.map V.ref)) := by walk_at "lk"
              have h15 : H5 st = some (.lst [.int d.files, .int d.rows, .ref l1, .ref l2, .ref l3]) := by walk_at "lk"
              have h65 : H5 l3 = some (.lst (d.gone.map V.int)) := by walk_at "lk"
              have h35 : CallsAt H5 as1 d.done := h3t.ex (by walk_at "ex")
              have hc5 : H5 aC = some (.tup (Cl.others).vs) := by walk_at "tx"
              have e5 : Ex H H5 := by walk_at "ex"
              refine i_app h25 (by rw [List.length_map, h3t.len]; omega) ?_
              generalize hU6 : upd H5 l1 _ = H6
              obtain ⟨x6, g6, k6⟩ := wr_of hU6 h25 (by intro _ z; cases z)
              have h46 := k6 _ _ (by walk_at "nm") h45
              have h16 := k6 _ _ (by walk_at "nm") h15
              walk_at "go"
              refine ⟨l2, _, rfl, rfl, h46, ?_⟩
              generalize hU7 : upd H6 l2 _ = H7
              obtain ⟨x7, g7, k7⟩ := wr_of hU7 h46 (by intro _ z; cases z)
              walk_at "go"
              have X7 : Ext [l1, l2] H5 H7 := (x6.mono (by simp)).trans (x7.mono (by simp))
              refine yes d rfl ⟨⟨hv, by rw [hsz]; omega⟩, by omega⟩ [l1, l2, l3] H7 (Ext.xr e5 (X7.mono (by simp))) (fun b hb => .inl hb) ⟨l1, l2, l3, as1 ++ [aC], [], rfl, hnd, k7 _ _ (by walk_at "nm") h16, k7 _ _ (by walk_at "nm") (by rw [g6, List.map_append]; rfl), (h35.snoc hc5).ext X7, g7, .nil, k7 _ _ (by walk_at "nm") (k6 _ _ (by walk_at "nm") h65)⟩
            · rw [hfl] at g4
              walk_at "go"
              refine i_neE (ds := (y :: r).map PyData.int) (e _ _ g4) dpInts sh_ints (by decide) g ?_
              walk_at "go"
              exact no d rfl (fun z => by
                have q := (hnm d.files).mp z.1.1
                rw [hfl] at q
                cases q) _ (by walk_at "ex")
    | fill =>
      have hc : H aC = some (.tup [V.str "fill"]) := hc
      walk_at "go"
      rename_i ps H0 e0 g0 pn H1 hpn e1 g1
      have hif : (if (!decide (V.str "fill" = V.str "up")) = true then (1 : Int) else 0) = 1 := by decide +kernel
      rw [hif] at g1
      have hn1 : H1 pn = some (.lst (([] : List Int).map V.int)) := g1
      have e1t : Ex H H1 := by walk_at "ex"
      have hnm : ∀ files : Int, Cl.Ok files (Cl.fill) ↔ List.filter (fun x => decide (files ≤ x)) ([] : List Int) = [] := hnm
      refine i_eqSt (hS.ex (by walk_at "ex")) g ?_
      cases o with
      | none =>
        walk_at "go"
        exact kn rfl _ (by walk_at "ex")
      | some d =>
        have O := hO d rfl
        obtain ⟨l1, l2, l3, as1, as2, rfl, hnd, h1, h2, h3, h4, h5, h6⟩ := hS.ex (show Ex H H2 by walk_at "ex")
        walk_at "go"
        rw [List.length_map, h3.len]
        refine i_dec (fun h => ?_) (fun h => ?_)
        · walk_at "go"
          exact no d rfl (fun z => by omega) _ (by walk_at "ex")
        · walk_at "go"
          have hn2 := e _ _ hn1
          refine lc_intsF hn2 (fun x => decide (d.files ≤ x)) V.int (by simp) (fun _ => rfl) (fun x H4 e4 _ Qb q => ?_) (fun x H4 e4 _ Q1 q => ?_) (fun l4 H4 hl4 e4 g4 => ?_)
          · have h14 := e4 _ _ h1
            walk_at "go"
            exact q _ (by walk_at "ex")
          · walk_at "go"
            exact q _ (by walk_at "ex")
          · obtain hfl | ⟨y, r, hfl⟩ : List.filter (fun x => decide (d.files ≤ x)) ([] : List Int) = [] ∨ ∃ y r, List.filter (fun x => decide (d.files ≤ x)) ([] : List Int) = y :: r := by
              cases List.filter (fun x => decide (d.files ≤ x)) ([] : List Int) <;> simp
            · rw [hfl] at g4
              walk_at "go"
              refine i_neE (ds := []) (e _ _ g4) .nil (sh_ints (ns := [])) (by decide) g ?_
              have hv := (hnm d.files).mpr hfl
              have e2t : Ex H H2 := by walk_at "ex"
              have e3t : Ex H4 H2 := by walk_at "ex"
              have h4t := e3t _ _ (e4 _ _ h4)
              have h2t := e3t _ _ (e4 _ _ h2)
              have h1t := e3t _ _ (e4 _ _ h1)
              have h6t := e3t _ _ (e4 _ _ h6)
              have h3t := (h3.ex e4).ex e3t
              clear h1 h2 h3 h4 h5 h6 hn1 hn2 g4 hl4 e4 e3t g e e1t
              walk_at "go"
              have hsz : szOf (Cl.fill ) = 1 := rfl
              revert p H2
              intro p5 _ H5 _ _
              have h25 : H5 l1 = some (.lst (as1.map V.ref)) := by walk_at "lk"
              have h45 : H5 l2 = some (.lst (as2.map V.ref)) := by walk_at "lk"
              have h15 : H5 st = some (.lst [.int d.files, .int d.rows, .ref l1, .ref l2, .ref l3]) := by walk_at "lk"
              have h65 : H5 l3 = some (.lst (d.gone.map V.int)) := by walk_at "lk"
              have h35 : CallsAt H5 as1 d.done := h3t.ex (by walk_at "ex")
              have hc5 : H5 aC = some (.tup (Cl.fill).vs) := by walk_at "tx"
              have e5 : Ex H H5 := by walk_at "ex"
              refine i_app h25 (by rw [List.length_map, h3t.len]; omega) ?_
              generalize hU6 : upd H5 l1 _ = H6
              obtain ⟨x6, g6, k6⟩ := wr_of hU6 h25 (by intro _ z; cases z)
              have h46 := k6 _ _ (by walk_at "nm") h45
              have h16 := k6 _ _ (by walk_at "nm") h15
              walk_at "go"
              refine ⟨l2, _, rfl, rfl, h46, ?_⟩
              generalize hU7 : upd H6 l2 _ = H7
              obtain ⟨x7, g7, k7⟩ := wr_of hU7 h46 (by intro _ z; cases z)
              walk_at "go"
              have X7 : Ext [l1, l2] H5 H7 := (x6.mono (by simp)).trans (x7.mono (by simp))
              refine yes d rfl ⟨⟨hv, by rw [hsz]; omega⟩, by omega⟩ [l1, l2, l3] H7 (Ext.xr e5 (X7.mono (by simp))) (fun b hb => .inl hb) ⟨l1, l2, l3, as1 ++ [aC], [], rfl, hnd, k7 _ _ (by walk_at "nm") h16, k7 _ _ (by walk_at "nm") (by rw [g6, List.map_append]; rfl), (h35.snoc hc5).ext X7, g7, .nil, k7 _ _ (by walk_at "nm") (k6 _ _ (by walk_at "nm") h65)⟩
            · rw [hfl] at g4
              walk_at "go"
              refine i_neE (ds := (y :: r).map PyData.int) (e _ _ g4) dpInts sh_ints (by decide) g ?_
              walk_at "go"
              exact no d rfl (fun z => by
                have q := (hnm d.files).mp z.1.1
                rw [hfl] at q
                cases q) _ (by walk_at "ex")
theorem cal__law_called (T : Txt K mg w) : Cal P w K mg base CX0 1 "_law_called" (sp__law_called K) := calOf T.g__law_called T.d__law_called (fun _ F => ok__law_called T F) (fun _ _ _ _ _ _ us hl => match us, hl with | [_, _], _ => rfl)
end
end Pp
-- PpL9
set_option maxRecDepth 100000
set_option maxHeartbeats 4000000
namespace Pp
open PySem PySem.Spec PyProof.Rows L2 Evl
theorem idx_first {n : Int} : ∀ {l : List Int}, n ∈ l → l[l.idxOf n]? = some n ∧ ∀ m : Nat, m < l.idxOf n → l[m]? ≠ some n
  | a :: r, h => by
    by_cases e : a = n
    · subst e
      rw [List.idxOf_cons_self]
      exact ⟨rfl, fun m hm => absurd hm (Nat.not_lt_zero _)⟩
    · have ih := idx_first (l := r) ((List.mem_cons.mp h).resolve_left fun z => e z.symm)
      have hi : (a :: r).idxOf n = r.idxOf n + 1 := by rw [List.idxOf_cons, show (a == n) = false from by simpa using e]; rfl
      rw [hi]
      refine ⟨ih.1, fun m hm => ?_⟩
      cases m with
      | zero => exact fun z => e (Option.some.inj z)
      | succ m => exact ih.2 m (by omega)
theorem idx_drop {n : Int} : ∀ {l : List Int}, l.Nodup → n ∈ l → l.eraseIdx (l.idxOf n) = l.filter fun x => decide (x ≠ n)
  | a :: r, nd, h => by
    obtain ⟨n1, n2⟩ := List.nodup_cons.mp nd
    by_cases e : a = n
    · subst e
      rw [List.idxOf_cons_self, List.filter_cons_of_neg (by simp), List.eraseIdx_zero]
      exact (List.filter_eq_self.mpr fun x hx => by simp; rintro rfl; exact n1 hx).symm
    · have ih := idx_drop (l := r) n2 ((List.mem_cons.mp h).resolve_left fun z => e z.symm)
      have hi : (a :: r).idxOf n = r.idxOf n + 1 := by rw [List.idxOf_cons, show (a == n) = false from by simpa using e]; rfl
      rw [hi, List.filter_cons_of_pos (by simpa using e), ← ih]
      rfl
section
variable {P : Program} {w : World} {K : PySem.W.Frag} {mg : Str → Option Value} {base : Heap} {H : Hp} {Q : VK} {E : XK}
theorem u__law_called {st aC : Addr} {fp : List Addr} {o : Option Pd} {c : Cl} (h1 : H aC = some (.tup c.vs)) (h2 : c.Ok 3) (h3 : StateAt K H st fp o) (h4 : ∀ d, o = some d → d.Ok)
    (k : ∀ fp' H', Ext (st :: fp) H H' → (∀ b ∈ fp', b ∈ fp ∨ H b = none) → StateAt K H' st fp' (exec o (.call c)).2 → Q (.str (exec o (.call c)).1) H') : sp__law_called K [.ref st, .ref aC] H Q E := ⟨st, aC, fp, o, c, rfl, h1, h2, h3, h4, k⟩
theorem u__law_undone {st : Addr} {fp : List Addr} {o : Option Pd} {a : Int} (h1 : a = 0 ∨ a = 1) (h3 : StateAt K H st fp o) (h4 : ∀ d, o = some d → d.Ok ∧ d.Sm)
    (k : ∀ fp' H', Ext (st :: fp) H H' → (∀ b ∈ fp', b ∈ fp ∨ H b = none) → StateAt K H' st fp' (exec o (.alone (backW a))).2 → Q (.str (exec o (.alone (backW a))).1) H') : sp__law_undone K [.ref st, .int a] H Q E := ⟨st, fp, o, a, rfl, h1, h3, h4, k⟩
abbrev s__law_gone : Stmt := top 86
abbrev N__law_gone : List Str := ["_law_state", "_law_word", "_law_number"]
theorem sc__law_gone : FnScope N__law_gone ["_law_state", "_law_word", "_law_number"] (defScope s__law_gone) := ⟨rfl, rfl, rfl, by decide +kernel, rfl, by decide +kernel, by decide +kernel⟩
def sp__law_gone (K : PySem.W.Frag) : Sp := fun vs H Q _ => ∃ (st : Addr) (fp : List Addr) (o : Option Pd) (wd : Str) (n : Int), vs = [.ref st, .str wd, .int n] ∧ (wd = "leave" ∨ wd = "come") ∧ StateAt K H st fp o ∧ (∀ d, o = some d → d.Ok) ∧
  ∀ fp' H', Ext (st :: fp) H H' → (∀ b ∈ fp', b ∈ fp ∨ H b = none) → StateAt K H' st fp' (exec o (.one wd n)).2 → Q (.str (exec o (.one wd n)).1) H'
theorem ok__law_gone (T : Txt K mg w) {f : Addr} {fd : FuncData} (F : DefAt K "_law_gone" "_law_gone" s__law_gone f fd) : FnOk P w K mg base CX0 1 f fd ["_law_state", "_law_word", "_law_number"] (sp__law_gone K) := by
  refine ok0 F sc__law_gone (fun vs H Q E h => ?_) (fun cdv A outer s H vs Q E hr h => ?_)
  · walk_at "len"
  · obtain ⟨st, fp, o, wd, n, rfl, hw, hS, hO, kq⟩ := h
    refine ⟨_, (pss_cons (ps_if (PW.pt (pw_or (pt_cmpR (op_eqD hr.units) (pv 0) (pe_lst pa_nil) (nomark _)) (pw_or (pt_not (pt_chain op_le op_lt pe_int (pv 2) (pe_op op_mul (pe_ix ix_list (pv 0) pe_int (fun _ _ => rfl)) (pe_ix ix_list (pv 0) pe_int (fun _ _ => rfl))))) (pw_or1 (pt_cmpR op_eq (pe_cmpR op_eq (pv 1) pe_str (nomark _)) (pe_cmpR op_in_seq (pv 2) (pe_ix ix_list (pv 0) pe_int (fun _ _ => rfl)) (by rfl)) (nomark _)))))) (pss_one (ps_ret pe_str)) pss_nil)
  (pss_cons (ps_if (pt_cmpR op_eq (pv 1) pe_str (nomark _)) (pss_one (ps_expr (pe_bm PySem.F.plainAttrs_list PySem.F.slot_list_append PySem.F.type_list_append mt_append (pe_ix ix_list (pv 0) pe_int (fun _ _ => rfl)) (pa_cons (pv 2) pa_nil)))) (pss_one (ps_expr (pe_bm PySem.F.plainAttrs_list PySem.F.slot_list_remove PySem.F.type_list_remove mt_remove (pe_ix ix_list (pv 0) pe_int (fun _ _ => rfl)) (pa_cons (pv 2) pa_nil)))))
  (pss_one (ps_ret pe_str)))), ?_⟩
    walk_at "go"
    refine i_eqSt (hS.ex e) g ?_
    cases o with
    | none =>
      walk_at "go"
      exact kq fp _ (exExt (by walk_at "ex")) (fun b hb => .inl hb) (hS.ex (by walk_at "ex"))
    | some d =>
      have O := hO d rfl
      obtain ⟨l1, l2, l3, as1, as2, rfl, hnd, h1, h2, h3, h4, h5, h6⟩ := hS.ex e
      obtain ⟨⟨b1, b2⟩, b3, b4⟩ := O.bd
      have hcm : d.files * d.rows = d.rows * d.files := Int.mul_comm _ _
      have out : ¬(0 ≤ n ∧ n < d.rows * d.files) → Q (.str "refused") H2 := fun hr => by
        have := kq [l1, l2, l3] H2 (exExt e) (fun b hb => .inl hb)
        rw [exec_none (show ans (some d) (.one wd n) = none by rw [ans_one, oneA_out hr (by rcases hw with rfl | rfl <;> decide)]; rfl)] at this
        exact this (hS.ex e)
      walk_at "go"
      refine i_dec (fun hn => ?_) (fun hn => ?_)
      · walk_at "go"
        rw [hcm]
        by_cases hm : n < d.rows * d.files
        · rw [decide_eq_true hm]
          walk_at "go"
          refine i_inL (SqL.of h6) rfl (flat_ints _) ?_
          rw [in_ints]
          rcases hw with rfl | rfl
          · by_cases hg : n ∈ d.gone
            · rw [decide_eq_true hg]
              walk_at "go"
              have := kq [l1, l2, l3] H2 (exExt e) (fun b hb => .inl hb)
              rw [exec_none (show ans (some d) (.one "leave" n) = none by rw [ans_one, oneA_leave ⟨hn, hm⟩, if_pos hg]; rfl)] at this
              exact this (hS.ex e)
            · rw [decide_eq_false hg]
              walk_at "go"
              refine i_app h6 (by rw [List.length_map]; have := O.gl; omega) ?_
              generalize hU3 : upd H2 l3 _ = H3
              obtain ⟨x3, g3, k3⟩ := wr_of hU3 h6 (by intro _ z; cases z)
              walk_at "go"
              have := kq [l1, l2, l3] H3 (Ext.xr e (x3.mono (by simp))) (fun b hb => .inl hb)
              rw [exec_some (show ans (some d) (.one "leave" n) = some (("ok" : Str), some { d with gone := d.gone ++ [n] }) by rw [ans_one, oneA_leave ⟨hn, hm⟩, if_neg hg]; rfl)] at this
              exact this ⟨l1, l2, l3, as1, as2, rfl, hnd, k3 _ _ (by walk_at "nm") h1, k3 _ _ (by walk_at "nm") h2, h3.ext x3, k3 _ _ (by walk_at "nm") h4, h5.ext x3, by rw [g3, List.map_append]; rfl⟩
          · by_cases hg : n ∈ d.gone
            · rw [decide_eq_true hg]
              walk_at "go"
              obtain ⟨q1, q2⟩ := idx_first hg
              refine ⟨l3, d.gone, n, d.gone.idxOf n, rfl, rfl, h6, q1, q2, ?_⟩
              generalize hU3 : upd H2 l3 _ = H3
              obtain ⟨x3, g3, k3⟩ := wr_of hU3 h6 (by intro _ z; cases z)
              rw [idx_drop O.gn hg] at g3
              walk_at "go"
              have := kq [l1, l2, l3] H3 (Ext.xr e (x3.mono (by simp))) (fun b hb => .inl hb)
              rw [exec_some (show ans (some d) (.one "come" n) = some (("ok" : Str), some { d with gone := d.gone.filter fun x => decide (x ≠ n) }) by rw [ans_one, oneA_come ⟨hn, hm⟩, if_pos hg]; rfl)] at this
              exact this ⟨l1, l2, l3, as1, as2, rfl, hnd, k3 _ _ (by walk_at "nm") h1, k3 _ _ (by walk_at "nm") h2, h3.ext x3, k3 _ _ (by walk_at "nm") h4, h5.ext x3, g3⟩
            · rw [decide_eq_false hg]
              walk_at "go"
              have := kq [l1, l2, l3] H2 (exExt e) (fun b hb => .inl hb)
              rw [exec_none (show ans (some d) (.one "come" n) = none by rw [ans_one, oneA_come ⟨hn, hm⟩, if_neg hg]; rfl)] at this
              exact this (hS.ex e)
        · rw [decide_eq_false hm]
          walk_at "go"
          exact out fun z => hm z.2
      · walk_at "go"
        exact out fun z => hn z.1
theorem cal__law_gone (T : Txt K mg w) : Cal P w K mg base CX0 1 "_law_gone" (sp__law_gone K) := calOf T.g__law_gone T.d__law_gone (fun _ F => ok__law_gone T F) (fun _ _ _ _ _ _ us hl => match us, hl with | [_, _, _], _ => rfl)
end
end Pp
-- PpLd
set_option maxRecDepth 100000
set_option maxHeartbeats 4000000
namespace Pp
open PySem PySem.Spec PyProof.Rows L2 Evl
def askC (wd : Str) (n : Int) : Cmd := if wd = "away" ∨ wd = "script" ∨ wd = "home" then .alone wd else .one wd n
section
variable {P : Program} {w : World} {K : PySem.W.Frag} {mg : Str → Option Value} {base : Heap} {H : Hp} {Q : VK} {E : XK}
theorem u__law_gone {st : Addr} {fp : List Addr} {o : Option Pd} {wd : Str} {n : Int} (h1 : wd = "leave" ∨ wd = "come") (h3 : StateAt K H st fp o) (h4 : ∀ d, o = some d → d.Ok)
    (k : ∀ fp' H', Ext (st :: fp) H H' → (∀ b ∈ fp', b ∈ fp ∨ H b = none) → StateAt K H' st fp' (exec o (.one wd n)).2 → Q (.str (exec o (.one wd n)).1) H') : sp__law_gone K [.ref st, .str wd, .int n] H Q E := ⟨st, fp, o, wd, n, rfl, h1, h3, h4, k⟩
theorem u__law_stand {l : Addr} {as : List Addr} {files rows : Int} {cs : List Cl} (h1 : H l = some (.lst (as.map V.ref))) (h2 : CallsAt H as cs) (h3 : Bd files rows) (h4 : ∀ c ∈ cs, c.Ok files) (h5 : cs.length ≤ 250)
    (k : ∀ p H', Ex H H' → H p = none → H' p = some (.lst ((standL files rows cs).map V.int)) → Q (.ref p) H') : sp__law_stand [.int files, .int rows, .ref l] H Q E := ⟨l, as, files, rows, cs, rfl, h1, h2, h3, h4, h5, k⟩
theorem u__law_shown {ls lg : Addr} {f r : Nat} {st g : List Int} (h1 : H ls = some (.lst (st.map V.int))) (h2 : H lg = some (.lst (g.map V.int))) (h3 : 0 < f ∧ f < 10) (h4 : r < 1000) (h5 : st.length = r * f) (h6 : g.length ≤ 1000)
    (k : ∀ l (rs : List Addr) H', Ex H H' → H l = none → H' l = some (.lst (rs.map V.ref)) → RowsAt H' rs (shownL f st g) r → Q (.ref l) H') : sp__law_shown [.int f, .ref ls, .ref lg] H Q E := ⟨ls, lg, f, r, st, g, rfl, h1, h2, h3, h4, h5, h6, k⟩
theorem strI_len {i : Int} (h : i.natAbs < 10 ^ 40) : (Str.ofString (toString i)).length ≤ 41 := by
  have := numZ_len (by decide : 0 < 40) h
  rwa [← tl_int, ← TL.len_tl] at this
theorem cat_len (a b : Str) : (a ++ b).length = a.length + b.length := by rw [TL.len_tl, TL.tl_append, List.length_append, ← TL.len_tl, ← TL.len_tl]
theorem small40 {n : Int} (h : 0 ≤ n ∧ n < 100000) : n.natAbs < 10 ^ 40 := by
  have h4 : (10 : Nat) ^ 5 ≤ 10 ^ 40 := by decide +kernel
  omega
theorem shown_intN {d : Pd} (h : d.Ok) {i : Nat} : ∀ v ∈ shownL d.files.toNat d.st d.gone i, IntN v := fun v hv => by
  have hb := bd_mul h.bd
  unfold shownL at hv
  obtain ⟨x, hx, rfl⟩ := List.mem_map.mp hv
  have hx := List.mem_of_mem_drop (List.mem_of_mem_take hx)
  have hr := stand_rng (files := d.files) (rows := d.rows) (by omega) d.done x hx
  unfold pvV
  split
  · exact .inl rfl
  · exact .inr ⟨x, rfl, small_ok (by omega)⟩
theorem placeT_eq (d : Pd) (n : Int) : placeT d n = Str.ofString (toString (((d.st.idxOf n : Nat) : Int) / d.files)) ++ "." ++ Str.ofString (toString (((d.st.idxOf n : Nat) : Int) % d.files)) := by
  unfold placeT
  rw [TL.join_eq]
  rfl
theorem mates_sort {l g ns : List Int} {n : Int} (h1 : ns.Perm (l.filter fun x => decide (x ≠ n) && decide (x ∉ g))) (h2 : ns.Pairwise (· ≤ ·)) : ns = (sortI (l.filter fun x => decide (x ≠ n))).filter fun x => !decide (x ∈ g) := by
  refine sort_eq (h1.trans ?_) h2 ((sortI_sorted _).filter _)
  refine List.Perm.trans (List.Perm.of_eq ?_) ((sortI_perm _).filter _).symm
  rw [List.filter_filter]
  refine List.filter_congr fun x _ => ?_
  by_cases h1 : x = n <;> by_cases h2 : x ∈ g <;> simp [h1, h2]
abbrev s__law_desk_said : Stmt := top 83
abbrev N__law_desk_said : List Str := ["_law_state", "_law_word", "_law_number", "_law_files", "_law_rows", "_law_calls", "_law_gone_here", "_law_stand_here", "_law_first", "_law_some", "_law_one_here"]
theorem sc__law_desk_said : FnScope N__law_desk_said ["_law_state", "_law_word", "_law_number"] (defScope s__law_desk_said) := ⟨rfl, rfl, rfl, by decide +kernel, rfl, by decide +kernel, by decide +kernel⟩
def sp__law_desk_said (K : PySem.W.Frag) : Sp := fun vs H Q _ => ∃ (st : Addr) (fp : List Addr) (o : Option Pd) (wd : Str) (n : Int), vs = [.ref st, .str wd, .int n] ∧ (wd = "away" ∨ wd = "script" ∨ wd = "home" ∨ wd = "where" ∨ wd = "mates" ∨ wd = "row") ∧ StateAt K H st fp o ∧ (∀ d, o = some d → d.Ok ∧ d.Sm) ∧
  RetV (.str (exec o (askC wd n)).1) H Q
theorem ok__law_desk_said (T : Txt K mg w) {f : Addr} {fd : FuncData} (F : DefAt K "_law_desk_said" "_law_desk_said" s__law_desk_said f fd) : FnOk P w K mg base CX0 4 f fd ["_law_state", "_law_word", "_law_number"] (sp__law_desk_said K) := by
  refine ok0 F sc__law_desk_said (fun vs H Q E h => ?_) (fun cdv A outer s H vs Q E hr h => ?_)
  · walk_at "len"
  · obtain ⟨st, fp, o, wd, n, rfl, hw, hS, hO, kq⟩ := h
    refine ⟨_, (pss_cons (ps_if (pt_cmpR (op_eqD hr.units) (pv 0) (pe_lst pa_nil) (nomark _)) (pss_one (ps_ret pe_str)) pss_nil)
  (pss_cons (ps_asg (pe_tup (pa_cons (pe_ix ix_list (pv 0) pe_int (fun _ _ => rfl)) (pa_cons (pe_ix ix_list (pv 0) pe_int (fun _ _ => rfl)) (pa_cons (pe_ix ix_list (pv 0) pe_int (fun _ _ => rfl)) (pa_cons (pe_ix ix_list (pv 0) pe_int (fun _ _ => rfl)) pa_nil))))) (pg_tup (by rfl) (pgs_cons (pg_name (i := 3) sc__law_desk_said.nd rfl (Or.inl rfl)) (pgs_cons (pg_name (i := 4) sc__law_desk_said.nd rfl (Or.inl rfl)) (pgs_cons (pg_name (i := 5) sc__law_desk_said.nd rfl (Or.inl rfl)) (pgs_cons (pg_name (i := 6) sc__law_desk_said.nd rfl (Or.inr rfl)) pgs_nil))))))
  (pss_cons (ps_set (i := 7) sc__law_desk_said.nd rfl (Or.inl rfl) (pe_cal (cal__law_stand T) hr px0 (pa_cons (pv 3) (pa_cons (pv 4) (pa_cons (pv 5) pa_nil)))))
  (pss_cons (ps_if (pt_cmpR op_eq (pv 1) pe_str (nomark _)) (pss_one (ps_ret (pe_cal (cal__law_joined T) hr px0 (pa_cons (pe_callB cr_sortedI (by rfl) T.b_sorted (by decide +kernel) (pa_cons (pv 6) pa_nil)) pa_nil)))) pss_nil)
  (pss_cons (ps_if (pt_cmpR op_eq (pv 1) pe_str (nomark _)) (pss_one (ps_ret (pe_cal (cal__law_script_text T) hr px0 (pa_cons (pv 3) (pa_cons (pv 5) pa_nil))))) pss_nil)
  (pss_cons (ps_if (pt_cmpR op_eq (pv 1) pe_str (nomark _)) (pss_one (ps_ret (pe_ifExp (pt_cmpR (op_eqD hr.units) (pv 7) (pe_listRg rfl (by rfl) T.b_list (prg_1 (by rfl) T.b_range (pe_op op_mul (pv 3) (pv 4)))) (nomark _)) pe_str pe_str))) pss_nil)
  (pss_cons (ps_if (pt_cmpR op_eq (pv 1) pe_str (nomark _)) (pss_cons (ps_if (pt_not (pt_chain op_le op_lt pe_int (pv 2) (pv 4))) (pss_one (ps_ret pe_str)) pss_nil)
  (pss_one (ps_ret (pe_cal (cal__law_joined T) hr px0 (pa_cons (pe_ix ix_list (pe_cal (cal__law_shown T) hr px0 (pa_cons (pv 3) (pa_cons (pv 7) (pa_cons (pv 6) pa_nil)))) (pv 2) (fun _ _ => rfl)) pa_nil))))) pss_nil)
  (pss_cons (ps_if (pt_not (pt_chain op_le op_lt pe_int (pv 2) (pe_op op_mul (pv 3) (pv 4)))) (pss_one (ps_ret pe_str)) pss_nil)
  (pss_cons (ps_set (i := 8) sc__law_desk_said.nd rfl (Or.inl rfl) (pe_op op_mul (pe_op op_fdiv (pe_bm PySem.F.plainAttrs_list PySem.F.slot_list_index PySem.F.type_list_index mt_index (pv 7) (pa_cons (pv 2) pa_nil)) (pv 3)) (pv 3)))
  (pss_cons (ps_if (pt_cmpR op_eq (pv 1) pe_str (nomark _)) (pss_one (ps_ret (pe_op op_addS (pe_op op_addS (pe_callTy cr_strI (by rfl) T.b_str (by decide +kernel) (pa_cons (pe_op op_fdiv (pv 8) (pv 3)) pa_nil)) pe_str) (pe_callTy cr_strI (by rfl) T.b_str (by decide +kernel) (pa_cons (pe_op op_sub (pe_bm PySem.F.plainAttrs_list PySem.F.slot_list_index PySem.F.type_list_index mt_index (pv 7) (pa_cons (pv 2) pa_nil)) (pv 8)) pa_nil))))) pss_nil)
  (pss_cons (ps_setLc (i := 9) (own := [("_law_one_here", 10)]) (g := gName 10) rfl sc__law_desk_said.nd rfl rfl (sw_true rfl rfl rfl (by decide +kernel)) (pi_list (pe_slice sl_list (pv 7) (po_some (pv 8)) (po_some (pe_op op_add (pv 8) (pv 3))))) (blkOk_by (own := [("_law_one_here", 10)]) (N := N__law_desk_said) (sc := defScope s__law_desk_said) (by decide +kernel)) (fun _ _ _ _ _ => pg_name (i := 10) sc__law_desk_said.nd rfl (Or.inl rfl)) (fun _ _ _ _ _ => pts_one (PW.pt (pw_and (pt_cmpR op_ne (pv 10) (pv 2) (nomark _)) (pw_and1 (pt_cmpR (op_notInK (K := K) rfl) (pv 10) (pv 6) (by rfl)))))) (fun _ _ _ _ _ => (pv 10)))
  (pss_one (ps_ret (pe_cal (cal__law_joined T) hr px0 (pa_cons (pe_callB cr_sortedI (by rfl) T.b_sorted (by decide +kernel) (pa_cons (pv 9) pa_nil)) pa_nil))))))))))))))), ?_⟩
    walk_at "go"
    refine i_eqSt (hS.ex e) g ?_
    cases o with
    | none =>
      walk_at "go"
      have := kq _ e
      rcases hw with rfl | rfl | rfl | rfl | rfl | rfl <;> exact this
    | some d =>
      obtain ⟨O, O2⟩ := hO d rfl
      obtain ⟨l1, l2, l3, as1, as2, rfl, hnd, h1, h2, h3, h4, h5, h6⟩ := hS.ex e
      obtain ⟨⟨b1, b2⟩, b3, b4⟩ := O.bd
      walk_at "go"
      have e0t : Ex H H2 := by walk_at "ex"
      refine u__law_stand (e _ _ h2) (h3.ex e) O.bd O.dn (by have := O.ld; omega) fun ps H5 e5 hps g5 => ?_
      have h35 := (h3.ex e).ex e5
      have h25 := e5 _ _ (e _ _ h2)
      have h65 := e5 _ _ (e _ _ h6)
      have e6 : Ex H H5 := e0t.trans e5
      have g5 : H5 ps = some (.lst (d.st.map V.int)) := g5
      clear h1 h2 h3 h4 h5 h6 e5 e g e0t
      have fin : ∀ {a : Str}, (exec (some d) (askC wd n)).1 = a → ∀ H', Ex H5 H' → Q (.str a) H' := fun ha H' e' => ha ▸ kq H' (e6.trans e')
      clear kq
      rcases hw with rfl | rfl | rfl | rfl | rfl | rfl
      · walk_at "go"
        refine i_sortedI h65 fun ns' p H2 hp1 hp2 hp e g => ?_
        walk_at "go"
        refine u__law_joined g (fun v hv => ?_) (by rw [List.length_map, hp1.length_eq]; have := O.gl; omega) fun H7 e7 => ?_
        · obtain ⟨x, hx, rfl⟩ := List.mem_map.mp hv
          have hx := O.gi x (hp1.subset hx)
          have hb := bd_mul O.bd
          exact .inr ⟨x, rfl, small_ok (by omega)⟩
        · refine fin ?_ H7 (e.trans e7)
          rw [sortI_uniq hp1 hp2]
          rfl
      · walk_at "go"
        refine u__law_script_text h25 h35 (by omega) O2.1 (by have := O.ld; omega) fun H7 e7 => ?_
        exact fin rfl H7 e7
      · walk_at "go"
        have hb := bd_mul O.bd
        rw [show d.files * d.rows = d.rows * d.files from Int.mul_comm _ _]
        refine i_rg ⟨by omega, by omega⟩ rfl ?_
        clear e g
        walk_at "go"
        rw [home_rg] at g
        refine i_eqI (e _ _ g5) g ?_
        have hx : (exec (some d) (askC "home" n)).1 = if d.st = home d.st.length then ("yes" : Str) else ("no" : Str) := rfl
        have hl : d.st.length = (d.rows * d.files).toNat := stand_len
        rw [hl] at hx
        refine i_bl (i_dec (fun h => ?_) (fun h => ?_))
        · rw [if_pos h] at hx
          walk_at "go"
          exact fin hx _ e
        · rw [if_neg h] at hx
          walk_at "go"
          exact fin hx _ e
      · walk_at "go"
        have hb := bd_mul O.bd
        refine i_dec (fun hn => ?_) (fun hn => ?_)
        · walk_at "go"
          rw [show d.files * d.rows = d.rows * d.files from Int.mul_comm _ _]
          by_cases hm : n < d.rows * d.files
          · have hin : n ∈ d.st := stand_mem O.bd _ rfl O.dn n hn hm
            rw [decide_eq_true hm]
            have hl : d.st.length = (d.rows * d.files).toNat := stand_len
            have hlt : d.st.idxOf n < d.st.length := List.idxOf_lt_length_iff.mpr hin
            have q1 : ((d.st.idxOf n : Nat) : Int) / d.files ≤ ((d.st.idxOf n : Nat) : Int) := Int.ediv_le_self _ (by omega)
            have q2 : 0 ≤ ((d.st.idxOf n : Nat) : Int) / d.files := Int.ediv_nonneg (by omega) (by omega)
            have q3 := Int.emod_nonneg ((d.st.idxOf n : Nat) : Int) (show d.files ≠ 0 by omega)
            have q4 := Int.emod_lt_of_pos ((d.st.idxOf n : Nat) : Int) (show 0 < d.files by omega)
            have q5 := Int.emod_def ((d.st.idxOf n : Nat) : Int) d.files
            rw [Int.mul_comm] at q5
            walk_at "go"
            refine i_index g5 hin ?_
            walk_at "go"
            rw [Int.mul_ediv_cancel _ (show d.files ≠ 0 by omega)]
            refine i_strI (log_lt (small_ok ⟨by omega, by omega⟩)) ?_
            have n1 := strI_len (small40 (n := ((d.st.idxOf n : Nat) : Int) / d.files) ⟨by omega, by omega⟩)
            have n2 := strI_len (small40 (n := ((d.st.idxOf n : Nat) : Int) % d.files) ⟨by omega, by omega⟩)
            have n3 : (".": Str).length = 1 := rfl
            walk_at "go"
            refine i_catS (by omega) ?_
            walk_at "go"
            refine i_index g5 hin ?_
            walk_at "go"
            rw [← q5]
            refine i_strI (log_lt (small_ok ⟨by omega, by omega⟩)) ?_
            refine i_catS (by rw [cat_len]; omega) ?_
            exact fin (by show (exec (some d) (.one "where" n)).1 = _; rw [exec_some (show ans (some d) (.one "where" n) = some (placeT d n, some d) by rw [ans_one, oneA_where ⟨hn, hm⟩]; rfl), placeT_eq]) _ (Ex.refl _)
          · rw [decide_eq_false hm]
            walk_at "go"
            exact fin (by show (exec (some d) (.one "where" n)).1 = _; rw [exec_none (show ans (some d) (.one "where" n) = none by rw [ans_one, oneA_out (fun z => hm z.2) (by decide)]; rfl)]) _ (Ex.refl _)
        · walk_at "go"
          exact fin (by show (exec (some d) (.one "where" n)).1 = _; rw [exec_none (show ans (some d) (.one "where" n) = none by rw [ans_one, oneA_out (fun z => hn z.1) (by decide)]; rfl)]) _ (Ex.refl _)
      · walk_at "go"
        have hb := bd_mul O.bd
        refine i_dec (fun hn => ?_) (fun hn => ?_)
        · walk_at "go"
          rw [show d.files * d.rows = d.rows * d.files from Int.mul_comm _ _]
          by_cases hm : n < d.rows * d.files
          · have hin : n ∈ d.st := stand_mem O.bd _ rfl O.dn n hn hm
            rw [decide_eq_true hm]
            have hl : d.st.length = (d.rows * d.files).toNat := stand_len
            have hlt : d.st.idxOf n < d.st.length := List.idxOf_lt_length_iff.mpr hin
            have q1 : ((d.st.idxOf n : Nat) : Int) / d.files ≤ ((d.st.idxOf n : Nat) : Int) := Int.ediv_le_self _ (by omega)
            have q2 : 0 ≤ ((d.st.idxOf n : Nat) : Int) / d.files := Int.ediv_nonneg (by omega) (by omega)
            have q3 := Int.emod_nonneg ((d.st.idxOf n : Nat) : Int) (show d.files ≠ 0 by omega)
            have q4 := Int.emod_lt_of_pos ((d.st.idxOf n : Nat) : Int) (show 0 < d.files by omega)
            have q5 := Int.emod_def ((d.st.idxOf n : Nat) : Int) d.files
            rw [Int.mul_comm] at q5
            walk_at "go"
            refine i_index g5 hin ?_
            walk_at "go"
            have hcut : cutV (d.st.map V.int) (some (((d.st.idxOf n : Nat) : Int) / d.files * d.files)) (some (((d.st.idxOf n : Nat) : Int) / d.files * d.files + d.files)) = (rowL d.files.toNat d.st n).map V.int := by
              have := row_cut b1 d.st n
              rwa [Int.add_mul, Int.one_mul] at this
            rw [hcut] at g
            have rl : (rowL d.files.toNat d.st n).length ≤ 10 := by unfold rowL; rw [List.length_take]; omega
            refine lc_intsF g (fun x => decide (x ≠ n) && decide (x ∉ d.gone)) V.int (by omega) (fun _ => rfl) (fun x H6 e6' _ Qb q => ?_) (fun x H6 e6' _ Q1 q => ?_) (fun l6 H6 hl6 e6' g6 => ?_)
            · have h66 := e6' _ _ (e _ _ h65)
              have q := q H6 (Ex.refl _)
              by_cases hxn : x = n
              · subst hxn
                walk_at "go"
                simpa using q
              · walk_at "go"
                refine i_ninL (SqL.of h66) rfl (flat_ints _) (i_bl ?_)
                rw [in_ints]
                simpa [hxn] using q
            · walk_at "go"
              exact q _ (Ex.refl _)
            · walk_at "go"
              refine i_sortedI g6 fun ns' p7 H7 hp1 hp2 hp7 e7 g7 => ?_
              walk_at "go"
              refine u__law_joined g7 (fun v hv => ?_) (by rw [List.length_map, hp1.length_eq]; have := List.length_filter_le (fun x => decide (x ≠ n) && decide (x ∉ d.gone)) (rowL d.files.toNat d.st n); omega) fun H8 e8 => ?_
              · obtain ⟨x, hx, rfl⟩ := List.mem_map.mp hv
                have hx := (List.mem_filter.mp (hp1.subset hx)).1
                unfold rowL at hx
                have hr := stand_rng (files := d.files) (rows := d.rows) (by omega) d.done x (List.mem_of_mem_drop (List.mem_of_mem_take hx))
                exact .inr ⟨x, rfl, small_ok (by omega)⟩
              · refine fin ?_ _ (((e.trans e6').trans e7).trans e8)
                show (exec (some d) (.one "mates" n)).1 = _
                rw [exec_some (show ans (some d) (.one "mates" n) = some (matesT d n, some d) by rw [ans_one, oneA_mates ⟨hn, hm⟩]; rfl), mates_sort hp1 hp2]
                rfl
          · rw [decide_eq_false hm]
            walk_at "go"
            exact fin (by show (exec (some d) (.one "mates" n)).1 = _; rw [exec_none (show ans (some d) (.one "mates" n) = none by rw [ans_one, oneA_out (fun z => hm z.2) (by decide)]; rfl)]) _ (Ex.refl _)
        · walk_at "go"
          exact fin (by show (exec (some d) (.one "mates" n)).1 = _; rw [exec_none (show ans (some d) (.one "mates" n) = none by rw [ans_one, oneA_out (fun z => hn z.1) (by decide)]; rfl)]) _ (Ex.refl _)
      · walk_at "go"
        have hb := bd_mul O.bd
        have hx : (exec (some d) (askC "row" n)).1 = if 0 ≤ n ∧ n < d.rows then oneText (shownL d.files.toNat d.st d.gone n.toNat) else ("refused" : Str) := rfl
        refine i_dec (fun hn => ?_) (fun hn => ?_)
        · walk_at "go"
          by_cases hm : n < d.rows
          · rw [if_pos ⟨hn, hm⟩] at hx
            rw [decide_eq_true hm]
            walk_at "go"
            obtain ⟨fN, hf⟩ := Int.eq_ofNat_of_zero_le (Int.le_of_lt b1)
            rw [hf]
            have hl : d.st.length = (d.rows * d.files).toNat := stand_len
            refine u__law_shown (r := d.rows.toNat) g5 h65 ⟨by omega, by omega⟩ (by omega) (by rw [hl, hf, Int.toNat_mul (by omega) (by omega), Int.toNat_natCast]) (by have := O.gl; omega) fun l rs H7 e7 hl7 g7 hrs => ?_
            obtain ⟨r, hr1, hr2⟩ := hrs.2 n.toNat (by omega)
            have hix : atI (rs.map V.ref) n = some (.ref r) := by
              have := atI_at (xs := rs.map V.ref) (v := V.ref r) (i := n.toNat) (by rw [List.getElem?_map, hr1]; rfl)
              rwa [Int.toNat_of_nonneg hn] at this
            walk_at "go"
            have hff : fN = d.files.toNat := by omega
            rw [hff] at hr2
            refine u__law_joined hr2 (fun v hv => ?_) (shown_len O) fun H8 e8 => fin hx H8 (e7.trans e8)
            exact shown_intN O v hv
          · rw [if_neg fun z => hm z.2] at hx
            rw [decide_eq_false hm]
            walk_at "go"
            exact fin hx _ (Ex.refl _)
        · rw [if_neg fun z => hn z.1] at hx
          walk_at "go"
          exact fin hx _ (Ex.refl _)
theorem cal__law_desk_said (T : Txt K mg w) : Cal P w K mg base CX0 4 "_law_desk_said" (sp__law_desk_said K) := calOf T.g__law_desk_said T.d__law_desk_said (fun _ F => ok__law_desk_said T F) (fun _ _ _ _ _ _ us hl => match us, hl with | [_, _, _], _ => rfl)
end
end Pp
-- PpLe
set_option maxRecDepth 100000
set_option maxHeartbeats 4000000
namespace Pp
open PySem PySem.Spec PyProof.Rows L2 Evl
/-- facts of the head: how the law looks at a caught error -/
structure TxtE (K : PySem.W.Frag) (mg : Str → Option Value) : Prop where
  g : mg "PupilError" = some (.ref (He.ga K "PupilError"))
  c : ExcC K (He.ga K "NoCommand")
  y1 : PySem.W.kitOne K (.ref (He.ga K "NoCommand")) (.ref (He.ga K "NoCommand")) = some true
  y2 : PySem.W.kitOne K (.ref (He.ga K "NoCommand")) (.ref (He.ga K "NoText")) = some false
section
variable {P : Program} {w : World} {K : PySem.W.Frag} {mg : Str → Option Value} {base : Heap} {H : Hp} {Q : VK} {E : XK}
abbrev s__law_told_line : Stmt := top 81
abbrev N__law_told_line : List Str := ["_law_desk", "_law_line_here", "_law_found", "e"]
theorem sc__law_told_line : FnScope N__law_told_line ["_law_desk", "_law_line_here"] (defScope s__law_told_line) := ⟨rfl, rfl, rfl, by decide +kernel, rfl, by decide +kernel, by decide +kernel⟩
theorem takes_none {X : Cx} : Takes X (fun _ _ _ _ => False) := fun _ _ ⟨_, _, _, _, _, _, _, _, _, _, _, _, _, _, _, _, w⟩ => w.elim
/-- what the law hears of a line -/
def sp__law_told_line (K : PySem.W.Frag) : Sp := fun vs H Q _ => ∃ (dk : Addr) (fp : List Addr) (o : Option Pd) (v : V), vs = [.ref dk, v] ∧ DeskAt K H dk fp o ∧ (∀ d, o = some d → d.Ok ∧ d.Sm) ∧
  ((NotStr K H v ∧ RetV .non H Q) ∨ ∃ z : Str, v = .str z ∧ z.length ≤ 40000 ∧ (∀ n, parse z ≠ some (.one "met" n)) ∧ (parse z = none → RetV .non H Q) ∧
    (∀ c, parse z = some c → ∀ fp' H', Ext (dk :: fp) H H' → (∀ b ∈ fp', b ∈ fp ∨ H b = none) → DeskAt K H' dk fp' (exec o c).2 → Q (.str (exec o c).1) H'))
theorem ok__law_told_line (T : Txt K mg w) (U : TxtX P K mg) (M : TxtM K) (N : TxtE K mg) {f : Addr} {fd : FuncData} (F : DefAt K "_law_told_line" "_law_told_line" s__law_told_line f fd) : FnOk P w K mg base CX0 14 f fd ["_law_desk", "_law_line_here"] (sp__law_told_line K) := by
  refine ok0 F sc__law_told_line (fun vs H Q E h => ?_) (fun cdv A outer s H vs Q E hr h => ?_)
  · obtain ⟨dk, fp, o, v, rfl, _⟩ := h
    rfl
  · obtain ⟨dk, fp, o, v, rfl, hD, hO, h⟩ := h
    refine ⟨_, pss_one (ps_try_asE (i := 3) (c := .ref (He.ga K "PupilError"))
      (ts := fun a cls d D σ H => (cls = .ref (He.ga K "NoCommand") ∧ d = none) ∧ tRet (tIf (tAnd (tB (tCB (rIsE K (He.ga K "NoCommand") a) (tCons (tVar 3) (tCons (tC (.ref (He.ga K "NoCommand"))) tNil)))) (tNot (tB (tCB (rIsE K (He.ga K "NoCommand") a) (tCons (tVar 3) (tCons (tC (.ref (He.ga K "NoText"))) tNil)))))) (tC .non) (tC (.str "other"))) D σ H)
      (pss_one (ps_ret (pe_ifExp (pt_cmpR op_isN (pv 2) pe_non (nomark _)) pe_str (pv 2)))) rfl rfl sc__law_told_line.nd rfl rfl ⟨rfl, by decide, .inl N.g⟩ (Wout := fun _ _ _ _ => False) takes_none
      (fun W pn xe tkW ps => pss_one (ps_set (i := 2) sc__law_told_line.nd rfl (Or.inl rfl) (pe_met (met_Desk_execute T U M) hr (E := fun σ => WE W σ) (fun σ => passAt tkW σ) (pv 0) (pa_cons (pv 1) pa_nil))))
      (fun a oe cls d pn hz hd => pss_if fun hp => by
        obtain ⟨rfl, rfl⟩ := hp
        exact pss_one (ps_ret (pe_ifExp (PW.pt (pw_and (pt_val (pe_callB (call_isE N.c hz hd) (by rfl) T.b_isinstance (by decide +kernel) (pa_cons (pv 3) (pa_cons (pe_glob (v := .ref (He.ga K "NoCommand")) (by rfl) U.x_NoCommand.g rfl) pa_nil)))) (pw_and1 (pt_not (pt_val (pe_callB (call_isE N.c hz hd) (by rfl) T.b_isinstance (by decide +kernel) (pa_cons (pv 3) (pa_cons (pe_glob (v := .ref (He.ga K "NoText")) (by rfl) U.x_NoText.g rfl) pa_nil)))))))) pe_non pe_str)))), ?_⟩
    obtain ⟨dx, dv, hdk⟩ := hD.ob
    have heard : ∀ (σ : L2.St) (H' : Hp), σ.length = 4 → Q .non H' → wAs K (Value.ref (He.ga K "PupilError")) 3 (fun a cls d D σ H => (cls = .ref (He.ga K "NoCommand") ∧ d = none) ∧ tRet (tIf (tAnd (tB (tCB (rIsE K (He.ga K "NoCommand") a) (tCons (tVar 3) (tCons (tC (.ref (He.ga K "NoCommand"))) tNil)))) (tNot (tB (tCB (rIsE K (He.ga K "NoCommand") a) (tCons (tVar 3) (tCons (tC (.ref (He.ga K "NoText"))) tNil)))))) (tC .non) (tC (.str "other"))) D σ H) (fun _ _ _ _ => False) { nx := fun x H' => Q V.non H', rt := Q } (.ref (He.ga K "NoCommand")) none σ H' := by
      intro σ H' hl q
      refine ⟨true, (M.m "NoCommand" (by decide +kernel) "PupilError" (by decide +kernel)).trans (congrArg some (by decide +kernel)), fun _ a ha => ⟨⟨rfl, rfl⟩, ?_⟩, fun z => nomatch z⟩
      have h3 : (σ.set 3 (some (.ref a)))[3]? = some (some (.ref a)) := List.getElem?_set_self (by omega)
      refine i_ret (i_ifE (i_andT (i_tB (i_cb (i_cons (i_var h3 (i_cons (i_c (i_nil ⟨.ref (He.ga K "NoCommand"), .ref (He.ga K "NoCommand"), true, rfl, fun _ e => e, N.y1, i_bl (i_tt ?_)⟩))))))))) 
      refine i_not (i_tB (i_cb (i_cons (i_var h3 (i_cons (i_c (i_nil ⟨.ref (He.ga K "NoText"), .ref (He.ga K "NoText"), false, rfl, fun _ e => e, N.y2, i_bl ?_⟩)))))))
      exact i_nf (i_c q)
    walk_at "go"
    rcases h with ⟨hns, kn⟩ | ⟨z, rfl, hz, hmet, k0, k1⟩
    · exact ⟨dk, fp, o, v, rfl, hD, hO, .inl ⟨hns, fun H' e' => heard _ _ rfl (kn H' e')⟩⟩
    · refine ⟨dk, fp, o, .str z, rfl, hD, hO, .inr ⟨z, rfl, hz, hmet, fun hn H' e' => heard _ _ rfl (k0 hn H' e'), fun c hc fp' H' x' hn' hD' => ?_⟩⟩
      have := k1 c hc fp' H' x' hn' hD'
      walk_at "go"
      refine ⟨rfl, i_bl (i_f (by simp) ?_)⟩
      walk_at "go"
      exact this
theorem cal__law_told_line (T : Txt K mg w) (U : TxtX P K mg) (M : TxtM K) (N : TxtE K mg) : Cal P w K mg base CX0 14 "_law_told_line" (sp__law_told_line K) := calOf T.g__law_told_line T.d__law_told_line (fun _ F => ok__law_told_line T U M N F) (fun _ _ _ _ _ _ us hl => match us, hl with | [_, _], _ => rfl)
theorem u_told_no {dk : Addr} {fp : List Addr} {o : Option Pd} {v : V} (h1 : DeskAt K H dk fp o) (h2 : ∀ d, o = some d → d.Ok ∧ d.Sm) (h3 : NotStr K H v) (k : RetV .non H Q) : sp__law_told_line K [.ref dk, v] H Q E := ⟨dk, fp, o, v, rfl, h1, h2, .inl ⟨h3, k⟩⟩
theorem u_told_bad {dk : Addr} {fp : List Addr} {o : Option Pd} {z : Str} (h1 : DeskAt K H dk fp o) (h2 : ∀ d, o = some d → d.Ok ∧ d.Sm) (h3 : z.length ≤ 40000) (h4 : parse z = none) (k : RetV .non H Q) : sp__law_told_line K [.ref dk, .str z] H Q E :=
  ⟨dk, fp, o, .str z, rfl, h1, h2, .inr ⟨z, rfl, h3, fun n => (by rw [h4]; intro z; cases z), fun _ => k, fun c hc => by rw [h4] at hc; cases hc⟩⟩
theorem u_told {dk : Addr} {fp : List Addr} {o : Option Pd} {z : Str} {c : Cmd} (h1 : DeskAt K H dk fp o) (h2 : ∀ d, o = some d → d.Ok ∧ d.Sm) (h3 : z.length ≤ 40000) (h4 : parse z = some c) (h5 : ∀ n, c ≠ .one "met" n)
    (k : ∀ fp' H', Ext (dk :: fp) H H' → (∀ b ∈ fp', b ∈ fp ∨ H b = none) → DeskAt K H' dk fp' (exec o c).2 → Q (.str (exec o c).1) H') : sp__law_told_line K [.ref dk, .str z] H Q E :=
  ⟨dk, fp, o, .str z, rfl, h1, h2, .inr ⟨z, rfl, h3, fun n e => (by rw [h4] at e; exact h5 n (Option.some.inj e)), fun hn => (by rw [h4] at hn; cases hn), fun c' hc => (by rw [h4] at hc; cases hc; exact k)⟩⟩
end
end Pp
-- PpLf
set_option maxRecDepth 100000
set_option maxHeartbeats 4000000
namespace Pp
open PySem PySem.Spec PyProof.Rows L2 Evl
/-- the law's bag at b, its cells at l -/
structure BagAt (H : Hp) (b l : Addr) : Prop where
  ex : ∃ (m x n : Int) (cs : List Int), H b = some (.lst [.int m, .int x, .int n, .ref l]) ∧ H l = some (.lst (cs.map V.int)) ∧ 0 ≤ m ∧ (0 ≤ x ∧ x < 2147483647) ∧ 0 ≤ n ∧ (∀ c ∈ cs, 0 ≤ c) ∧ cs.length ≤ 63
  ne : b ≠ l
theorem BagAt.ext {G : List Addr} {H H' : Hp} {b l : Addr} (h : BagAt H b l) (e : Ext G H H') (n : ∀ a ∈ [b, l], a ∉ G) : BagAt H' b l := by
  obtain ⟨⟨m, x, k, cs, h1, h2, h3⟩, ne⟩ := h
  exact ⟨⟨m, x, k, cs, e.keep _ _ h1 (n _ (by simp)), e.keep _ _ h2 (n _ (by simp)), h3⟩, ne⟩
theorem BagAt.e {H H' : Hp} {b l : Addr} (h : BagAt H b l) (e : Ex H H') : BagAt H' b l := h.ext (exExt (G := []) e) fun _ _ z => nomatch z
theorem big_ok {m u : Int} (h0 : 0 < u) (h1 : u ≤ 10 ^ 40) : CDivL m u := by
  have h : (10 : Nat) ^ 40 < 2 ^ 200 := by decide +kernel
  exact ⟨h0, by omega⟩
section
variable {P : Program} {w : World} {K : PySem.W.Frag} {mg : Str → Option Value} {base : Heap} {H : Hp} {Q : VK} {E : XK}
abbrev s__law_take : Stmt := top 69
abbrev N__law_take : List Str := ["_law_bag_here", "_law_upto", "_law_cell", "_law_mixed_here", "_law_drawn", "_law_begin", "_law_second"]
theorem sc__law_take : FnScope N__law_take ["_law_bag_here", "_law_upto"] (defScope s__law_take) := ⟨rfl, rfl, rfl, by decide +kernel, rfl, by decide +kernel, by decide +kernel⟩
def sp__law_take : Sp := fun vs H Q _ => ∃ (b l : Addr) (u : Int), vs = [.ref b, .int u] ∧ BagAt H b l ∧ 0 < u ∧ u ≤ 10 ^ 40 ∧
  ∀ (r : Int) H', 0 ≤ r → r < u → Ext [b] H H' → BagAt H' b l → Q (.int r) H'
theorem ok__law_take (T : Txt K mg w) {f : Addr} {fd : FuncData} (F : DefAt K "_law_take" "_law_take" s__law_take f fd) : FnOk P w K mg base CX0 1 f fd ["_law_bag_here", "_law_upto"] sp__law_take := by
  refine ok0 F sc__law_take (fun vs H Q E h => ?_) (fun cdv A outer s H vs Q E hr h => ?_)
  · walk_at "len"
  · obtain ⟨b, l, u, rfl, hB, hu0, hu1, kq⟩ := h
    obtain ⟨⟨m, x, n, cs, h1, h2, h3, ⟨h4, h5⟩, h6, h7, h8⟩, hne⟩ := hB
    refine ⟨_, (pss_cons (ps_if (pt_cmpR op_eq (pe_ix ix_list (pv 0) pe_int (fun _ _ => rfl)) pe_int (nomark _)) (pss_cons (ps_set (i := 2) sc__law_take.nd rfl (Or.inl rfl) pe_int)
  (pss_cons (ps_if (pt_cmpR op_lt (pe_ix ix_list (pv 0) pe_int (fun _ _ => rfl)) (pe_callB cr_len (by rfl) T.b_len PySem.boot_len (pa_cons (pe_ix ix_list (pv 0) pe_int (fun _ _ => rfl)) pa_nil)) (nomark _)) (pss_one (ps_set (i := 2) sc__law_take.nd rfl (Or.inl rfl) (pe_ix ix_list (pe_ix ix_list (pv 0) pe_int (fun _ _ => rfl)) (pe_ix ix_list (pv 0) pe_int (fun _ _ => rfl)) (fun _ _ => rfl)))) pss_nil)
  (pss_cons (ps_augS (pv 0) pe_int get_listI pe_int ip_add set_list)
  (pss_cons (ps_if (pt_cmpR op_ge (pv 2) pe_int (nomark _)) (pss_one (ps_asg (pv 2) (pg_sub (pv 0) pe_int set_list))) pss_nil)
  (pss_cons (ps_set (i := 3) sc__law_take.nd rfl (Or.inl rfl) (pe_op op_add (pe_op op_add (pe_op op_mul (pe_ix ix_list (pv 0) pe_int (fun _ _ => rfl)) pe_int) (pe_op op_mod (pe_callTy cr_int (by rfl) T.b_int (by decide +kernel) (pa_cons (pv 2) pa_nil)) pe_int)) (pe_op op_mul pe_int (pe_ix ix_list (pv 0) pe_int (fun _ _ => rfl)))))
  (pss_one (ps_asg (pe_op op_mod (pe_callTy cr_int (by rfl) T.b_int (by decide +kernel) (pa_cons (pv 3) pa_nil)) pe_int) (pg_sub (pv 0) pe_int set_list)))))))) pss_nil)
  (pss_cons (ps_if (pt_cmpR op_gt (pe_ix ix_list (pv 0) pe_int (fun _ _ => rfl)) pe_int (nomark _)) (pss_cons (ps_set (i := 4) sc__law_take.nd rfl (Or.inl rfl) (pe_op op_mod (pe_callTy cr_int (by rfl) T.b_int (by decide +kernel) (pa_cons (pe_ix ix_list (pv 0) pe_int (fun _ _ => rfl)) pa_nil)) (pv 1)))
  (pss_cons (ps_asg (pe_op op_fdivL (pe_callTy cr_int (by rfl) T.b_int (by decide +kernel) (pa_cons (pe_ix ix_list (pv 0) pe_int (fun _ _ => rfl)) pa_nil)) (pv 1)) (pg_sub (pv 0) pe_int set_list))
  (pss_one (ps_ret (pv 4))))) pss_nil)
  (pss_cons (ps_set (i := 5) sc__law_take.nd rfl (Or.inl rfl) (pe_op op_mod (pe_callTy cr_int (by rfl) T.b_int (by decide +kernel) (pa_cons (pe_op op_mul (pe_op op_add (pe_ix ix_list (pv 0) pe_int (fun _ _ => rfl)) pe_int) pe_int) pa_nil)) pe_int))
  (pss_cons (ps_set (i := 6) sc__law_take.nd rfl (Or.inl rfl) (pe_op op_mod (pe_callTy cr_int (by rfl) T.b_int (by decide +kernel) (pa_cons (pe_op op_mul (pe_op op_mod (pe_callTy cr_int (by rfl) T.b_int (by decide +kernel) (pa_cons (pe_op op_mul (pv 5) (pv 5)) pa_nil)) pe_int) pe_int) pa_nil)) pe_int))
  (pss_one (ps_ret (pe_op op_mod (pe_callTy cr_int (by rfl) T.b_int (by decide +kernel) (pa_cons (pe_op op_fdiv (pv 6) pe_int) pa_nil)) (pv 1)))))))), ?_⟩
    refine i_seq ?_
    generalize hR : tSeq _ _ _ = R
    have key : ∀ (o2 o3 : Option V) (m x n : Int) (H' : Hp), Ext [b] H H' → H' b = some (.lst [.int m, .int x, .int n, .ref l]) → 0 ≤ m → 0 ≤ x → x < 2147483647 → 0 ≤ n → R [some (.ref b), some (.int u), o2, o3, none, none, none] H' := by
      intro o2 o3 m x n H' e' g1 g3 g4 g5 g6
      have hl' : H' l = some (.lst (cs.map V.int)) := e'.keep _ _ h2 (by simpa using Ne.symm hne)
      rw [← hR]
      walk_at "go"
      refine i_dec (fun hm => ?_) (fun hm => ?_)
      · walk_at "go"
        refine i_rI (C := CDivL) (big_ok hu0 hu1) ?_
        walk_at "go"
        refine i_setL (j := 0) g1 rfl (by simp) fun H5 hU => ?_
        obtain ⟨x5, g5', k5⟩ := wr_of hU g1 (by intro _ z; cases z)
        walk_at "go"
        exact kq _ H5 (Int.emod_nonneg _ (by omega)) (Int.emod_lt_of_pos _ hu0) (e'.trans x5) ⟨⟨m / u, x, n, cs, g5', k5 _ _ (Ne.symm hne) hl', Int.ediv_nonneg g3 (by omega), ⟨g4, g5⟩, g6, h7, h8⟩, hne⟩
      · walk_at "go"
        exact kq _ H' (Int.emod_nonneg _ (by omega)) (Int.emod_lt_of_pos _ hu0) e' ⟨⟨m, x, n, cs, g1, hl', g3, ⟨g4, g5⟩, g6, h7, h8⟩, hne⟩
    clear hR
    refine i_ifS (i_test ?_)
    walk_at "go"
    refine i_dec (fun hm => ?_) (fun hm => ?_)
    · refine i_seq (i_asg (i_c (i_name ?_)))
      refine i_seq ?_
      generalize hR2 : tSeq _ _ _ = R2
      have key2 : ∀ c : Int, 0 ≤ c → R2 [some (.ref b), some (.int u), some (.int c), none, none, none, none] H := by
        intro c hc
        rw [← hR2]
        walk_at "go"
        refine i_getI (k := 2) (by decide) h1 rfl ?_
        walk_at "go"
        refine i_setL (j := 2) h1 rfl (by simp) fun H3 hU3 => ?_
        obtain ⟨x3, g3, k3⟩ := wr_of hU3 h1 (by intro _ z; cases z)
        have hl3 := k3 _ _ (Ne.symm hne) h2
        have g3 : H3 b = some (.lst [.int m, .int x, .int (n + 1), .ref l]) := g3
        refine i_seq ?_
        generalize hR3 : tSeq _ _ _ = R3
        have key3 : ∀ (m' : Int) (H' : Hp), 0 ≤ m' → Ext [b] H H' → H' b = some (.lst [.int m', .int x, .int (n + 1), .ref l]) → R3 [some (.ref b), some (.int u), some (.int c), none, none, none, none] H' := by
          intro m' H' q1 q2 q3
          rw [← hR3]
          walk_at "go"
          refine i_setL (j := 1) q3 rfl (by simp) fun H5 hU5 => ?_
          obtain ⟨x5, g5, k5⟩ := wr_of hU5 q3 (by intro _ z; cases z)
          exact key (some (.int c)) (some (.int _)) m' _ (n + 1) H5 (q2.trans x5) g5 q1 (Int.emod_nonneg _ (by omega)) (Int.emod_lt_of_pos _ (by omega)) (by omega)
        clear hR3
        walk_at "go"
        refine i_dec (fun hc1 => ?_) (fun hc1 => ?_)
        · walk_at "go"
          refine i_setL (j := 0) g3 rfl (by simp) fun H4 hU4 => ?_
          obtain ⟨x4, g4, k4⟩ := wr_of hU4 g3 (by intro _ z; cases z)
          exact key3 c H4 hc (x3.trans x4) g4
        · walk_at "go"
          exact key3 m H3 h3 x3 g3
      clear hR2
      walk_at "go"
      refine i_dec (fun hn => ?_) (fun hn => ?_)
      · walk_at "go"
        have hnl : n.toNat < cs.length := by rw [List.length_map] at hn; omega
        refine i_ixL (v := .int cs[n.toNat]) (SqL.of h2) (by
          have := atI_at (xs := cs.map V.int) (v := V.int cs[n.toNat]) (i := n.toNat) (by rw [List.getElem?_map, List.getElem?_eq_getElem hnl]; rfl)
          rwa [Int.toNat_of_nonneg h6] at this) ?_
        walk_at "go"
        exact key2 _ (h7 _ (List.getElem_mem hnl))
      · walk_at "go"
        exact key2 0 (Int.le_refl _)
    · walk_at "go"
      exact key _ _ m x n H (Ext.refl _) h1 h3 h4 h5 h6
theorem cal__law_take (T : Txt K mg w) : Cal P w K mg base CX0 1 "_law_take" sp__law_take := calOf T.g__law_take T.d__law_take (fun _ F => ok__law_take T F) (fun _ _ _ _ _ _ us hl => match us, hl with | [_, _], _ => rfl)
end
end Pp
-- PpLg
set_option maxRecDepth 100000
set_option maxHeartbeats 4000000
namespace Pp
open PySem PySem.Spec PyProof.Rows L2 Evl
section
variable {P : Program} {w : World} {K : PySem.W.Frag} {mg : Str → Option Value} {base : Heap} {H : Hp} {Q : VK} {E : XK}
theorem u__law_take {b l : Addr} {u : Int} (h1 : BagAt H b l) (h2 : 0 < u) (h3 : u ≤ 10 ^ 40) (k : ∀ (r : Int) H', 0 ≤ r → r < u → Ext [b] H H' → BagAt H' b l → Q (.int r) H') : sp__law_take [.ref b, .int u] H Q E := ⟨b, l, u, rfl, h1, h2, h3, k⟩
theorem BagAt.at {b l : Addr} (h : BagAt H b l) : ∃ o, H b = some o := by
  obtain ⟨⟨m, x, k, cs, h1, _⟩, _⟩ := h
  exact ⟨_, h1⟩
theorem home_nodup (n : Nat) : (home n).Nodup := by
  unfold home
  refine List.Pairwise.map _ (fun a b h => ?_) List.nodup_range
  intro z
  exact h (by omega)
/-- a fresh object may change -/
theorem Ext.fresh {G : List Addr} {H H1 H2 : Hp} {p : Addr} (e : Ext G H H1) (hp : H p = none) (f : Ext [p] H1 H2) : Ext G H H2 :=
  ⟨fun b o h n => f.keep b o (e.keep b o h n) (by intro z; rw [List.mem_singleton.mp z] at h; rw [hp] at h; cases h), fun b xs h => f.tup b xs (e.tup b xs h), fun b h => e.live b (f.live b h)⟩
abbrev s__law_one : Stmt := top 70
abbrev N__law_one : List Str := ["_law_bag_here", "_law_some"]
theorem sc__law_one : FnScope N__law_one ["_law_bag_here", "_law_some"] (defScope s__law_one) := ⟨rfl, rfl, rfl, by decide +kernel, rfl, by decide +kernel, by decide +kernel⟩
def sp__law_one : Sp := fun vs H Q _ => ∃ (b l s : Addr) (xs : List V), vs = [.ref b, .ref s] ∧ BagAt H b l ∧ H s = some (.lst xs) ∧ s ≠ b ∧ 0 < xs.length ∧ xs.length ≤ 1000 ∧
  ∀ v H', v ∈ xs → Ext [b] H H' → BagAt H' b l → Q v H'
theorem ok__law_one (T : Txt K mg w) {f : Addr} {fd : FuncData} (F : DefAt K "_law_one" "_law_one" s__law_one f fd) : FnOk P w K mg base CX0 2 f fd ["_law_bag_here", "_law_some"] sp__law_one := by
  refine ok0 F sc__law_one (fun vs H Q E h => ?_) (fun cdv A outer s H vs Q E hr h => ?_)
  · walk_at "len"
  · obtain ⟨b, l, s', xs, rfl, hB, hs, hne, hl0, hl1, kq⟩ := h
    refine ⟨_, (pss_one (ps_ret (pe_ix ix_list (pv 1) (pe_cal (cal__law_take T) hr px0 (pa_cons (pv 0) (pa_cons (pe_callB cr_len (by rfl) T.b_len PySem.boot_len (pa_cons (pv 1) pa_nil)) pa_nil))) (fun _ _ => rfl)))), ?_⟩
    walk_at "go"
    refine u__law_take hB (by omega) (by omega) fun r H' hr0 hr1 x' hB' => ?_
    have hs' := x'.keep _ _ hs (by simpa using hne)
    have hrl : r.toNat < xs.length := by omega
    have hix : atI xs r = some xs[r.toNat] := by
      have := atI_at (xs := xs) (v := xs[r.toNat]) (i := r.toNat) (List.getElem?_eq_getElem hrl)
      rwa [Int.toNat_of_nonneg hr0] at this
    walk_at "go"
    exact kq _ H' (List.getElem_mem hrl) x' hB'
theorem cal__law_one (T : Txt K mg w) : Cal P w K mg base CX0 2 "_law_one" sp__law_one := calOf T.g__law_one T.d__law_one (fun _ F => ok__law_one T F) (fun _ _ _ _ _ _ us hl => match us, hl with | [_, _], _ => rfl)
theorem u__law_one {b l s : Addr} {xs : List V} (h1 : BagAt H b l) (h2 : H s = some (.lst xs)) (h3 : s ≠ b) (h4 : 0 < xs.length) (h5 : xs.length ≤ 1000) (k : ∀ v H', v ∈ xs → Ext [b] H H' → BagAt H' b l → Q v H') : sp__law_one [.ref b, .ref s] H Q E := ⟨b, l, s, xs, rfl, h1, h2, h3, h4, h5, k⟩
abbrev s__law_mixed : Stmt := top 71
abbrev N__law_mixed : List Str := ["_law_bag_here", "_law_things", "_law_found", "_law_thing"]
theorem sc__law_mixed : FnScope N__law_mixed ["_law_bag_here", "_law_things"] (defScope s__law_mixed) := ⟨rfl, rfl, rfl, by decide +kernel, rfl, by decide +kernel, by decide +kernel⟩
def sp__law_mixed : Sp := fun vs H Q _ => ∃ (b l t : Addr) (ns : List Int), vs = [.ref b, .ref t] ∧ BagAt H b l ∧ H t = some (.lst (ns.map V.int)) ∧ t ≠ b ∧ ns.length ≤ 1000 ∧
  ∀ (p : Addr) (ms : List Int) H', ms.Perm ns → Ext [b] H H' → BagAt H' b l → H p = none → H' p = some (.lst (ms.map V.int)) → Q (.ref p) H'
theorem ok__law_mixed (T : Txt K mg w) {f : Addr} {fd : FuncData} (F : DefAt K "_law_mixed" "_law_mixed" s__law_mixed f fd) : FnOk P w K mg base CX0 2 f fd ["_law_bag_here", "_law_things"] sp__law_mixed := by
  refine ok0 F sc__law_mixed (fun vs H Q E h => ?_) (fun cdv A outer s H vs Q E hr h => ?_)
  · walk_at "len"
  · obtain ⟨b, l, t, ns, rfl, hB, ht, hne, hl, kq⟩ := h
    obtain ⟨ob, hob⟩ := hB.at
    refine ⟨_, (pss_cons (ps_set (i := 2) sc__law_mixed.nd rfl (Or.inl rfl) (pe_lst pa_nil))
  (pss_cons (ps_for PassesOwn.never rfl (pi_list (pv 1)) (pg_name (i := 3) sc__law_mixed.nd rfl (Or.inl rfl))
  (pss_one (ps_expr (pe_bm PySem.F.plainAttrs_list PySem.F.slot_list_insert PySem.F.type_list_insert mt_ins (pv 2) (pa_cons (pe_cal (cal__law_take T) hr px0 (pa_cons (pv 0) (pa_cons (pe_op op_add (pe_callB cr_len (by rfl) T.b_len PySem.boot_len (pa_cons (pv 2) pa_nil)) pe_int) pa_nil))) (pa_cons (pv 3) pa_nil))))))
  (pss_one (ps_ret (pv 2))))), ?_⟩
    walk_at "go"
    refine fr_L (xs := ns.map V.int) (fun i σ H' => ∃ (o3 : Option V) (ms : List Int), σ = [some (.ref b), some (.ref t), some (.ref p), o3] ∧ ms.Perm (ns.take i) ∧ Ext [b] H H' ∧ BagAt H' b l ∧ H' p = some (.lst (ms.map V.int))) ?_ ?_ ?_ ?_
    · exact ⟨_, [], rfl, .nil, exExt e, hB.e e, g⟩
    · rintro i σ H' _ ⟨o3, ms, _, _, x', _, _⟩
      exact x'.keep _ _ ht (by simpa using hne)
    · rintro i x σ H' hx ⟨o3, ms, rfl, hpm, x', hB', g'⟩
      obtain ⟨n, hn, rfl⟩ := ints_at hx
      have hil : i < ns.length := by
        have := (List.getElem?_eq_some_iff.mp hx).1
        simpa using this
      have hml : ms.length = i := by rw [hpm.length_eq, List.length_take]; omega
      walk_at "go"
      rw [List.length_map, hml]
      refine u__law_take hB' (by omega) (by omega) fun r H3 hr0 hr1 x3 hB3 => ?_
      have hpb : p ≠ b := fun z => by rw [z] at hp; rw [hp] at hob; cases hob
      have hpl : p ≠ l := fun z => by
        obtain ⟨⟨m, x, k, cs, _, h2, _⟩, _⟩ := hB
        rw [z] at hp; rw [hp] at h2; cases h2
      have g3 := x3.keep _ _ g' (by simpa using hpb)
      refine i_cons (i_var rfl (i_nil ?_))
      refine ⟨p, ms.map V.int, r, .int n, rfl, rfl, g3, sz_lt (by rw [List.length_map]; omega), hr0, by omega, ?_⟩
      generalize hU : upd H3 p _ = H4
      obtain ⟨x4, g4, k4⟩ := wr_of hU g3 (by intro _ z; cases z)
      refine ⟨_, ms.take r.toNat ++ [n] ++ ms.drop r.toNat, rfl, ?_, (x'.trans x3).fresh hp x4, hB3.ext x4 (by simp [Ne.symm hpb, Ne.symm hpl]), by rw [g4]; simp⟩
      have hni : ns[i]? = some n := by
        rw [List.getElem?_map] at hx
        cases hq : ns[i]? with
        | none => rw [hq] at hx; cases hx
        | some y => rw [hq] at hx; exact congrArg some (V.int.inj (Option.some.inj hx))
      rw [List.take_succ, hni, List.append_assoc]
      refine List.Perm.trans ?_ (hpm.append_right [n])
      have h1 : (ms.take r.toNat ++ ([n] ++ ms.drop r.toNat)).Perm (ms.take r.toNat ++ (ms.drop r.toNat ++ [n])) := List.Perm.append_left _ List.perm_append_comm
      rwa [← List.append_assoc (ms.take r.toNat) (ms.drop r.toNat), List.take_append_drop] at h1
    · rintro σ H' ⟨o3, ms, rfl, hpm, x', hB', g'⟩
      walk_at "go"
      rw [List.length_map, List.take_length] at hpm
      exact kq p ms H' hpm x' hB' hp g'
theorem cal__law_mixed (T : Txt K mg w) : Cal P w K mg base CX0 2 "_law_mixed" sp__law_mixed := calOf T.g__law_mixed T.d__law_mixed (fun _ F => ok__law_mixed T F) (fun _ _ _ _ _ _ us hl => match us, hl with | [_, _], _ => rfl)
theorem u__law_mixed {b l t : Addr} {ns : List Int} (h1 : BagAt H b l) (h2 : H t = some (.lst (ns.map V.int))) (h3 : t ≠ b) (h4 : ns.length ≤ 1000)
    (k : ∀ (p : Addr) (ms : List Int) H', ms.Perm ns → Ext [b] H H' → BagAt H' b l → H p = none → H' p = some (.lst (ms.map V.int)) → Q (.ref p) H') : sp__law_mixed [.ref b, .ref t] H Q E := ⟨b, l, t, ns, rfl, h1, h2, h3, h4, k⟩
abbrev s__law_call : Stmt := top 73
abbrev N__law_call : List Str := ["_law_bag_here", "_law_files", "_law_kinds", "_law_most", "_law_word", "_law_pair", "_law_k"]
theorem sc__law_call : FnScope N__law_call ["_law_bag_here", "_law_files", "_law_kinds", "_law_most"] (defScope s__law_call) := ⟨rfl, rfl, rfl, by decide +kernel, rfl, by decide +kernel, by decide +kernel⟩
def sp__law_call : Sp := fun vs H Q _ => ∃ (b l kd : Addr) (f mo : Int) (ks : List Str), vs = [.ref b, .int f, .ref kd, .int mo] ∧ BagAt H b l ∧ (f = 2 ∨ f = 3) ∧ H kd = some (.lst (ks.map V.str)) ∧ kd ≠ b ∧ 0 < ks.length ∧ ks.length ≤ 100 ∧ (∀ w ∈ ks, w ∈ wordsL) ∧ 0 < mo ∧ mo ≤ 10 ^ 39 ∧
  ∀ (c : Cl) (aC : Addr) H', c.Ok f → c.Sm → szOf c ≤ mo → Ext [b] H H' → BagAt H' b l → H' aC = some (.tup c.vs) → Q (.ref aC) H'
theorem ok__law_call (T : Txt K mg w) {f : Addr} {fd : FuncData} (F : DefAt K "_law_call" "_law_call" s__law_call f fd) : FnOk P w K mg base CX0 3 f fd ["_law_bag_here", "_law_files", "_law_kinds", "_law_most"] sp__law_call := by
  refine ok0 F sc__law_call (fun vs H Q E h => ?_) (fun cdv A outer s H vs Q E hr h => ?_)
  · walk_at "len"
  · obtain ⟨b, l, kd, f', mo, ks, rfl, hB, hf, hk, hne, hk0, hk1, hkw, hm0, hm1, kq⟩ := h
    obtain ⟨ob, hob⟩ := hB.at
    refine ⟨_, (pss_cons (ps_par (i := 4) (j := 5) (by rfl) sc__law_call.nd rfl rfl (by decide) rfl rfl (pa_cons (pe_cal (cal__law_one T) hr px0 (pa_cons (pv 0) (pa_cons (pv 2) pa_nil))) (pa_cons (pe_slice sl_list (pe_cal (cal__law_mixed T) hr px0 (pa_cons (pv 0) (pa_cons (pe_listRg rfl (by rfl) T.b_list (prg_1 (by rfl) T.b_range (pv 1))) pa_nil))) po_none (po_some pe_int)) pa_nil)) (by rfl))
  (pss_cons (ps_set (i := 6) sc__law_call.nd rfl (Or.inl rfl) (pe_op op_mul (pe_op op_add pe_int (pe_cal (cal__law_take T) hr px0 (pa_cons (pv 0) (pa_cons (pv 3) pa_nil)))) (pe_op op_sub pe_int (pe_op op_mul pe_int (pe_cal (cal__law_take T) hr px0 (pa_cons (pv 0) (pa_cons pe_int pa_nil)))))))
  (pss_cons (ps_if (pt_cmpR op_eq (pv 4) pe_str (nomark _)) (pss_one (ps_ret (pe_tup (pa_cons (pv 4) (pa_cons (pv 6) pa_nil))))) pss_nil)
  (pss_cons (ps_if (pt_cmpR op_eq (pv 4) pe_str (nomark _)) (pss_one (ps_ret (pe_tup (pa_cons (pv 4) (pa_cons (pe_ix ix_list (pv 5) pe_int (fun _ _ => rfl)) (pa_cons (pv 6) pa_nil)))))) pss_nil)
  (pss_cons (ps_if (pt_cmpR op_in_seq (pv 4) (pe_tup (pa_cons pe_str (pa_cons pe_str pa_nil))) (by rfl)) (pss_one (ps_ret (pe_tup (pa_cons (pv 4) (pa_cons (pe_ix ix_list (pv 5) pe_int (fun _ _ => rfl)) (pa_cons (pe_ix ix_list (pv 5) pe_int (fun _ _ => rfl)) pa_nil)))))) pss_nil)
  (pss_cons (ps_if (pt_cmpR op_eq (pv 4) pe_str (nomark _)) (pss_one (ps_ret (pe_tup (pa_cons (pv 4) (pa_cons (pe_ix ix_list (pv 5) pe_int (fun _ _ => rfl)) (pa_cons (pe_ix ix_list (pv 5) pe_int (fun _ _ => rfl)) (pa_cons (pv 6) pa_nil))))))) pss_nil)
  (pss_one (ps_ret (pe_tup (pa_cons (pv 4) pa_nil)))))))))), ?_⟩
    walk_at "go"
    refine u__law_one hB hk hne (by rw [List.length_map]; exact hk0) (by rw [List.length_map]; omega) fun v H1 hv x1 hB1 => ?_
    obtain ⟨wd, hwd, rfl⟩ := List.mem_map.mp hv
    walk_at "go"
    refine i_rg ⟨by omega, by omega⟩ rfl ?_
    walk_at "go"
    rw [home_rg] at g
    have hpb : p ≠ b := fun z => by
      obtain ⟨o1, ho1⟩ := hB1.at
      rw [z] at hp; rw [hp] at ho1; cases ho1
    have hfl : (home f'.toNat).length = f'.toNat := home_len
    refine u__law_mixed (hB1.e e) g hpb (by omega) fun pm ms H3 hpm x3 hB3 _ g3 => ?_
    have hml : ms.length = f'.toNat := by rw [hpm.length_eq, hfl]
    obtain ⟨m0, m1, rest, hms⟩ : ∃ m0 m1 rest, ms = m0 :: m1 :: rest := by
      match ms, hml with
      | m0 :: m1 :: r, _ => exact ⟨m0, m1, r, rfl⟩
      | [], h => rw [List.length_nil] at h; omega
      | [_], h => rw [List.length_singleton] at h; omega
    subst hms
    have hmem : ∀ x ∈ m0 :: m1 :: rest, 0 ≤ x ∧ x < f' := fun x hx => by
      obtain ⟨j, hj, rfl⟩ := List.mem_map.mp (hpm.subset hx)
      have := List.mem_range.mp hj
      omega
    have hm01 : m0 ≠ m1 := by
      have h1 := (hpm.nodup_iff.mpr (home_nodup f'.toNat))
      rintro rfl
      simp at h1
    have b0 := hmem m0 (by simp)
    have b1 := hmem m1 (by simp)
    have hcut : cutV ((m0 :: m1 :: rest).map V.int) none (some 2) = [.int m0, .int m1] := by
      unfold cutV
      simp [HT.sIx]
    walk_at "go"
    rw [hcut] at g
    have hpb3 : p ≠ b := fun z => by
      obtain ⟨o1, ho1⟩ := hB3.at
      rw [z] at hp; rw [hp] at ho1; cases ho1
    have E2 : Ext [b] H H2 := by walk_at "xt"
    refine u__law_take (hB3.e e) hm0 (Int.le_trans hm1 (by decide +kernel)) fun q H4 hq0 hq1 x4 hB4 => ?_
    walk_at "go"
    refine u__law_take hB4 (by omega) (by omega) fun r H5 hr0 hr1 x5 hB5 => ?_
    have g5 := x5.keep _ _ (x4.keep _ _ g (by simpa using hpb3)) (by simpa using hpb3)
    have E5 : Ext [b] H H5 := (E2.trans x4).trans x5
    walk_at "go"
    have hkk : (1 + q) * (1 - 2 * r) = 1 + q ∨ (1 + q) * (1 - 2 * r) = -(1 + q) := by
      rcases (show r = 0 ∨ r = 1 by omega) with rfl | rfl
      · left; simp
      · right; simp
    generalize (1 + q) * (1 - 2 * r) = k at hkk
    have hk1 : k ≠ 0 := by omega
    have hsz : (if k < 0 then -k else k) ≤ mo := by split <;> omega
    have hsz1 : (1 : Int) ≤ mo := by omega
    have hk2 : k.natAbs < 10 ^ 40 := by
      have : (10 : Nat) ^ 39 < 10 ^ 40 := by decide +kernel
      omega
    have hs0 : m0.natAbs < 10 ^ 40 := small40 (by omega)
    have hs1 : m1.natAbs < 10 ^ 40 := small40 (by omega)
    clear E2 x1 x3 x4 x5 hB hB1 hB3 hB4 e g hpm hmem hk hv
    have hw := hkw wd hwd
    simp only [wordsL, List.mem_cons, List.not_mem_nil, or_false] at hw
    rcases hw with rfl | rfl | rfl | rfl | rfl | rfl | rfl | rfl | rfl | rfl
    · walk_at "go"
      exact kq (.all k) _ _ hk1 (by intro n hn; first | (cases hn; done) | skip; simp only [Cl.ns, List.mem_cons, List.not_mem_nil, or_false] at hn; first | (rcases hn with rfl | rfl | rfl <;> assumption) | (rcases hn with rfl | rfl <;> assumption) | (subst hn; assumption)) (by first | exact hsz | exact hsz1) (by walk_at "xt") (hB5.e (by walk_at "ex")) g
    · walk_at "go"
      exact kq (.up m0 k) _ _ ⟨b0, hk1⟩ (by intro n hn; first | (cases hn; done) | skip; simp only [Cl.ns, List.mem_cons, List.not_mem_nil, or_false] at hn; first | (rcases hn with rfl | rfl | rfl <;> assumption) | (rcases hn with rfl | rfl <;> assumption) | (subst hn; assumption)) (by first | exact hsz | exact hsz1) (by walk_at "xt") (hB5.e (by walk_at "ex")) g
    · walk_at "go"
      exact kq (.swap m0 m1) _ _ ⟨b0, b1, hm01⟩ (by intro n hn; first | (cases hn; done) | skip; simp only [Cl.ns, List.mem_cons, List.not_mem_nil, or_false] at hn; first | (rcases hn with rfl | rfl | rfl <;> assumption) | (rcases hn with rfl | rfl <;> assumption) | (subst hn; assumption)) (by first | exact hsz | exact hsz1) (by walk_at "xt") (hB5.e (by walk_at "ex")) g
    · walk_at "go"
      exact kq (.wheel m0 m1 k) _ _ ⟨b0, b1, hm01, hk1⟩ (by intro n hn; first | (cases hn; done) | skip; simp only [Cl.ns, List.mem_cons, List.not_mem_nil, or_false] at hn; first | (rcases hn with rfl | rfl | rfl <;> assumption) | (rcases hn with rfl | rfl <;> assumption) | (subst hn; assumption)) (by first | exact hsz | exact hsz1) (by walk_at "xt") (hB5.e (by walk_at "ex")) g
    · walk_at "go"
      exact kq (.about) _ _ trivial (by intro n hn; first | (cases hn; done) | skip; simp only [Cl.ns, List.mem_cons, List.not_mem_nil, or_false] at hn; first | (rcases hn with rfl | rfl | rfl <;> assumption) | (rcases hn with rfl | rfl <;> assumption) | (subst hn; assumption)) (by first | exact hsz | exact hsz1) (by walk_at "xt") (hB5.e (by walk_at "ex")) g
    · walk_at "go"
      exact kq (.front m0 m1) _ _ ⟨b0, b1, hm01⟩ (by intro n hn; first | (cases hn; done) | skip; simp only [Cl.ns, List.mem_cons, List.not_mem_nil, or_false] at hn; first | (rcases hn with rfl | rfl | rfl <;> assumption) | (rcases hn with rfl | rfl <;> assumption) | (subst hn; assumption)) (by first | exact hsz | exact hsz1) (by walk_at "xt") (hB5.e (by walk_at "ex")) g
    · walk_at "go"
      exact kq (.halve) _ _ trivial (by intro n hn; first | (cases hn; done) | skip; simp only [Cl.ns, List.mem_cons, List.not_mem_nil, or_false] at hn; first | (rcases hn with rfl | rfl | rfl <;> assumption) | (rcases hn with rfl | rfl <;> assumption) | (subst hn; assumption)) (by first | exact hsz | exact hsz1) (by walk_at "xt") (hB5.e (by walk_at "ex")) g
    · walk_at "go"
      exact kq (.pair) _ _ trivial (by intro n hn; first | (cases hn; done) | skip; simp only [Cl.ns, List.mem_cons, List.not_mem_nil, or_false] at hn; first | (rcases hn with rfl | rfl | rfl <;> assumption) | (rcases hn with rfl | rfl <;> assumption) | (subst hn; assumption)) (by first | exact hsz | exact hsz1) (by walk_at "xt") (hB5.e (by walk_at "ex")) g
    · walk_at "go"
      exact kq (.others) _ _ trivial (by intro n hn; first | (cases hn; done) | skip; simp only [Cl.ns, List.mem_cons, List.not_mem_nil, or_false] at hn; first | (rcases hn with rfl | rfl | rfl <;> assumption) | (rcases hn with rfl | rfl <;> assumption) | (subst hn; assumption)) (by first | exact hsz | exact hsz1) (by walk_at "xt") (hB5.e (by walk_at "ex")) g
    · walk_at "go"
      exact kq (.fill) _ _ trivial (by intro n hn; first | (cases hn; done) | skip; simp only [Cl.ns, List.mem_cons, List.not_mem_nil, or_false] at hn; first | (rcases hn with rfl | rfl | rfl <;> assumption) | (rcases hn with rfl | rfl <;> assumption) | (subst hn; assumption)) (by first | exact hsz | exact hsz1) (by walk_at "xt") (hB5.e (by walk_at "ex")) g
theorem cal__law_call (T : Txt K mg w) : Cal P w K mg base CX0 3 "_law_call" sp__law_call := calOf T.g__law_call T.d__law_call (fun _ F => ok__law_call T F) (fun _ _ _ _ _ _ us hl => match us, hl with | [_, _, _, _], _ => rfl)
theorem u__law_call {b l kd : Addr} {f mo : Int} {ks : List Str} (h1 : BagAt H b l) (h2 : f = 2 ∨ f = 3) (h3 : H kd = some (.lst (ks.map V.str))) (h4 : kd ≠ b) (h5 : 0 < ks.length) (h6 : ks.length ≤ 100) (h7 : ∀ w ∈ ks, w ∈ wordsL) (h8 : 0 < mo) (h9 : mo ≤ 10 ^ 39)
    (k : ∀ (c : Cl) (aC : Addr) H', c.Ok f → c.Sm → szOf c ≤ mo → Ext [b] H H' → BagAt H' b l → H' aC = some (.tup c.vs) → Q (.ref aC) H') : sp__law_call [.ref b, .int f, .ref kd, .int mo] H Q E := ⟨b, l, kd, f, mo, ks, rfl, h1, h2, h3, h4, h5, h6, h7, h8, h9, k⟩
theorem ok_up {c : Cl} {f : Int} (h : c.Ok f) (hf : f ≤ 3) : c.Ok 3 := by
  cases c <;> simp [Cl.Ok] at h ⊢ <;> omega
end
end Pp
-- PpLh
set_option maxRecDepth 100000
set_option maxHeartbeats 4000000
namespace Pp
open PySem PySem.Spec PyProof.Rows L2 Evl
/-- what a drawn line is, and what the state is behind it -/
def LineQ (K : PySem.W.Frag) (H : Hp) (b l st : Addr) (fp : List Addr) (o : Option Pd) (Q : VK) : Prop := ∀ (p : Addr) (v due : V) (fp' : List Addr) H' (o' : Option Pd), Ext (b :: st :: fp) H H' → (∀ a ∈ fp', a ∈ fp ∨ H a = none) → BagAt H' b l → StateAt K H' st fp' o' → H' p = some (.tup [v, due]) →
  ((o' = o ∧ due = .non ∧ (NotStr K H' v ∨ ∃ z, v = .str z ∧ z.length ≤ 40000 ∧ parse z = none)) ∨ (∃ z c, v = .str z ∧ z.length ≤ 40000 ∧ parse z = some c ∧ CmdOk c ∧ (∀ n, c ≠ .one "met" n) ∧ due = .str (exec o c).1 ∧ o' = (exec o c).2)) → Q (.ref p) H'
section
variable {P : Program} {w : World} {K : PySem.W.Frag} {mg : Str → Option Value} {base : Heap} {H : Hp} {Q : VK} {E : XK}
theorem StateAt.at {st : Addr} {fp : List Addr} {o : Option Pd} (h : StateAt K H st fp o) : ∃ xs : List V, H st = some (.lst xs) ∧ xs.length ≤ 5 := by
  cases o with
  | none => exact ⟨_, h.2, by simp⟩
  | some d =>
    obtain ⟨l1, l2, l3, as1, as2, rfl, nd, h1, _⟩ := h
    exact ⟨_, h1, by simp⟩
theorem i_pow39 (k : Q (.int (10 ^ 39)) H) : rI CPow (fun i j => .int (i ^ j.toNat)) (.int 10) (.int 39) H Q := ⟨10, 39, rfl, rfl, ⟨by omega, by omega, by decide +kernel⟩, k⟩
/-- an integer of at most forty digits -/
def SmI (v : V) : Prop := ∃ i : Int, v = .int i ∧ i.natAbs ≤ 10 ^ 39
theorem SmI.lit {i : Int} (h : i.natAbs ≤ 10 ^ 39 := by decide +kernel) : SmI (.int i) := ⟨i, rfl, h⟩
theorem sm40 {i : Int} (h : i.natAbs ≤ 10 ^ 39) : i.natAbs < 10 ^ 40 := by
  have : (10 : Nat) ^ 39 < 10 ^ 40 := by decide +kernel
  omega
theorem new_ne {G : List Addr} {H H1 : Hp} {p a : Addr} {o : HO} (ha : H a = some o) (e : Ext G H H1) (hp : H1 p = none) : p ≠ a := fun z => by
  rw [z] at hp
  rw [e.live _ hp] at ha
  cases ha
theorem i_setAll {σ : L2.St} {i : Nat} {a b : Addr} {xs ys : List V} {Qg : L2.St → Hp → Prop} (h : σ[i]? = some (some (.ref a))) (ha : H a = some (.lst xs)) (hb : H b = some (.lst ys)) (ne : a ≠ b) (hz : xs.length + ys.length ≤ 100000) (k : Qg σ (upd H a (.lst ys))) : gSetAll (tVar i) (.ref b) σ H Qg := i_var h ⟨a, b, xs, ys, rfl, rfl, ne, ha, hb, sz_of hz, k⟩
abbrev s__law_begun : Stmt := top 87
abbrev N__law_begun : List Str := ["_law_bag_here", "_law_state", "_law_files", "_law_rows"]
theorem sc__law_begun : FnScope N__law_begun ["_law_bag_here", "_law_state"] (defScope s__law_begun) := ⟨rfl, rfl, rfl, by decide +kernel, rfl, by decide +kernel, by decide +kernel⟩
def sp__law_begun (K : PySem.W.Frag) : Sp := fun vs H Q _ => ∃ (b l st : Addr) (fp : List Addr) (o : Option Pd), vs = [.ref b, .ref st] ∧ BagAt H b l ∧ StateAt K H st fp o ∧ (∀ a ∈ [b, l], a ∉ st :: fp) ∧ LineQ K H b l st fp o Q
theorem ok__law_begun (T : Txt K mg w) {f : Addr} {fd : FuncData} (F : DefAt K "_law_begun" "_law_begun" s__law_begun f fd) : FnOk P w K mg base CX0 3 f fd ["_law_bag_here", "_law_state"] (sp__law_begun K) := by
  refine ok0 F sc__law_begun (fun vs H Q E h => ?_) (fun cdv A outer s H vs Q E hr h => ?_)
  · walk_at "len"
  · obtain ⟨b, l, st, fp, o, rfl, hB, hS, hsep, kq⟩ := h
    obtain ⟨ob, hob⟩ := hB.at
    obtain ⟨xs, hst, hxl⟩ := hS.at
    refine ⟨_, (pss_cons (ps_set (i := 2) sc__law_begun.nd rfl (Or.inl rfl) (pe_cal (cal__law_one T) hr px0 (pa_cons (pv 0) (pa_cons (pe_lst (pa_cons pe_int (pa_cons pe_int (pa_cons pe_int (pa_cons pe_int (pa_cons pe_int (pa_cons pe_int (pa_cons pe_int (pa_cons pe_int (pa_cons (pe_un un_neg pe_int) (pa_cons (pe_op op_pow pe_int pe_int) pa_nil))))))))))) pa_nil))))
  (pss_cons (ps_set (i := 3) sc__law_begun.nd rfl (Or.inl rfl) (pe_cal (cal__law_one T) hr px0 (pa_cons (pv 0) (pa_cons (pe_lst (pa_cons (pe_op op_add pe_int (pe_cal (cal__law_take T) hr px0 (pa_cons (pv 0) (pa_cons pe_int pa_nil)))) (pa_cons pe_int (pa_cons pe_int (pa_cons pe_int (pa_cons pe_int (pa_cons (pe_un un_neg pe_int) (pa_cons (pe_op op_pow pe_int pe_int) pa_nil)))))))) pa_nil))))
  (pss_cons (ps_if (PW.pt (pw_and (pt_cmpR op_in_seq (pv 2) (pe_tup (pa_cons pe_int (pa_cons pe_int pa_nil))) (by rfl)) (pw_and1 (pt_chain op_le op_le pe_int (pv 3) pe_int)))) (pss_cons (ps_asg (pe_lst (pa_cons (pv 2) (pa_cons (pv 3) (pa_cons (pe_lst pa_nil) (pa_cons (pe_lst pa_nil) (pa_cons (pe_lst pa_nil) pa_nil)))))) (pg_setAll (pv 1)))
  (pss_one (ps_ret (pe_tup (pa_cons (pe_op op_addS (pe_op op_addS (pe_op op_addS pe_str (pe_callTy cr_strI (by rfl) T.b_str (by decide +kernel) (pa_cons (pv 2) pa_nil))) pe_str) (pe_callTy cr_strI (by rfl) T.b_str (by decide +kernel) (pa_cons (pv 3) pa_nil))) (pa_cons pe_str pa_nil)))))) pss_nil)
  (pss_one (ps_ret (pe_tup (pa_cons (pe_op op_addS (pe_op op_addS (pe_op op_addS pe_str (pe_callTy cr_strI (by rfl) T.b_str (by decide +kernel) (pa_cons (pv 2) pa_nil))) pe_str) (pe_callTy cr_strI (by rfl) T.b_str (by decide +kernel) (pa_cons (pv 3) pa_nil))) (pa_cons pe_str pa_nil)))))))), ?_⟩
    walk_at "go"
    refine i_pow39 ?_
    walk_at "go"
    have e0 : Ext [b] H H2 := by walk_at "xt"
    refine u__law_one (hB.e e) g (ne_of_none hob hp).symm (by simp) (by simp) fun vf H3 hvf x3 hB3 => ?_
    have hvf : SmI vf := by
      simp only [List.mem_cons, List.not_mem_nil, or_false] at hvf
      rcases hvf with rfl | rfl | rfl | rfl | rfl | rfl | rfl | rfl | rfl | rfl <;> exact SmI.lit
    obtain ⟨ff, rfl, hff⟩ := hvf
    have E3 := e0.trans x3
    clear e e0 g hp x3
    walk_at "go"
    refine u__law_take hB3 (by omega) (by omega) fun r H4 hr0 hr1 x4 hB4 => ?_
    have E4 := E3.trans x4
    walk_at "go"
    refine i_pow39 ?_
    walk_at "go"
    have E5 : Ext [b] H H2 := by walk_at "xt"
    refine u__law_one (hB4.e e) g (new_ne hob E4 hp) (by simp) (by simp) fun vr H6 hvr x6 hB6 => ?_
    have hvr : SmI vr := by
      simp only [List.mem_cons, List.not_mem_nil, or_false] at hvr
      rcases hvr with rfl | rfl | rfl | rfl | rfl | rfl | rfl
      · exact ⟨_, rfl, by have : (10 : Nat) ^ 2 ≤ 10 ^ 39 := by decide +kernel
                          omega⟩
      all_goals exact SmI.lit
    obtain ⟨rr, rfl, hrr⟩ := hvr
    have E6 := E5.trans x6
    clear e g hp x6 E5 E4 E3 x4 hB4 hB3
    have hst6 : H6 st = some (.lst xs) := E6.keep _ _ hst (by have := hsep b (by simp); simp at this; simp; exact fun z => this.1 z.symm)
    have hS6 : StateAt K H6 st fp o := hS.ext E6 fun a ha => by
      have := hsep b (by simp)
      simp only [List.mem_singleton]
      rintro rfl
      exact this ha
    have n1 := strI_len (sm40 hff)
    have n2 := strI_len (sm40 hrr)
    have n3 : ("line ": Str).length = 5 := rfl
    have n4 : (" ": Str).length = 1 := rfl
    have zl : ((("line " : Str) ++ Str.ofString (toString ff) ++ " " ++ Str.ofString (toString rr)) : Str).length ≤ 40000 := by rw [cat_len, cat_len, cat_len]; omega
    have zp := parse_line (sm40 hff) (sm40 hrr)
    walk_at "go"
    by_cases hc : (ff = 2 ∨ ff = 3) ∧ 1 ≤ rr ∧ rr ≤ 100
    · obtain ⟨hc1, hc2, hc3⟩ := id hc
      rw [in_two, decide_eq_true hc1]
      walk_at "go"
      rename_i q1 hq1 J1 j1 w1 q2 hq2 J2 j2 w2 q3 hq3 J3 j3 w3
      have e67 : Ex H6 H2 := by walk_at "ex"
      have hst7 := e67 _ _ hst6
      have f1 : H6 q1 = none := fresh_back (by walk_at "ex") hq1
      have f2 : H6 q2 = none := fresh_back (by walk_at "ex") hq2
      have f3 : H6 q3 = none := fresh_back (by walk_at "ex") hq3
      have f4 : H6 p = none := fresh_back (by walk_at "ex") hp
      have r1 : st ≠ q1 := ne_of_none hst6 f1
      have r2 : st ≠ q2 := ne_of_none hst6 f2
      have r3 : st ≠ q3 := ne_of_none hst6 f3
      have r4 : q1 ≠ q2 := ne_of_none w1 hq2
      have r5 : q1 ≠ q3 := ne_of_none (j2 _ _ w1) hq3
      have r6 : q2 ≠ q3 := ne_of_none w2 hq3
      have r7 : st ≠ p := ne_of_none hst6 f4
      have hnd : [st, q1, q2, q3].Nodup := by simp [r1, r2, r3, r4, r5, r6]
      have t1 : H2 q1 = some (.lst []) := e _ _ (j3 _ _ (j2 _ _ w1))
      have t2 : H2 q2 = some (.lst []) := e _ _ (j3 _ _ w2)
      have t3 : H2 q3 = some (.lst []) := e _ _ w3
      refine i_setAll rfl hst7 g r7 (by simp; omega) ?_
      generalize hU : upd H2 st _ = H7
      obtain ⟨x7, g7, k7⟩ := wr_of hU hst7 (by intro _ z; cases z)
      have t1 := k7 _ _ r1.symm t1
      have t2 := k7 _ _ r2.symm t2
      have t3 := k7 _ _ r3.symm t3
      clear w1 w2 w3 j1 j2 j3 hq1 hq2 hq3 e g hst7
      have E7 : Ext [b, st] H H7 := ((E6.xl e67).mono (by simp)).trans (x7.mono (by simp))
      have hB7 : BagAt H7 b l := (hB6.e e67).ext x7 (by intro a ha; have := hsep a ha; simp only [List.mem_cons, not_or] at this; simpa using this.1)
      clear e67 hst6 x7
      walk_at "go"
      refine i_strI (log_lt (sm_ok (sm40 hff))) ?_
      refine i_catS (by omega) ?_
      walk_at "go"
      refine i_catS (by rw [cat_len]; omega) ?_
      walk_at "go"
      refine i_strI (log_lt (sm_ok (sm40 hrr))) ?_
      refine i_catS (by rw [cat_len, cat_len]; omega) ?_
      walk_at "go"
      have hx : ans o (.begin ff rr) = some (("ok" : Str), some ⟨ff, rr, [], [], []⟩) := by rw [ans_begin, if_pos hc]
      refine kq _ _ _ [q1, q2, q3] H2 (some ⟨ff, rr, [], [], []⟩) ((E7.xl e).mono (by intro a ha; simp at ha ⊢; rcases ha with rfl | rfl <;> simp)) (fun a ha => ?_) (hB7.e e) ⟨q1, q2, q3, [], [], rfl, hnd, e _ _ g7, e _ _ t1, .nil, e _ _ t2, .nil, e _ _ t3⟩ g (.inr ⟨_, _, rfl, zl, zp, trivial, (fun n z => nomatch z), by rw [exec_some hx], by rw [exec_some hx]⟩)
      simp only [List.mem_cons, List.not_mem_nil, or_false] at ha
      rcases ha with rfl | rfl | rfl
      · exact .inr (E6.live _ f1)
      · exact .inr (E6.live _ f2)
      · exact .inr (E6.live _ f3)
    · rw [in_two]
      refine i_dec (fun h1 => ?_) (fun h1 => ?_)
      walk_at "go"
      refine i_dec (fun h2 => ?_) (fun h2 => ?_)
      all_goals
        walk_at "go"
        refine i_strI (log_lt (sm_ok (sm40 hff))) ?_
        refine i_catS (by omega) ?_
        walk_at "go"
        refine i_catS (by rw [cat_len]; omega) ?_
        walk_at "go"
        refine i_strI (log_lt (sm_ok (sm40 hrr))) ?_
        refine i_catS (by rw [cat_len, cat_len]; omega) ?_
        walk_at "go"
        exact kq _ _ _ fp _ o (Ext.mono (by walk_at "xt" : Ext [b] H _) (by simp)) (fun a ha => .inl ha) (hB6.e (by walk_at "ex")) (hS6.ex (by walk_at "ex")) g (.inr ⟨_, _, rfl, zl, zp, trivial, (fun n z => nomatch z), by rw [exec_none (show ans o (.begin ff rr) = none by rw [ans_begin, if_neg hc])], by rw [exec_none (show ans o (.begin ff rr) = none by rw [ans_begin, if_neg hc])]⟩)
theorem cal__law_begun (T : Txt K mg w) : Cal P w K mg base CX0 3 "_law_begun" (sp__law_begun K) := calOf T.g__law_begun T.d__law_begun (fun _ F => ok__law_begun T F) (fun _ _ _ _ _ _ us hl => match us, hl with | [_, _], _ => rfl)
end
end Pp
-- PpBd
set_option maxRecDepth 1000000
set_option maxHeartbeats 4000000
/-! Lines that are no commands, in plain Lean. -/
namespace Pp
open PySem PySem.Spec PyProof.Rows L2 Evl
def baseL : List Str := ["line 2 3", "leave 0", "come 0", "where 0", "mates 0", "met 0", "row 0", "away"]
def baseM : List Str := ["script", "home", "back", "again", "about", "all 1"]
theorem none_of {z : Str} (h : (parse z).isNone = true) : parse z = none := by
  cases e : parse z with
  | none => rfl
  | some c => rw [e] at h; cases h
theorem bad_base : ∀ w ∈ baseL ++ baseM, (parse (w ++ " 1")).isNone = true ∧ (parse (w ++ " ")).isNone = true ∧ (parse (" " ++ w)).isNone = true ∧ (parse (w ++ "\n")).isNone = true := by decide +kernel
def badL : List Str := ["where", "mates", "leave", "come", "met x", "mates x", "come x", "row x", "leave 01", "", "line", "line 2", "line 2 x", "line 02 3", "call all 1", "all 0", "up 3 1", "swap 0 0", "row", "where x", "back 1", "away 1", " away", "away ", "HOME", "all  1", "row 1 2", "leave -0", "met", "all 1, about"]
theorem bad_words : ∀ w ∈ badL, (parse w).isNone = true := by decide +kernel
theorem bad_forty : parse ("where 1" ++ Txt.mul "0" 40) = none := none_of (by decide +kernel)
theorem readI_long {z : Str} (h : 42 ≤ z.length) : readI z = none := by
  have hd : digB z = false := by
    have hl : 41 ≤ (digS z).length := by
      unfold digS
      split
      · rw [TL.len_tl, show TL.tl (cutS z (some 1) none) = _ from cut_from1 z, List.length_drop]
        rw [TL.len_tl] at h
        have : z.cps.toList.length = (TL.tl z).length := rfl
        omega
      · omega
    unfold digB
    rw [decide_eq_false (by omega), Bool.false_and]
  unfold readI
  rw [hd]
  rfl
theorem parse_long {w z : Str} (hw : NoB w) (hz : NoB z) (hl : 42 ≤ z.length) : parse (w ++ " " ++ z) = none := by
  have hs : Txt.split (w ++ " " ++ z) " " = [w, z] := by
    rw [join2]
    refine split_w (by simp) fun v hv => ?_
    simp only [List.mem_cons, List.not_mem_nil, or_false] at hv
    rcases hv with rfl | rfl
    · exact hw
    · exact hz
  have ha : w ++ " " ++ z ∉ aloneL := fun q => by
    have e := alone_split _ q
    rw [hs] at e
    cases (List.cons.inj e).2
  unfold parse
  rw [hs]
  by_cases hk : w ∈ withL
  · rw [parseW_one (fun q => by cases q.2) ha hk, readI_long hl]
    rfl
  · rw [parseW_call (fun q => by cases q.2) ha (fun q => hk q.1)]
    unfold parseC readC
    rw [hs, readW_none (readAll_none (List.mem_singleton.mpr rfl) (readI_long hl))]
    rfl
theorem ones : NoB (Txt.mul "1" 5000) ∧ (Txt.mul "1" 5000).length = 5000 := ⟨by unfold NoB; decide +kernel, by decide +kernel⟩
theorem nines : NoB (Txt.mul "9" 5000) ∧ (Txt.mul "9" 5000).length = 5000 := ⟨by unfold NoB; decide +kernel, by decide +kernel⟩
theorem zeros : (Txt.mul "0" 40).length = 40 := by decide +kernel
theorem cat_blank {a b : Str} (h : TL.tl a = TL.tl b ++ [32]) (z : Str) : a ++ z = b ++ " " ++ z := TL.ext_tl (by
  rw [TL.tl_append, TL.tl_append, TL.tl_append, h]
  rfl)
theorem bad_all : parse ("all " ++ Txt.mul "1" 5000) = none := by
  rw [cat_blank (b := "all") (by decide +kernel)]
  exact parse_long (by unfold NoB; decide +kernel) ones.1 (by rw [ones.2]; decide)
theorem bad_where : parse ("where " ++ Txt.mul "1" 5000) = none := by
  rw [cat_blank (b := "where") (by decide +kernel)]
  exact parse_long (by unfold NoB; decide +kernel) ones.1 (by rw [ones.2]; decide)
theorem bad_line : parse ("line 2 " ++ Txt.mul "9" 5000) = none := by
  have hs : Txt.split ("line 2 " ++ Txt.mul "9" 5000) " " = [("line" : Str), ("2" : Str), Txt.mul "9" 5000] := by
    have e : ("line 2 " : Str) ++ Txt.mul "9" 5000 = Txt.join " " [("line" : Str), ("2" : Str), Txt.mul "9" 5000] := by
      refine TL.ext_tl ?_
      rw [TL.join_eq, TL.tl_join, TL.tl_append, show TL.tl "line 2 " = TL.tl "line" ++ (TL.tl " " ++ (TL.tl "2" ++ TL.tl " ")) by decide +kernel]
      simp only [List.append_assoc]
      rfl
    rw [e]
    refine split_w (by simp) fun v hv => ?_
    simp only [List.mem_cons, List.not_mem_nil, or_false] at hv
    rcases hv with rfl | rfl | rfl
    · unfold NoB; decide +kernel
    · unfold NoB; decide +kernel
    · exact nines.1
  unfold parse
  rw [hs, parseW_line, readI_long (z := Txt.mul "9" 5000) (by rw [nines.2]; decide)]
  cases readI "2" <;> rfl
end Pp
-- PpLi
set_option maxRecDepth 100000
set_option maxHeartbeats 4000000
namespace Pp
open PySem PySem.Spec PyProof.Rows L2 Evl
section
variable {P : Program} {w : World} {K : PySem.W.Frag} {mg : Str → Option Value} {base : Heap} {H : Hp} {Q : VK} {E : XK}
theorem u__law_begun {b l st : Addr} {fp : List Addr} {o : Option Pd} (h1 : BagAt H b l) (h2 : StateAt K H st fp o) (h3 : ∀ a ∈ [b, l], a ∉ st :: fp) (k : LineQ K H b l st fp o Q) : sp__law_begun K [.ref b, .ref st] H Q E := ⟨b, l, st, fp, o, rfl, h1, h2, h3, k⟩
theorem LineQ.up {H' : Hp} {b l st : Addr} {fp : List Addr} {o : Option Pd} (h : LineQ K H b l st fp o Q) (e : Ext [b] H H') : LineQ K H' b l st fp o Q := fun p v due fp' H2 o' x n hB hS hp q => h p v due fp' H2 o' ((e.mono (by simp)).trans x) (fun a ha => (n a ha).imp_right (e.live a)) hB hS hp q
theorem small39 {n : Int} (h : 0 ≤ n ∧ n < 100000) : n.natAbs ≤ 10 ^ 39 := by
  have h4 : (10 : Nat) ^ 5 ≤ 10 ^ 39 := by decide +kernel
  omega
theorem base_len : ∀ w ∈ baseL ++ baseM, w.length ≤ 100 := by decide +kernel
theorem i_mulS {z : Str} {n : Int} (h : MulOk z n) (k : Q (.str (Txt.mul z n)) H) : rMulS (.str z) (.int n) H Q := ⟨z, n, rfl, rfl, h, k⟩
theorem mul1 : MulOk "1" 5000 := ⟨by decide +kernel, fun _ _ => by decide +kernel, fun _ _ => by decide +kernel⟩
theorem mul9 : MulOk "9" 5000 := ⟨by decide +kernel, fun _ _ => by decide +kernel, fun _ _ => by decide +kernel⟩
theorem mul0 : MulOk "0" 40 := ⟨by decide +kernel, fun _ _ => by decide +kernel, fun _ _ => by decide +kernel⟩
/-- a text that is no command -/
def BadS (v : V) : Prop := ∃ z, v = .str z ∧ z.length ≤ 40000 ∧ parse z = none
theorem bad_lens : ∀ w ∈ badL, w.length ≤ 40000 := by decide +kernel
theorem badS_lit (L : List Str) (h : ∀ w ∈ L, w ∈ badL) : ∀ v ∈ L.map V.str, BadS v := fun v hv => by
  obtain ⟨w, hw, rfl⟩ := List.mem_map.mp hv
  exact ⟨w, rfl, bad_lens w (h w hw), none_of (bad_words w (h w hw))⟩
theorem badS_app {xs ys : List V} (h1 : ∀ v ∈ xs, BadS v) (h2 : ∀ v ∈ ys, BadS v) : ∀ v ∈ xs ++ ys, BadS v := fun v hv => (List.mem_append.mp hv).elim (h1 v) (h2 v)
theorem badS_one {z : Str} (h1 : z.length ≤ 40000) (h2 : parse z = none) : ∀ v ∈ [V.str z], BadS v := fun v hv => by
  rw [List.mem_singleton.mp hv]
  exact ⟨z, rfl, h1, h2⟩
theorem ns_dict {a : Addr} {kvs : List (Key × V)} (h : H a = some (.dK kvs)) : NotStr K H (.ref a) := ⟨_, .base (.dK h), kit_ty (by decide +kernel)⟩
abbrev s__law_line : Stmt := top 88
abbrev N__law_line : List Str := ["_law_bag_here", "_law_state", "_law_way", "_law_number", "_law_kinds", "_law_call_here", "_law_at", "_law_word", "_law_base", "_law_bad"]
theorem sc__law_line : FnScope N__law_line ["_law_bag_here", "_law_state"] (defScope s__law_line) := ⟨rfl, rfl, rfl, by decide +kernel, rfl, by decide +kernel, by decide +kernel⟩
def sp__law_line (K : PySem.W.Frag) : Sp := fun vs H Q _ => ∃ (b l st : Addr) (fp : List Addr) (o : Option Pd), vs = [.ref b, .ref st] ∧ BagAt H b l ∧ StateAt K H st fp o ∧ (∀ d, o = some d → d.Ok ∧ d.Sm) ∧ (∀ a ∈ [b, l], a ∉ st :: fp) ∧ LineQ K H b l st fp o Q
theorem ok__law_line (T : Txt K mg w) {f : Addr} {fd : FuncData} (F : DefAt K "_law_line" "_law_line" s__law_line f fd) : FnOk P w K mg base CX0 5 f fd ["_law_bag_here", "_law_state"] (sp__law_line K) := by
  refine ok0 F sc__law_line (fun vs H Q E h => ?_) (fun cdv A outer s H vs Q E hr h => ?_)
  · walk_at "len"
  · obtain ⟨b, l, st, fp, o, rfl, hB, hS, hO, hsep, kq⟩ := h
    obtain ⟨ob, hob⟩ := hB.at
    have hbS : ∀ a ∈ st :: fp, a ∉ [b] := fun a ha z => by
      rw [List.mem_singleton.mp z] at ha
      exact hsep b (by simp) ha
    refine ⟨_, (pss_cons (ps_set (i := 2) sc__law_line.nd rfl (Or.inl rfl) (pe_cal (cal__law_take T) hr px0 (pa_cons (pv 0) (pa_cons pe_int pa_nil))))
  (pss_cons (ps_if (PW.pt (pw_or (pt_cmpR op_eq (pv 2) pe_int (nomark _)) (pw_or1 (PW.pt (pw_and (pt_cmpR op_lt (pv 2) pe_int (nomark _)) (pw_and1 (pt_cmpR (op_eqD hr.units) (pv 1) (pe_lst pa_nil) (nomark _)))))))) (pss_one (ps_ret (pe_cal (cal__law_begun T) hr px0 (pa_cons (pv 0) (pa_cons (pv 1) pa_nil))))) pss_nil)
  (pss_cons (ps_set (i := 3) sc__law_line.nd rfl (Or.inl rfl) (pe_cal (cal__law_one T) hr px0 (pa_cons (pv 0) (pa_cons (pe_lst (pa_cons (pe_cal (cal__law_take T) hr px0 (pa_cons (pv 0) (pa_cons pe_int pa_nil))) (pa_cons (pe_cal (cal__law_take T) hr px0 (pa_cons (pv 0) (pa_cons pe_int pa_nil))) (pa_cons pe_int (pa_cons (pe_un un_neg pe_int) (pa_cons (pe_op op_pow pe_int pe_int) pa_nil)))))) pa_nil))))
  (pss_cons (ps_if (pt_cmpR op_lt (pv 2) pe_int (nomark _)) (pss_cons (ps_set (i := 4) sc__law_line.nd rfl (Or.inl rfl) (pe_lst (pa_cons pe_str (pa_cons pe_str (pa_cons pe_str (pa_cons pe_str (pa_cons pe_str (pa_cons pe_str (pa_cons pe_str (pa_cons pe_str (pa_cons pe_str (pa_cons pe_str pa_nil))))))))))))
  (pss_cons (ps_set (i := 5) sc__law_line.nd rfl (Or.inl rfl) (pe_cal (cal__law_call T) hr px0 (pa_cons (pv 0) (pa_cons (pe_op op_add pe_int (pe_cal (cal__law_take T) hr px0 (pa_cons (pv 0) (pa_cons pe_int pa_nil)))) (pa_cons (pv 4) (pa_cons (pe_cal (cal__law_one T) hr px0 (pa_cons (pv 0) (pa_cons (pe_lst (pa_cons pe_int (pa_cons pe_int (pa_cons pe_int (pa_cons pe_int (pa_cons (pe_op op_pow pe_int pe_int) pa_nil)))))) pa_nil))) pa_nil))))))
  (pss_one (ps_ret (pe_tup (pa_cons (pe_cal (cal__law_call_text T) hr px0 (pa_cons (pv 5) pa_nil)) (pa_cons (pe_cal (cal__law_called T) hr px0 (pa_cons (pv 1) (pa_cons (pv 5) pa_nil))) pa_nil))))))) pss_nil)
  (pss_cons (ps_if (pt_cmpR op_lt (pv 2) pe_int (nomark _)) (pss_cons (ps_set (i := 6) sc__law_line.nd rfl (Or.inl rfl) (pe_cal (cal__law_take T) hr px0 (pa_cons (pv 0) (pa_cons pe_int pa_nil))))
  (pss_one (ps_ret (pe_tup (pa_cons (pe_ix ix_list (pe_lst (pa_cons pe_str (pa_cons pe_str pa_nil))) (pv 6) (fun _ _ => rfl)) (pa_cons (pe_cal (cal__law_undone T) hr px0 (pa_cons (pv 1) (pa_cons (pv 6) pa_nil))) pa_nil)))))) pss_nil)
  (pss_cons (ps_if (pt_cmpR op_lt (pv 2) pe_int (nomark _)) (pss_cons (ps_set (i := 7) sc__law_line.nd rfl (Or.inl rfl) (pe_cal (cal__law_one T) hr px0 (pa_cons (pv 0) (pa_cons (pe_lst (pa_cons pe_str (pa_cons pe_str pa_nil))) pa_nil))))
  (pss_one (ps_ret (pe_tup (pa_cons (pe_op op_addS (pe_op op_addS (pv 7) pe_str) (pe_callTy cr_strI (by rfl) T.b_str (by decide +kernel) (pa_cons (pv 3) pa_nil))) (pa_cons (pe_cal (cal__law_gone T) hr px0 (pa_cons (pv 1) (pa_cons (pv 7) (pa_cons (pv 3) pa_nil)))) pa_nil)))))) pss_nil)
  (pss_cons (ps_if (PW.pt (pw_and (pt_cmpR op_eq (pv 2) pe_int (nomark _)) (pw_and1 (pt_cmpR op_eq (pe_cal (cal__law_take T) hr px0 (pa_cons (pv 0) (pa_cons pe_int pa_nil))) pe_int (nomark _))))) (pss_cons (ps_set (i := 8) sc__law_line.nd rfl (Or.inl rfl) (pe_cal (cal__law_one T) hr px0 (pa_cons (pv 0) (pa_cons (pe_lst (pa_cons pe_str (pa_cons pe_str (pa_cons pe_str (pa_cons pe_str (pa_cons pe_str (pa_cons pe_str (pa_cons pe_str (pa_cons pe_str pa_nil))))))))) pa_nil))))
  (pss_cons (ps_set (i := 8) sc__law_line.nd rfl (Or.inl rfl) (pe_cal (cal__law_one T) hr px0 (pa_cons (pv 0) (pa_cons (pe_lst (pa_cons (pv 8) (pa_cons (pv 8) (pa_cons pe_str (pa_cons pe_str (pa_cons pe_str (pa_cons pe_str (pa_cons pe_str (pa_cons pe_str pa_nil))))))))) pa_nil))))
  (pss_one (ps_ret (pe_tup (pa_cons (pe_cal (cal__law_one T) hr px0 (pa_cons (pv 0) (pa_cons (pe_lst (pa_cons (pe_op op_addS (pv 8) pe_str) (pa_cons (pe_op op_addS (pv 8) pe_str) (pa_cons (pe_op op_addS pe_str (pv 8)) (pa_cons (pe_op op_addS (pv 8) pe_str) pa_nil))))) pa_nil))) (pa_cons pe_non pa_nil))))))) pss_nil)
  (pss_cons (ps_if (pt_cmpR op_eq (pv 2) pe_int (nomark _)) (pss_cons (ps_set (i := 9) sc__law_line.nd rfl (Or.inl rfl) (pe_lst (pa_cons pe_str (pa_cons pe_str (pa_cons pe_str (pa_cons pe_str (pa_cons pe_str (pa_cons pe_str (pa_cons pe_str (pa_cons pe_str (pa_cons pe_str pa_nil)))))))))))
  (pss_cons (ps_set (i := 9) sc__law_line.nd rfl (Or.inl rfl) (pe_op op_cat (pv 9) (pe_lst (pa_cons (pe_op op_addS pe_str (pe_op op_mulS pe_str pe_int)) pa_nil))))
  (pss_cons (ps_set (i := 9) sc__law_line.nd rfl (Or.inl rfl) (pe_op op_cat (pv 9) (pe_lst (pa_cons (pe_op op_addS pe_str (pe_op op_mulS pe_str pe_int)) (pa_cons (pe_op op_addS pe_str (pe_op op_mulS pe_str pe_int)) (pa_cons pe_str (pa_cons pe_str (pa_cons pe_str (pa_cons pe_str (pa_cons pe_str pa_nil))))))))))
  (pss_cons (ps_set (i := 9) sc__law_line.nd rfl (Or.inl rfl) (pe_op op_cat (pv 9) (pe_lst (pa_cons pe_str (pa_cons pe_str (pa_cons pe_str (pa_cons pe_str (pa_cons pe_str pa_nil))))))))
  (pss_cons (ps_set (i := 9) sc__law_line.nd rfl (Or.inl rfl) (pe_op op_cat (pv 9) (pe_lst (pa_cons pe_str (pa_cons pe_str (pa_cons pe_str (pa_cons pe_str (pa_cons pe_str (pa_cons pe_str (pa_cons pe_str (pa_cons pe_str (pa_cons pe_str (pa_cons pe_str pa_nil)))))))))))))
  (pss_cons (ps_expr (pe_bm PySem.F.plainAttrs_list PySem.F.slot_list_append PySem.F.type_list_append mt_append (pv 9) (pa_cons pe_str pa_nil)))
  (pss_one (ps_ret (pe_tup (pa_cons (pe_cal (cal__law_one T) hr px0 (pa_cons (pv 0) (pa_cons (pe_op op_cat (pv 9) (pe_lst (pa_cons pe_non (pa_cons pe_int (pa_cons (pe_lst (pa_cons pe_str pa_nil)) (pa_cons (pe_tup (pa_cons pe_str pa_nil)) (pa_cons pe_bl (pa_cons pe_dnewK (pa_cons (pe_op op_addS pe_str (pe_op op_mulS pe_str pe_int)) pa_nil))))))))) pa_nil))) (pa_cons pe_non pa_nil))))))))))) pss_nil)
  (pss_cons (ps_if (pt_cmpR op_lt (pv 2) pe_int (nomark _)) (pss_cons (ps_set (i := 7) sc__law_line.nd rfl (Or.inl rfl) (pe_cal (cal__law_one T) hr px0 (pa_cons (pv 0) (pa_cons (pe_lst (pa_cons pe_str (pa_cons pe_str (pa_cons pe_str pa_nil)))) pa_nil))))
  (pss_one (ps_ret (pe_tup (pa_cons (pe_op op_addS (pe_op op_addS (pv 7) pe_str) (pe_callTy cr_strI (by rfl) T.b_str (by decide +kernel) (pa_cons (pv 3) pa_nil))) (pa_cons (pe_cal (cal__law_desk_said T) hr px0 (pa_cons (pv 1) (pa_cons (pv 7) (pa_cons (pv 3) pa_nil)))) pa_nil)))))) pss_nil)
  (pss_cons (ps_set (i := 7) sc__law_line.nd rfl (Or.inl rfl) (pe_cal (cal__law_one T) hr px0 (pa_cons (pv 0) (pa_cons (pe_lst (pa_cons pe_str (pa_cons pe_str (pa_cons pe_str pa_nil)))) pa_nil))))
  (pss_one (ps_ret (pe_tup (pa_cons (pv 7) (pa_cons (pe_cal (cal__law_desk_said T) hr px0 (pa_cons (pv 1) (pa_cons (pv 7) (pa_cons pe_int pa_nil)))) pa_nil))))))))))))))), ?_⟩
    refine i_seq (i_asg (i_cal (i_cons (i_var rfl (i_cons (i_c (i_nil ?_)))))))
    refine u__law_take hB (by omega) (by omega) fun way H1 hw0 hw1 x1 hB1 => ?_
    refine i_name ?_
    have hS1 := hS.ext x1 hbS
    refine i_seq ?_
    generalize hR : tSeq _ _ _ = R
    have key : ∀ H', Ext [b] H H' → BagAt H' b l → R [some (.ref b), some (.ref st), some (.int way), none, none, none, none, none, none, none] H' := by
      intro H2 x2 hB2
      have hS2 := hS.ext x2 hbS
      rw [← hR]
      clear hR x1 hB1 hS1
      refine i_seq ?_
      walk_at "go"
      refine u__law_take hB2 (by omega) (by omega) fun r1 H3 r10 r11 x3 hB3 => ?_
      walk_at "go"
      refine u__law_take hB3 (by omega) (by omega) fun r2 H4 r20 r21 x4 hB4 => ?_
      walk_at "go"
      refine i_pow39 ?_
      walk_at "go"
      have X4 := (x2.trans x3).trans x4
      refine u__law_one (hB4.e e) g (new_ne hob X4 hp) (by simp) (by simp) fun vn H5 hvn x5 hB5 => ?_
      have hvn : SmI vn := by
        simp only [List.mem_cons, List.not_mem_nil, or_false] at hvn
        rcases hvn with rfl | rfl | rfl | rfl | rfl
        · exact ⟨_, rfl, small39 (by omega)⟩
        · exact ⟨_, rfl, small39 (by omega)⟩
        all_goals exact SmI.lit
      obtain ⟨nn, rfl, hnn⟩ := hvn
      have X5 : Ext [b] H H5 := (X4.xl e).trans x5
      have hS5 := hS.ext X5 hbS
      clear x2 hB2 hS2 x3 hB3 x4 hB4 X4 e g hp x5
      walk_at "go"
      refine i_dec (fun w5 => ?_) (fun w5 => ?_)
      · walk_at "go"
        revert p H2
        intro kd hkd J1 e1 g1
        have kdb : kd ≠ b := new_ne hob X5 hkd
        refine u__law_take (hB5.e e1) (by omega) (by omega) fun r3 H6 r30 r31 x6 hB6 => ?_
        have gk6 := x6.keep _ _ g1 (by simpa using kdb)
        have X6 := (X5.xl e1).trans x6
        clear x6 e1
        walk_at "go"
        refine i_pow39 ?_
        walk_at "go"
        refine u__law_one (hB6.e e) g (new_ne hob X6 hp) (by simp) (by simp) fun vm H7 hvm x7 hB7 => ?_
        obtain ⟨mo, rfl, hm0, hm1⟩ : ∃ mo : Int, vm = .int mo ∧ 0 < mo ∧ mo ≤ 10 ^ 39 := by
          simp only [List.mem_cons, List.not_mem_nil, or_false] at hvm
          rcases hvm with rfl | rfl | rfl | rfl | rfl <;> exact ⟨_, rfl, by decide +kernel, by decide +kernel⟩
        have X7 := (X6.xl e).trans x7
        have gk7 := x7.keep _ _ (e _ _ gk6) (by simpa using kdb)
        clear x7 e g hp
        walk_at "go"
        refine u__law_call (ks := wordsL) hB7 (by omega) gk7 kdb (by decide) (by decide) (fun w hw => hw) hm0 hm1 fun c aC H8 hc1 hc2 _ x8 hB8 hc8 => ?_
        have X8 := X7.trans x8
        have hS8 := hS.ext X8 hbS
        have hc3 := ok_up hc1 (by omega)
        walk_at "go"
        refine u__law_call_text hc8 hc2 fun H9 e9 => ?_
        walk_at "go"
        refine u__law_called (e9 _ _ hc8) hc3 (hS8.ex e9) (fun d hd => (hO d hd).1) fun fp' H10 x10 hn10 hS10 => ?_
        have X9 := X8.xl e9
        have X10 : Ext (b :: st :: fp) H H10 := (X9.mono (by simp)).trans (x10.mono (fun a ha => List.mem_cons_of_mem _ ha))
        have hB10 := (hB8.e e9).ext x10 hsep
        walk_at "go"
        exact kq _ _ _ fp' H2 _ (X10.xl e) (fun a ha => (hn10 a ha).imp_right (X9.live a)) (hB10.e e) (hS10.ex e) g (.inr ⟨_, .call c, rfl, by have := callText_len hc2; omega, parse_call (isCall_ok.mpr hc3) hc2, hc2, (fun n z => nomatch z), rfl, rfl⟩)
      · walk_at "go"
        refine i_dec (fun w8 => ?_) (fun w8 => ?_)
        · walk_at "go"
          refine u__law_take hB5 (by omega) (by omega) fun a' H6 a0 a1 x6 hB6 => ?_
          have X6 := X5.trans x6
          have hS6 := hS.ext X6 hbS
          obtain rfl | rfl : a' = 0 ∨ a' = 1 := by omega
          · walk_at "go"
            refine u__law_undone (.inl rfl) (hS6.ex e) hO fun fp' H10 x10 hn10 hS10 => ?_
            have X9 := X6.xl e
            have X10 : Ext (b :: st :: fp) H H10 := (X9.mono (by simp)).trans (x10.mono (fun a ha => List.mem_cons_of_mem _ ha))
            have hB10 := (hB6.e e).ext x10 hsep
            clear e g hp
            walk_at "go"
            exact kq _ _ _ fp' H2 _ (X10.xl e) (fun a ha => (hn10 a ha).imp_right (X9.live a)) (hB10.e e) (hS10.ex e) g (.inr ⟨_, .alone (backW 0), rfl, by decide, parse_alone (z := "back") (by decide +kernel), trivial, (fun n z => nomatch z), rfl, rfl⟩)
          · walk_at "go"
            refine u__law_undone (.inr rfl) (hS6.ex e) hO fun fp' H10 x10 hn10 hS10 => ?_
            have X9 := X6.xl e
            have X10 : Ext (b :: st :: fp) H H10 := (X9.mono (by simp)).trans (x10.mono (fun a ha => List.mem_cons_of_mem _ ha))
            have hB10 := (hB6.e e).ext x10 hsep
            clear e g hp
            walk_at "go"
            exact kq _ _ _ fp' H2 _ (X10.xl e) (fun a ha => (hn10 a ha).imp_right (X9.live a)) (hB10.e e) (hS10.ex e) g (.inr ⟨_, .alone (backW 1), rfl, by decide, parse_alone (z := "again") (by decide +kernel), trivial, (fun n z => nomatch z), rfl, rfl⟩)
        · walk_at "go"
          refine i_dec (fun w10 => ?_) (fun w10 => ?_)
          · walk_at "go"
            refine u__law_one (hB5.e e) g (new_ne hob X5 hp) (by simp) (by simp) fun vw H6 hvw x6 hB6 => ?_
            obtain ⟨wd, rfl, hwd⟩ : ∃ wd : Str, vw = .str wd ∧ (wd = "leave" ∨ wd = "come") := by
              simp only [List.mem_cons, List.not_mem_nil, or_false] at hvw
              rcases hvw with rfl | rfl
              · exact ⟨_, rfl, .inl rfl⟩
              · exact ⟨_, rfl, .inr rfl⟩
            have X6 := (X5.xl e).trans x6
            have hS6 := hS.ext X6 hbS
            have hwl : wd.length ≤ 10 := by rcases hwd with rfl | rfl <;> decide +kernel
            have hww : wd ∈ withL := by rcases hwd with rfl | rfl <;> decide +kernel
            have n1 := strI_len (sm40 hnn)
            have n4 : (" ": Str).length = 1 := rfl
            clear e g hp x6
            walk_at "go"
            refine i_catS (by omega) ?_
            walk_at "go"
            refine i_strI (log_lt (sm_ok (sm40 hnn))) ?_
            refine i_catS (by rw [cat_len]; omega) ?_
            walk_at "go"
            refine u__law_gone hwd hS6 (fun d hd => (hO d hd).1) fun fp' H10 x10 hn10 hS10 => ?_
            have X10 : Ext (b :: st :: fp) H H10 := (X6.mono (by simp)).trans (x10.mono (fun a ha => List.mem_cons_of_mem _ ha))
            have hB10 := hB6.ext x10 hsep
            walk_at "go"
            exact kq _ _ _ fp' H2 _ (X10.xl e) (fun a ha => (hn10 a ha).imp_right (X6.live a)) (hB10.e e) (hS10.ex e) g (.inr ⟨_, .one wd nn, rfl, by rw [cat_len, cat_len]; omega, parse_two hww (sm40 hnn), trivial, (by rintro n z; injection z with z1; subst z1; rcases hwd with z | z <;> exact absurd z (by decide)), rfl, rfl⟩)
          · walk_at "go"
            by_cases h10 : way = 10
            · have h10v : decide (V.int way = V.int 10) = true := decide_eq_true (by rw [h10])
              refine i_t h10v ?_
              walk_at "go"
              refine u__law_take hB5 (by omega) (by omega) fun r3 H6 r30 r31 x6 hB6 => ?_
              have X6 := X5.trans x6
              have hS6 := hS.ext X6 hbS
              walk_at "go"
              refine i_dec (fun h30 => ?_) (fun h30 => ?_)
              · walk_at "go"
                refine u__law_one (hB6.e e) g (new_ne hob X6 hp) (by simp) (by simp) fun vb H7 hvb x7 hB7 => ?_
                obtain ⟨b0, rfl, hb0⟩ : ∃ b0 : Str, vb = .str b0 ∧ b0 ∈ baseL := by
                  obtain ⟨b0, h1, h2⟩ := List.mem_map.mp (show vb ∈ baseL.map V.str from hvb)
                  exact ⟨b0, h2.symm, h1⟩
                have X7 := (X6.xl e).trans x7
                clear e g hp x7
                walk_at "go"
                refine u__law_one (hB7.e e) g (new_ne hob X7 hp) (by simp) (by simp) fun vb H8 hvb x8 hB8 => ?_
                obtain ⟨b1, rfl, hb1⟩ : ∃ b1 : Str, vb = .str b1 ∧ b1 ∈ baseL ++ baseM := by
                  simp only [List.mem_cons, List.not_mem_nil, or_false] at hvb
                  rcases hvb with rfl | rfl | rfl | rfl | rfl | rfl | rfl | rfl
                  · exact ⟨_, rfl, List.mem_append_left _ hb0⟩
                  · exact ⟨_, rfl, List.mem_append_left _ hb0⟩
                  all_goals exact ⟨_, rfl, by decide +kernel⟩
                have X8 := (X7.xl e).trans x8
                have hbl : b1.length ≤ 100 := base_len b1 hb1
                obtain ⟨z1, z2, z3, z4⟩ := bad_base b1 hb1
                have n1 : (" 1": Str).length = 2 := rfl
                have n2 : (" ": Str).length = 1 := rfl
                have n3 : ("\n": Str).length = 1 := rfl
                clear e g hp x8
                walk_at "go"
                refine i_catS (by omega) ?_
                walk_at "go"
                refine i_catS (by omega) ?_
                walk_at "go"
                refine i_catS (by omega) ?_
                walk_at "go"
                refine i_catS (by omega) ?_
                walk_at "go"
                refine u__law_one (hB8.e e) g (new_ne hob X8 hp) (by simp) (by simp) fun vz H9 hvz x9 hB9 => ?_
                obtain ⟨z, rfl, hz1, hz2⟩ : ∃ z : Str, vz = .str z ∧ z.length ≤ 40000 ∧ parse z = none := by
                  simp only [List.mem_cons, List.not_mem_nil, or_false] at hvz
                  rcases hvz with rfl | rfl | rfl | rfl
                  · exact ⟨_, rfl, by rw [cat_len]; omega, none_of z1⟩
                  · exact ⟨_, rfl, by rw [cat_len]; omega, none_of z2⟩
                  · exact ⟨_, rfl, by rw [cat_len]; omega, none_of z3⟩
                  · exact ⟨_, rfl, by rw [cat_len]; omega, none_of z4⟩
                have X9 := (X8.xl e).trans x9
                have hS9 := hS.ext X9 hbS
                clear e g hp x9
                walk_at "go"
                exact kq _ _ _ fp H2 o ((X9.xl e).mono (by simp)) (fun a ha => .inl ha) (hB9.e e) (hS9.ex e) g (.inl ⟨rfl, rfl, .inr ⟨z, rfl, hz1, hz2⟩⟩)
              · walk_at "go"
                refine i_mulS mul1 ?_
                refine i_catS (by rw [ones.2]; decide) ?_
                walk_at "go"
                rename_i pA hpA JA eA gA
                have bA : ∀ v ∈ _, BadS v := badS_lit ["where", "mates", "leave", "come", "met x", "mates x", "come x", "row x", "leave 01"] (by decide +kernel)
                have gA2 := e _ _ gA
                refine i_cat gA2 g (by simp) fun pB JB hpB eB gB => ?_
                have bB : ∀ v ∈ _, BadS v := badS_app bA (badS_one (z := "all " ++ Txt.mul "1" 5000) (by rw [cat_len, ones.2]; decide) bad_all)
                have EB : Ex H6 JB := by walk_at "ex"
                obtain ⟨LB, gB, bB, nB⟩ : ∃ L, JB pB = some (.lst L) ∧ (∀ v ∈ L, BadS v) ∧ L.length ≤ 10 := ⟨_, gB, bB, by simp⟩
                have fB : H6 pB = none := fresh_back (by walk_at "ex") hpB
                clear gA2 bA eB hpB e g hp gA eA hpA
                walk_at "go"
                refine i_mulS mul1 ?_
                refine i_catS (by rw [ones.2]; decide) ?_
                walk_at "go"
                refine i_mulS mul9 ?_
                refine i_catS (by rw [nines.2]; decide) ?_
                walk_at "go"
                refine i_cat (e _ _ gB) g (by simp; omega) fun pC JC hpC eC gC => ?_
                have bC : ∀ v ∈ LB ++ _, BadS v := badS_app bB (badS_app (badS_one (z := "where " ++ Txt.mul "1" 5000) (by rw [cat_len, ones.2]; decide) bad_where) (badS_app (badS_one (z := "line 2 " ++ Txt.mul "9" 5000) (by rw [cat_len, nines.2]; decide) bad_line) (badS_lit ["", "line", "line 2", "line 2 x", "line 02 3"] (by decide +kernel))))
                have EC : Ex H6 JC := by walk_at "ex"
                obtain ⟨LC, gC, bC, nC⟩ : ∃ L, JC pC = some (.lst L) ∧ (∀ v ∈ L, BadS v) ∧ L.length ≤ 20 := ⟨_, gC, bC, by simp; omega⟩
                clear EB gB bB nB eC hpC e g hp fB
                walk_at "go"
                refine i_cat (e _ _ gC) g (by simp; omega) fun pD JD hpD eD gD => ?_
                have bD : ∀ v ∈ LC ++ _, BadS v := badS_app bC (badS_lit ["call all 1", "all 0", "up 3 1", "swap 0 0", "row"] (by decide +kernel))
                have ED : Ex H6 JD := by walk_at "ex"
                obtain ⟨LD, gD, bD, nD⟩ : ∃ L, JD pD = some (.lst L) ∧ (∀ v ∈ L, BadS v) ∧ L.length ≤ 30 := ⟨_, gD, bD, by simp; omega⟩
                clear EC gC bC nC eD hpD e g hp
                walk_at "go"
                refine i_cat (e _ _ gD) g (by simp; omega) fun pE JE hpE eE gE => ?_
                have bE : ∀ v ∈ LD ++ _, BadS v := badS_app bD (badS_lit ["where x", "back 1", "away 1", " away", "away ", "HOME", "all  1", "row 1 2", "leave -0", "met"] (by decide +kernel))
                have EE : Ex H6 JE := by walk_at "ex"
                have fE : H6 pE = none := fresh_back (by walk_at "ex") hpE
                obtain ⟨LE, gE, bE, nE⟩ : ∃ L, JE pE = some (.lst L) ∧ (∀ v ∈ L, BadS v) ∧ L.length ≤ 40 := ⟨_, gE, bE, by simp; omega⟩
                clear ED gD bD nD eE hpE e g hp
                walk_at "go"
                refine i_app gE (by omega) ?_
                generalize hUF : upd JE pE _ = JF
                obtain ⟨xF, gF, kF⟩ := wr_of hUF gE (by intro _ z; cases z)
                have EF : Ex H6 JF := mut_fresh EE xF fE
                have bF : ∀ v ∈ LE ++ [V.str "all 1, about"], BadS v := badS_app bE (badS_lit ["all 1, about"] (by decide +kernel))
                obtain ⟨LF, gF, bF, nF⟩ : ∃ L, JF pE = some (.lst L) ∧ (∀ v ∈ L, BadS v) ∧ L.length ≤ 41 := ⟨_, gF, bF, by simp; omega⟩
                clear EE gE bE nE xF hUF kF fE
                walk_at "go"
                refine i_mulS mul0 ?_
                refine i_catS (by rw [zeros]; decide) ?_
                walk_at "go"
                rename_i qA hqA KA kA wA qB hqB KB kB wB qC hqC KC kC wC
                have E2 : Ex H6 H2 := by walk_at "ex"
                refine i_cat (e _ _ (kC _ _ (kB _ _ (kA _ _ gF)))) g (by simp; omega) fun pG JG hpG eG gG => ?_
                refine i_nil ?_
                have yA : JG qA = some (.lst [.str "home"]) := eG _ _ (e _ _ (kC _ _ (kB _ _ wA)))
                have yB : JG qB = some (.tup [.str "home"]) := eG _ _ (e _ _ (kC _ _ wB))
                have yC : JG qC = some (.dK []) := eG _ _ (e _ _ wC)
                have nA : qA ≠ b := new_ne hob (X6.xl EF) hqA
                have nC : qC ≠ b := new_ne hob (X6.xl (EF.trans (kA.trans kB))) hqC
                have nG : pG ≠ b := new_ne hob (X6.xl E2) hpG
                have EG := E2.trans eG
                refine u__law_one (hB6.e EG) gG nG (by simp) (by simp; omega) fun vz H9 hvz x9 hB9 => ?_
                have X9 := (X6.xl EG).trans x9
                have hS9 := hS.ext X9 hbS
                have yA := x9.keep _ _ yA (by simpa using nA)
                have yB := x9.tup _ _ yB
                have yC := x9.keep _ _ yC (by simpa using nC)
                clear wA wB wC kA kB kC e g hp eG hpG hqA hqB hqC EG E2
                walk_at "go"
                have hbad : NotStr K H2 vz ∨ ∃ z, vz = .str z ∧ z.length ≤ 40000 ∧ parse z = none := by
                  rcases List.mem_append.mp hvz with h | h
                  · exact .inr (bF _ h)
                  · simp only [List.mem_cons, List.not_mem_nil, or_false] at h
                    rcases h with rfl | rfl | rfl | rfl | rfl | rfl | rfl
                    · exact .inl ns_non
                    · exact .inl ns_int
                    · exact .inl (ns_lst (e _ _ yA))
                    · exact .inl (ns_tup (e _ _ yB))
                    · exact .inl ns_bl
                    · exact .inl (ns_dict (e _ _ yC))
                    · exact .inr ⟨_, rfl, by rw [cat_len, zeros]; decide, bad_forty⟩
                exact kq _ _ _ fp H2 o ((X9.xl e).mono (by simp)) (fun a ha => .inl ha) (hB9.e e) (hS9.ex e) g (.inl ⟨rfl, rfl, hbad⟩)
            · have h10v : decide (V.int way = V.int 10) = false := decide_eq_false fun z => h10 (V.int.inj z)
              refine i_f h10v ?_
              walk_at "go"
              refine i_dec (fun w13 => ?_) (fun w13 => ?_)
              · walk_at "go"
                refine u__law_one (hB5.e e) g (new_ne hob X5 hp) (by simp) (by simp) fun vw H6 hvw x6 hB6 => ?_
                obtain ⟨wd, rfl, hwd⟩ : ∃ wd : Str, vw = .str wd ∧ (wd = "where" ∨ wd = "mates" ∨ wd = "row") := by
                  simp only [List.mem_cons, List.not_mem_nil, or_false] at hvw
                  rcases hvw with rfl | rfl | rfl
                  · exact ⟨_, rfl, .inl rfl⟩
                  · exact ⟨_, rfl, .inr (.inl rfl)⟩
                  · exact ⟨_, rfl, .inr (.inr rfl)⟩
                have X6 := (X5.xl e).trans x6
                have hS6 := hS.ext X6 hbS
                have hwl : wd.length ≤ 10 := by rcases hwd with rfl | rfl | rfl <;> decide +kernel
                have hww : wd ∈ withL := by rcases hwd with rfl | rfl | rfl <;> decide +kernel
                have hask : askC wd nn = .one wd nn := by rcases hwd with rfl | rfl | rfl <;> rfl
                have n1 := strI_len (sm40 hnn)
                have n4 : (" ": Str).length = 1 := rfl
                clear e g hp x6
                walk_at "go"
                refine i_catS (by omega) ?_
                walk_at "go"
                refine i_strI (log_lt (sm_ok (sm40 hnn))) ?_
                refine i_catS (by rw [cat_len]; omega) ?_
                walk_at "go"
                refine ⟨st, fp, o, wd, nn, rfl, by rcases hwd with rfl | rfl | rfl <;> simp, hS6, hO, fun H10 e10 => ?_⟩
                rw [hask]
                walk_at "go"
                exact kq _ _ _ fp H2 o (((X6.xl e10).xl e).mono (by simp)) (fun a ha => .inl ha) ((hB6.e e10).e e) ((hS6.ex e10).ex e) g (.inr ⟨_, .one wd nn, rfl, by rw [cat_len, cat_len]; omega, parse_two hww (sm40 hnn), trivial, (by rintro n z; injection z with z1; subst z1; rcases hwd with z | z | z <;> exact absurd z (by decide)), rfl, (exec_ask1 hwd).symm⟩)
              · walk_at "go"
                refine u__law_one (hB5.e e) g (new_ne hob X5 hp) (by simp) (by simp) fun vw H6 hvw x6 hB6 => ?_
                obtain ⟨wd, rfl, hwd⟩ : ∃ wd : Str, vw = .str wd ∧ (wd = "away" ∨ wd = "script" ∨ wd = "home") := by
                  simp only [List.mem_cons, List.not_mem_nil, or_false] at hvw
                  rcases hvw with rfl | rfl | rfl
                  · exact ⟨_, rfl, .inl rfl⟩
                  · exact ⟨_, rfl, .inr (.inl rfl)⟩
                  · exact ⟨_, rfl, .inr (.inr rfl)⟩
                have X6 := (X5.xl e).trans x6
                have hS6 := hS.ext X6 hbS
                have hwl : wd.length ≤ 10 := by rcases hwd with rfl | rfl | rfl <;> decide +kernel
                have hww : wd ∈ aloneL := by rcases hwd with rfl | rfl | rfl <;> decide +kernel
                have hask : askC wd 0 = .alone wd := if_pos hwd
                clear e g hp x6
                walk_at "go"
                refine ⟨st, fp, o, wd, 0, rfl, by rcases hwd with rfl | rfl | rfl <;> simp, hS6, hO, fun H10 e10 => ?_⟩
                rw [hask]
                walk_at "go"
                exact kq _ _ _ fp H2 o (((X6.xl e10).xl e).mono (by simp)) (fun a ha => .inl ha) ((hB6.e e10).e e) ((hS6.ex e10).ex e) g (.inr ⟨_, .alone wd, rfl, by omega, parse_alone hww, trivial, (fun n z => nomatch z), rfl, (exec_ask hwd).symm⟩)
    clear hR
    have beg : ∀ H', Ext [b] H H' → BagAt H' b l → sp__law_begun K [.ref b, .ref st] H' Q (fun _ _ _ => False) := fun H' x' hB' => u__law_begun hB' (hS.ext x' hbS) hsep (kq.up x')
    walk_at "go"
    refine i_dec (fun h0 => ?_) (fun h0 => ?_)
    · walk_at "go"
      exact beg H1 x1 hB1
    · walk_at "go"
      refine i_dec (fun h3 => ?_) (fun h3 => ?_)
      · walk_at "go"
        refine i_eqSt (hS1.ex e) g ?_
        cases o with
        | none =>
          walk_at "go"
          exact beg _ (x1.xl e) (hB1.e e)
        | some d =>
          walk_at "go"
          exact key _ (x1.xl e) (hB1.e e)
      · walk_at "go"
        exact key _ x1 hB1
theorem cal__law_line (T : Txt K mg w) : Cal P w K mg base CX0 5 "_law_line" (sp__law_line K) := calOf T.g__law_line T.d__law_line (fun _ F => ok__law_line T F) (fun _ _ _ _ _ _ us hl => match us, hl with | [_, _], _ => rfl)
end
end Pp
-- PpBe
set_option maxRecDepth 100000
set_option maxHeartbeats 4000000
/-! The answers are short and of plain signs. -/
namespace Pp
open PySem PySem.Spec PyProof.Rows L2 Evl
def Asc (z : Str) : Prop := ∀ c ∈ TL.tl z, c < 1000
theorem Asc.app {a b : Str} (h1 : Asc a) (h2 : Asc b) : Asc (a ++ b) := fun c hc => by
  rw [TL.tl_append] at hc
  exact (List.mem_append.mp hc).elim (h1 c) (h2 c)
theorem mem_joinL {S : List Nat} {c : Nat} : ∀ {ps : List (List Nat)}, c ∈ TL.joinL S ps → c ∈ S ∨ ∃ p ∈ ps, c ∈ p
  | [], h => by cases h
  | [p], h => .inr ⟨p, by simp, h⟩
  | p :: q :: r, h => by
    have h : c ∈ p ++ (S ++ TL.joinL S (q :: r)) := h
    rcases List.mem_append.mp h with h | h
    · exact .inr ⟨p, by simp, h⟩
    · rcases List.mem_append.mp h with h | h
      · exact .inl h
      · rcases mem_joinL h with h | ⟨x, hx, hc⟩
        · exact .inl h
        · exact .inr ⟨x, List.mem_cons_of_mem _ hx, hc⟩
theorem Asc.join {y : Str} {ps : List Str} (h1 : Asc y) (h2 : ∀ p ∈ ps, Asc p) : Asc (Txt.join y ps) := fun c hc => by
  rw [TL.join_eq, TL.tl_join] at hc
  rcases mem_joinL hc with h | ⟨p, hp, h⟩
  · exact h1 c h
  · obtain ⟨x, hx, rfl⟩ := List.mem_map.mp hp
    exact h2 x hx c h
theorem asc_int (i : Int) : Asc (Str.ofString (toString i)) := fun c hc => by
  rw [tl_int] at hc
  have hd : ∀ n, ∀ c ∈ TL.numL n, c < 1000 := fun n c hc => by
    have := TL.numL_digits n c hc
    omega
  unfold numZ at hc
  split at hc
  · rcases List.mem_cons.mp hc with rfl | hc
    · omega
    · exact hd _ c hc
  · exact hd _ c hc
/-- short, of plain signs -/
def Sho (z : Str) : Prop := z.length ≤ 200000 ∧ Asc z
theorem Sho.repr {z : Str} (h : Sho z) : (reprText z).length ≤ sizeLine := by
  have := PySem.StrLaws.reprText_len z fun c hc => by
    have := h.2 c hc
    have h2 : 1000 < 16 ^ 8 := by decide
    omega
  rw [sizeLine_eq]
  have := h.1
  omega
theorem sho_lit : ∀ z ∈ (["ok", "refused", "yes", "no", "none"] : List Str), z.length ≤ 200000 ∧ ∀ c ∈ TL.tl z, c < 1000 := by decide +kernel
theorem sho_join {y : Str} {ps : List Str} (hy : y.length ≤ 2 ∧ Asc y) {k : Nat} (h : ∀ p ∈ ps, p.length ≤ k ∧ Asc p) (hn : ps.length * (k + 2) ≤ 200000) : Sho (Txt.join y ps) := by
  refine ⟨?_, hy.2.join fun p hp => (h p hp).2⟩
  have h1 := join_len (y := y) fun p hp => (h p hp).1
  refine Nat.le_trans h1 (Nat.le_trans ?_ hn)
  refine Nat.mul_le_mul_left _ ?_
  omega
theorem sho_one {xs : List V} (h : ∀ v ∈ xs, v = .non ∨ ∃ i : Int, v = .int i ∧ i.natAbs < 10 ^ 40) (hn : xs.length ≤ 1000) : Sho (oneText xs) := by
  unfold oneText
  split
  · exact sho_lit "none" (by simp)
  · refine sho_join (k := 41) ⟨by decide, by unfold Asc; decide +kernel⟩ (fun p hp => ?_) (by rw [List.length_map]; omega)
    obtain ⟨v, hv, rfl⟩ := List.mem_map.mp hp
    rcases h v hv with rfl | ⟨i, rfl, hi⟩
    · exact ⟨by decide, by unfold Asc; decide +kernel⟩
    · exact ⟨strI_len hi, asc_int i⟩
theorem sho_call {c : Cl} (h : c.Sm) : Sho (callText c) := by
  refine ⟨by have := callText_len h; omega, ?_⟩
  unfold callText
  refine Asc.join (by unfold Asc; decide +kernel) fun p hp => ?_
  obtain ⟨v, hv, rfl⟩ := List.mem_map.mp hp
  rw [Cl.vs_wv] at hv
  rcases List.mem_cons.mp hv with rfl | hv
  · have hw : ∀ w ∈ wordsL, ∀ c ∈ TL.tl w, c < 1000 := by decide +kernel
    exact hw _ (word_mem c)
  · obtain ⟨n, _, rfl⟩ := List.mem_map.mp hv
    exact asc_int n
theorem sho_scr {files : Int} {cs : List Cl} (h1 : files.natAbs < 10 ^ 40) (h2 : ∀ c ∈ cs, c.Sm) (h3 : cs.length ≤ 250) : Sho (scrText files cs) := by
  have hw : ∀ x ∈ (cs.map fun c => (" " : Str) ++ callText c), x.length ≤ 201 ∧ Asc x := fun x hx => by
    obtain ⟨c, hc, rfl⟩ := List.mem_map.mp hx
    have h := callText_len (h2 c hc)
    have n1 : (" " : Str).length = 1 := rfl
    exact ⟨by rw [cat_len]; omega, Asc.app (by unfold Asc; decide +kernel) (sho_call (h2 c hc)).2⟩
  have hj := join_len (y := ",") fun x hx => (hw x hx).1
  have hl : (cs.map fun c => (" " : Str) ++ callText c).length ≤ 250 := by rw [List.length_map]; exact h3
  have n2 : (",": Str).length = 1 := rfl
  have n3 : (":": Str).length = 1 := rfl
  have n4 := strI_len h1
  have hm : (cs.map fun c => (" " : Str) ++ callText c).length * (201 + (",": Str).length) ≤ 250 * 202 := Nat.mul_le_mul hl (by omega)
  unfold scrText
  refine ⟨?_, ((asc_int files).app (by unfold Asc; decide +kernel)).app (Asc.join (by unfold Asc; decide +kernel) fun p hp => (hw p hp).2)⟩
  rw [cat_len, cat_len]
  omega
theorem aloneA_sho {n : Nat} {d d' : Pd} {w a : Str} (g : Good1 n d) (h : aloneA d w = some (a, d')) : Sho a := by
  obtain ⟨o, s, l⟩ := g
  have hb := bd_mul o.bd
  unfold aloneA at h
  split at h
  · cases h
    refine sho_one (fun v hv => ?_) (by rw [List.length_map, (sortI_perm d.gone).length_eq]; have := o.gl; omega)
    obtain ⟨x, hx, rfl⟩ := List.mem_map.mp hv
    have := o.gi x ((sortI_perm d.gone).subset hx)
    exact .inr ⟨x, rfl, small40 (by omega)⟩
  split at h
  · cases h
    have := o.fr
    exact sho_scr (by omega) s.1 (by have := o.ld; omega)
  split at h
  · cases h
    split
    · exact sho_lit "yes" (by simp)
    · exact sho_lit "no" (by simp)
  split at h
  · split at h
    · cases h
    · rename_i c hc
      cases h
      exact sho_call (s.1 c (by rw [last_of hc]; simp))
  · split at h
    · cases h
    · rename_i c hc
      cases h
      exact sho_call (s.2 c (by rw [last_of hc]; simp))
theorem oneA_sho {n : Nat} {d d' : Pd} {w a : Str} {k : Int} (g : Good1 n d) (h : oneA d w k = some (a, d')) : Sho a := by
  obtain ⟨o, s, l⟩ := g
  have hb := bd_mul o.bd
  have b := o.bd
  have hfr := o.fr
  unfold oneA at h
  split at h
  · cases h
    split
    · refine sho_one (fun v hv => ?_) ?_
      · unfold shownL at hv
        obtain ⟨x, hx, rfl⟩ := List.mem_map.mp hv
        have hr := stand_rng (files := d.files) (rows := d.rows) (by omega) d.done x (List.mem_of_mem_drop (List.mem_of_mem_take hx))
        unfold pvV
        split
        · exact .inl rfl
        · exact .inr ⟨x, rfl, small40 (by omega)⟩
      · unfold shownL
        rw [List.length_map, List.length_take]
        omega
    · exact sho_lit "refused" (by simp)
  split at h
  · cases h
  rename_i hin
  have hr : 0 ≤ k ∧ k < d.rows * d.files := by
    unfold inR at hin
    exact of_decide_eq_true (by simpa using hin)
  split at h
  · cases h
    have hl : d.st.length = (d.rows * d.files).toNat := stand_len
    have hlt : d.st.idxOf k ≤ d.st.length := List.idxOf_le_length
    obtain ⟨⟨b1, b2⟩, b3, b4⟩ := b
    have q1 : ((d.st.idxOf k : Nat) : Int) / d.files ≤ ((d.st.idxOf k : Nat) : Int) := Int.ediv_le_self _ (by omega)
    have q2 : 0 ≤ ((d.st.idxOf k : Nat) : Int) / d.files := Int.ediv_nonneg (by omega) (by omega)
    have q3 := Int.emod_nonneg ((d.st.idxOf k : Nat) : Int) (show d.files ≠ 0 by omega)
    have q4 := Int.emod_lt_of_pos ((d.st.idxOf k : Nat) : Int) (show 0 < d.files by omega)
    have n1 := strI_len (small40 (n := ((d.st.idxOf k : Nat) : Int) / d.files) ⟨by omega, by omega⟩)
    have n2 := strI_len (small40 (n := ((d.st.idxOf k : Nat) : Int) % d.files) ⟨by omega, by omega⟩)
    have n3 : (".": Str).length = 1 := rfl
    rw [placeT_eq]
    exact ⟨by rw [cat_len, cat_len]; omega, ((asc_int _).app (by unfold Asc; decide +kernel)).app (asc_int _)⟩
  split at h
  · cases h
    refine sho_one (fun v hv => ?_) ?_
    · obtain ⟨x, hx, rfl⟩ := List.mem_map.mp hv
      have hx := (List.mem_filter.mp ((sortI_perm _).subset (List.mem_filter.mp hx).1)).1
      unfold rowL at hx
      have hr := stand_rng (files := d.files) (rows := d.rows) (by omega) d.done x (List.mem_of_mem_drop (List.mem_of_mem_take hx))
      exact .inr ⟨x, rfl, small40 (by omega)⟩
    · rw [List.length_map]
      have g1 := List.length_filter_le (fun x => !decide (x ∈ d.gone)) (sortI ((rowL d.files.toNat d.st k).filter fun x => decide (x ≠ k)))
      have g2 := (sortI_perm ((rowL d.files.toNat d.st k).filter fun x => decide (x ≠ k))).length_eq
      have g3 := List.length_filter_le (fun x => decide (x ≠ k)) (rowL d.files.toNat d.st k)
      have g4 : (rowL d.files.toNat d.st k).length ≤ d.files.toNat := by unfold rowL; rw [List.length_take]; omega
      omega
  split at h
  · split at h
    · cases h
    · cases h
      exact sho_lit "ok" (by simp)
  · split at h
    · cases h
      exact sho_lit "ok" (by simp)
    · cases h
theorem exec_sho {n : Nat} {o : Option Pd} {c : Cmd} (g : Good n o) : Sho (exec o c).1 := by
  have ref := sho_lit "refused" (by simp)
  have ok := sho_lit "ok" (by simp)
  cases ha : ans o c with
  | none => rw [exec_none ha]; exact ref
  | some p =>
    rw [exec_some ha]
    cases c with
    | begin f r =>
      rw [ans_begin] at ha
      split at ha
      · cases ha; exact ok
      · cases ha
    | alone w =>
      cases o with
      | none => cases ha; exact ref
      | some d =>
        rw [ans_alone] at ha
        cases hx : aloneA d w with
        | none => rw [hx] at ha; cases ha
        | some q => rw [hx] at ha; cases ha; exact aloneA_sho (g d rfl) (a := q.1) (d' := q.2) hx
    | one w k =>
      cases o with
      | none => cases ha; exact ref
      | some d =>
        rw [ans_one] at ha
        cases hx : oneA d w k with
        | none => rw [hx] at ha; cases ha
        | some q => rw [hx] at ha; cases ha; exact oneA_sho (g d rfl) (a := q.1) (d' := q.2) hx
    | call c =>
      cases o with
      | none => cases ha; exact ref
      | some d =>
        rw [ans_call] at ha
        split at ha
        · cases ha; exact ok
        · cases ha
end Pp
-- PpLj
set_option maxRecDepth 100000
set_option maxHeartbeats 4000000
namespace Pp
open PySem PySem.Spec PyProof.Rows L2 Evl
section
variable {P : Program} {w : World} {K : PySem.W.Frag} {mg : Str → Option Value} {base : Heap} {H : Hp} {Q : VK} {E : XK}
abbrev s__law_alike : Stmt := top 72
abbrev N__law_alike : List Str := ["_law_found", "_law_due"]
theorem sc__law_alike : FnScope N__law_alike ["_law_found", "_law_due"] (defScope s__law_alike) := ⟨rfl, rfl, rfl, by decide +kernel, rfl, by decide +kernel, by decide +kernel⟩
def sp__law_alike : Sp := fun vs H Q _ => ∃ x : V, vs = [x, x] ∧ (x = .non ∨ ∃ z : Str, x = .str z ∧ (reprText z).length ≤ sizeLine) ∧ RetV (.bl true) H Q
theorem ok__law_alike (T : Txt K mg w) {f : Addr} {fd : FuncData} (F : DefAt K "_law_alike" "_law_alike" s__law_alike f fd) : FnOk P w K mg base CX0 1 f fd ["_law_found", "_law_due"] sp__law_alike := by
  refine ok0 F sc__law_alike (fun vs H Q E h => ?_) (fun cdv A outer s H vs Q E hr h => ?_)
  · walk_at "len"
  · obtain ⟨x, rfl, hx, kq⟩ := h
    refine ⟨_, (pss_one (ps_ret (pe_and (pe_cmpR op_eq (pv 0) (pv 1) (nomark _)) (pe_one (pe_cmpR op_eq (pe_callB call_reprTN (by rfl) T.b_repr (by decide +kernel) (pa_cons (pv 0) pa_nil)) (pe_callB call_reprTN (by rfl) T.b_repr (by decide +kernel) (pa_cons (pv 1) pa_nil)) (nomark _)))))), ?_⟩
    rcases hx with rfl | ⟨z, rfl, hz⟩
    · walk_at "go"
      refine .inr ⟨rfl, ?_⟩
      walk_at "go"
      refine .inr ⟨rfl, ?_⟩
      walk_at "go"
      exact kq _ (Ex.refl _)
    · walk_at "go"
      refine .inl ⟨z, rfl, hz, ?_⟩
      walk_at "go"
      refine .inl ⟨z, rfl, hz, ?_⟩
      walk_at "go"
      rw [decide_eq_true rfl]
      exact kq _ (Ex.refl _)
theorem cal__law_alike (T : Txt K mg w) : Cal P w K mg base CX0 1 "_law_alike" sp__law_alike := calOf T.g__law_alike T.d__law_alike (fun _ F => ok__law_alike T F) (fun _ _ _ _ _ _ us hl => match us, hl with | [_, _], _ => rfl)
abbrev s__law_bag : Stmt := top 68
abbrev N__law_bag : List Str := ["_law_script", "_law_cell"]
theorem sc__law_bag : FnScope N__law_bag ["_law_script"] (defScope s__law_bag) := ⟨rfl, rfl, rfl, by decide +kernel, rfl, by decide +kernel, by decide +kernel⟩
def sp__law_bag (K : PySem.W.Frag) : Sp := fun vs H Q _ => ∃ (a : Addr) (ns : List Int), vs = [.ref a] ∧ SqL K H a (ns.map V.int) ∧ ns.length ≤ 63 ∧ ∀ b l H', Ex H H' → BagAt H' b l → H b = none → H l = none → Q (.ref b) H'
theorem ok__law_bag (T : Txt K mg w) {f : Addr} {fd : FuncData} (F : DefAt K "_law_bag" "_law_bag" s__law_bag f fd) : FnOk P w K mg base CX0 1 f fd ["_law_script"] (sp__law_bag K) := by
  refine ok0 F sc__law_bag (fun vs H Q E h => ?_) (fun cdv A outer s H vs Q E hr h => ?_)
  · walk_at "len"
  · obtain ⟨a, ns, rfl, ha, hn, kq⟩ := h
    refine ⟨_, (pss_one (ps_ret (pe_lst (pa_cons pe_int (pa_cons pe_int (pa_cons pe_int (pa_cons (pe_lc (own := [("_law_cell", 1)]) (g := gName 1) (tt := tYes) rfl sc__law_bag.nd (pi_list (pe_slice sl_list (pv 0) po_none (po_some pe_int))) (blkOk_by (own := [("_law_cell", 1)]) (N := N__law_bag) (sc := defScope s__law_bag) (by decide +kernel)) (fun _ _ _ _ _ => pg_name (i := 1) sc__law_bag.nd rfl (Or.inl rfl)) (fun _ _ _ _ _ => pts_nil) (fun _ _ _ _ _ => (pe_callB cr_abs (by rfl) T.b_abs (by decide +kernel) (pa_cons (pv 1) pa_nil)))) pa_nil))))))), ?_⟩
    walk_at "go"
    refine i_slL ha fun ps H2 hps e g => ?_
    have hcut : cutV (ns.map V.int) none (some 63) = ns.map V.int := by
      have h1 : HT.sIx (ns.map V.int).length (ns.map V.int).length (some 63) = ns.length := by
        simp only [HT.sIx, List.length_map]
        rw [if_neg (by omega)]
        omega
      unfold cutV
      rw [h1, show HT.sIx (ns.map V.int).length 0 none = 0 from rfl, List.drop_zero, Nat.sub_zero]
      exact List.take_of_length_le (by rw [List.length_map]; omega)
    rw [hcut] at g
    refine ⟨ps, rfl, ⟨_, SqL.of g⟩, ?_⟩
    refine lc_intsL g (fun n => .int (if n < 0 then -n else n)) (by omega) (fun _ => rfl) (fun n H4 e4 _ Q1 q1 => ?_) (fun l4 H4 hl4 e4 g4 => ?_)
    · walk_at "go"
      exact q1 _ (Ex.refl _)
    · walk_at "go"
      refine kq p l4 H2 (by walk_at "ex") ⟨⟨0, 1234567891, 0, ns.map fun n => if n < 0 then -n else n, g, ?_, by omega, ⟨by omega, by omega⟩, by omega, fun c hc => ?_, by rw [List.length_map]; exact hn⟩, fun z => ?_⟩ (fresh_back (by walk_at "ex") hp) (fresh_back (by walk_at "ex") hl4)
      · rw [e _ _ g4, List.map_map]
        rfl
      · obtain ⟨n, _, rfl⟩ := List.mem_map.mp hc
        split <;> omega
      · rw [z, g4] at hp
        cases hp
theorem cal__law_bag (T : Txt K mg w) : Cal P w K mg base CX0 1 "_law_bag" (sp__law_bag K) := calOf T.g__law_bag T.d__law_bag (fun _ F => ok__law_bag T F) (fun _ _ _ _ _ _ us hl => match us, hl with | [_], _ => rfl)
end
end Pp
-- PpSp
set_option maxRecDepth 100000
set_option maxHeartbeats 4000000
/-! Groups of addresses that have nothing in common. -/
namespace Pp
open PySem PySem.Spec PyProof.Rows L2 Evl
def Apart (g g' : List Addr) : Prop := ∀ a ∈ g, a ∉ g'
theorem Apart.symm {g g' : List Addr} (h : Apart g g') : Apart g' g := fun a ha hb => h a hb ha
structure Sep (H : Hp) (gs : List (List Addr)) : Prop where
  live : ∀ g ∈ gs, ∀ a ∈ g, H a ≠ none
  dis : gs.Pairwise Apart
section
variable {H H' : Hp} {gs pre post : List (List Addr)} {g g' : List Addr}
theorem Sep.ext {G : List Addr} (h : Sep H gs) (e : Ext G H H') : Sep H' gs := ⟨fun g hg a ha z => h.live g hg a ha (e.live a z), h.dis⟩
theorem Sep.perm {gs' : List (List Addr)} (h : Sep H gs) (p : gs.Perm gs') : Sep H gs' := ⟨fun g hg => h.live g (p.symm.subset hg), (p.pairwise_iff fun {_ _} k => Apart.symm k).mp h.dis⟩
/-- the first group changes -/
theorem Sep.upd {G : List Addr} (h : Sep H (g :: post)) (e : Ext G H H') (n : ∀ a ∈ g', a ∈ g ∨ H a = none) (l : ∀ a ∈ g', H' a ≠ none) : Sep H' (g' :: post) := by
  obtain ⟨h1, h2⟩ := List.pairwise_cons.mp h.dis
  refine ⟨fun k hk a ha => ?_, List.pairwise_cons.mpr ⟨fun k hk a ha hb => ?_, h2⟩⟩
  · rcases List.mem_cons.mp hk with rfl | hk
    · exact l a ha
    · exact fun z => h.live k (List.mem_cons_of_mem _ hk) a ha (e.live a z)
  · rcases n a ha with q | q
    · exact h1 k hk a q hb
    · exact h.live k (List.mem_cons_of_mem _ hk) a hb q
theorem Sep.out (h : Sep H (g :: post)) (hk : g' ∈ post) : Apart g' g := ((List.pairwise_cons.mp h.dis).1 g' hk).symm
theorem Sep.swap {a b : List Addr} (h : Sep H (a :: b :: post)) : Sep H (b :: a :: post) := h.perm (List.Perm.swap ..)
end
theorem StateAt.live {K : PySem.W.Frag} {H : Hp} {st : Addr} {fp : List Addr} {o : Option Pd} (h : StateAt K H st fp o) : ∀ a ∈ st :: fp, H a ≠ none := by
  cases o with
  | none =>
    obtain ⟨rfl, h⟩ := h
    intro a ha
    rw [List.mem_singleton.mp ha, h]
    simp
  | some d =>
    obtain ⟨l1, l2, l3, as1, as2, rfl, nd, h1, h2, h3, h4, h5, h6⟩ := h
    intro a ha
    simp only [List.mem_cons, List.not_mem_nil, or_false] at ha
    rcases ha with rfl | rfl | rfl | rfl
    · rw [h1]; simp
    · rw [h2]; simp
    · rw [h4]; simp
    · rw [h6]; simp
end Pp
-- PpLk
set_option maxRecDepth 100000
set_option maxHeartbeats 4000000
namespace Pp
open PySem PySem.Spec PyProof.Rows L2 Evl
structure Wd (K : PySem.W.Frag) (H : Hp) (b l st dk : Addr) (fs fd : List Addr) (os od : Option Pd) (rest : List (List Addr)) : Prop where
  sep : Sep H ([b, l] :: (st :: fs) :: (dk :: fd) :: rest)
  bag : BagAt H b l
  s : StateAt K H st fs os
  d : DeskAt K H dk fd od
structure Run (K : PySem.W.Frag) (H0 : Hp) (G0 : List Addr) (H : Hp) (b l st dk : Addr) (fs fd : List Addr) (os od : Option Pd) (rest : List (List Addr)) : Prop where
  w : Wd K H b l st dk fs fd os od rest
  e : Ext G0 H0 H
  nb : b ∈ G0
  ns : ∀ a ∈ st :: fs, a ∈ G0 ∨ H0 a = none
  nd : ∀ a ∈ dk :: fd, a ∈ G0 ∨ H0 a = none
section
variable {K : PySem.W.Frag} {H0 H H' : Hp} {G0 : List Addr} {b l st dk : Addr} {fs fd fs' fd' : List Addr} {os od os' od' : Option Pd} {rest : List (List Addr)}
theorem bag_apart {g : List Addr} (h : Apart g [b, l]) : ∀ a ∈ g, a ∉ [b] := fun a ha z => h a ha (by rw [List.mem_singleton.mp z]; simp)
theorem Wd.bs (w : Wd K H b l st dk fs fd os od rest) : Apart (st :: fs) [b, l] := w.sep.out (by simp)
theorem Wd.bd (w : Wd K H b l st dk fs fd os od rest) : Apart (dk :: fd) [b, l] := w.sep.out (by simp)
theorem Wd.sd (w : Wd K H b l st dk fs fd os od rest) : Apart (dk :: fd) (st :: fs) := w.sep.swap.out (by simp)
theorem Wd.bagE (w : Wd K H b l st dk fs fd os od rest) (e : Ext [b] H H') (hB : BagAt H' b l) : Wd K H' b l st dk fs fd os od rest :=
  ⟨w.sep.ext e, hB, w.s.ext e (bag_apart w.bs), w.d.ext e (bag_apart w.bd)⟩
theorem Wd.ex (w : Wd K H b l st dk fs fd os od rest) (e : Ex H H') : Wd K H' b l st dk fs fd os od rest :=
  ⟨w.sep.ext (exExt (G := []) e), w.bag.e e, w.s.ex e, w.d.ex e⟩
theorem Wd.stateE (w : Wd K H b l st dk fs fd os od rest) (e : Ext (st :: fs) H H') (n : ∀ a ∈ fs', a ∈ fs ∨ H a = none) (h : StateAt K H' st fs' os') : Wd K H' b l st dk fs' fd os' od rest :=
  ⟨((w.sep.swap.upd e (fun a ha => by
    rcases List.mem_cons.mp ha with rfl | ha
    · exact .inl (by simp)
    · exact (n a ha).imp_left (List.mem_cons_of_mem _)) h.live)).swap, w.bag.ext e w.bs.symm, h, w.d.ext e w.sd⟩
theorem Wd.deskE (w : Wd K H b l st dk fs fd os od rest) (e : Ext (dk :: fd) H H') (n : ∀ a ∈ fd', a ∈ fd ∨ H a = none) (h : DeskAt K H' dk fd' od') : Wd K H' b l st dk fs fd' os od' rest :=
  ⟨by
    have p : Sep H ((dk :: fd) :: [b, l] :: (st :: fs) :: rest) := w.sep.perm ((List.Perm.cons _ (List.Perm.swap ..)).trans (List.Perm.swap ..))
    have q := p.upd e (g' := dk :: fd') (fun a ha => by
      rcases List.mem_cons.mp ha with rfl | ha
      · exact .inl (by simp)
      · exact (n a ha).imp_left (List.mem_cons_of_mem _)) h.live
    exact q.perm ((List.Perm.swap ..).trans (List.Perm.cons _ (List.Perm.swap ..))), w.bag.ext e w.bd.symm, w.s.ext e w.sd.symm, h⟩
theorem Run.bagE (r : Run K H0 G0 H b l st dk fs fd os od rest) (e : Ext [b] H H') (hB : BagAt H' b l) : Run K H0 G0 H' b l st dk fs fd os od rest :=
  ⟨r.w.bagE e hB, r.e.trans (e.mono (by intro a ha; rw [List.mem_singleton.mp ha]; exact r.nb)), r.nb, r.ns, r.nd⟩
theorem Run.ex (r : Run K H0 G0 H b l st dk fs fd os od rest) (e : Ex H H') : Run K H0 G0 H' b l st dk fs fd os od rest := ⟨r.w.ex e, r.e.xl e, r.nb, r.ns, r.nd⟩
theorem Run.stateE (r : Run K H0 G0 H b l st dk fs fd os od rest) (e : Ext (st :: fs) H H') (n : ∀ a ∈ fs', a ∈ fs ∨ H a = none) (h : StateAt K H' st fs' os') : Run K H0 G0 H' b l st dk fs' fd os' od rest :=
  ⟨r.w.stateE e n h, r.e.widen e r.ns, r.nb, fun a ha => by
    rcases List.mem_cons.mp ha with rfl | ha
    · exact r.ns a (by simp)
    · rcases n a ha with q | q
      · exact r.ns a (List.mem_cons_of_mem _ q)
      · exact .inr (r.e.live a q), r.nd⟩
theorem Run.deskE (r : Run K H0 G0 H b l st dk fs fd os od rest) (e : Ext (dk :: fd) H H') (n : ∀ a ∈ fd', a ∈ fd ∨ H a = none) (h : DeskAt K H' dk fd' od') : Run K H0 G0 H' b l st dk fs fd' os od' rest :=
  ⟨r.w.deskE e n h, r.e.widen e r.nd, r.nb, r.ns, fun a ha => by
    rcases List.mem_cons.mp ha with rfl | ha
    · exact r.nd a (by simp)
    · rcases n a ha with q | q
      · exact r.nd a (List.mem_cons_of_mem _ q)
      · exact .inr (r.e.live a q)⟩
theorem Wd.run (w : Wd K H b l st dk fs fd os od rest) : Run K H ([b] ++ (st :: fs) ++ (dk :: fd)) H b l st dk fs fd os od rest :=
  ⟨w, Ext.refl _, by simp, fun a ha => .inl (List.mem_append_left _ (List.mem_append_right _ ha)), fun a ha => .inl (List.mem_append_right _ ha)⟩
/-- a call that fits is done, or there are two hundred -/
theorem exec_call_len {n : Nat} {d : Pd} {c : Cl} (g : Good n (some d)) (h1 : c.Ok d.files) (h2 : c.Sm) (h3 : szOf c ≤ 16) : ∃ d', (exec (some d) (.call c)).2 = some d' ∧ Good n (some d') ∧ d'.done.length = min (d.done.length + 1) 200 := by
  obtain ⟨o, s, l⟩ := g d rfl
  by_cases hl : d.done.length < 200
  · refine ⟨{ d with done := d.done ++ [c], undone := [] }, by rw [exec_some (show ans (some d) (.call c) = some (("ok" : Str), some { d with done := d.done ++ [c], undone := [] }) by rw [ans_call, if_pos ⟨⟨h1, h3⟩, hl⟩])], fun d' e => ?_, by show (d.done ++ [c]).length = _; rw [List.length_append, List.length_singleton]; omega⟩
    cases e
    refine ⟨⟨o.fr, o.rr, fun x hx => ?_, (fun _ z => nomatch z), ?_, o.gn, o.gi, o.gl⟩, ⟨fun x hx => ?_, (fun _ z => nomatch z)⟩, l⟩
    · rcases List.mem_append.mp hx with hx | hx
      · exact o.dn x hx
      · rw [List.mem_singleton.mp hx]; exact h1
    · show (d.done ++ [c]).length + ([] : List Cl).length ≤ 200
      simp
      omega
    · rcases List.mem_append.mp hx with hx | hx
      · exact s.1 x hx
      · rw [List.mem_singleton.mp hx]; exact h2
  · have hd := o.ld
    exact ⟨d, by rw [exec_none (show ans (some d) (.call c) = none by rw [ans_call, if_neg fun z => hl z.2])], g, by omega⟩
end
section
variable {P : Program} {w : World} {K : PySem.W.Frag} {mg : Str → Option Value} {base : Heap} {H : Hp} {Q : VK} {E : XK}
theorem u__law_desk_said {st : Addr} {fp : List Addr} {o : Option Pd} {wd : Str} {n : Int} (h1 : wd = "away" ∨ wd = "script" ∨ wd = "home" ∨ wd = "where" ∨ wd = "mates" ∨ wd = "row") (h2 : StateAt K H st fp o) (h3 : ∀ d, o = some d → d.Ok ∧ d.Sm) (k : RetV (.str (exec o (askC wd n)).1) H Q) : sp__law_desk_said K [.ref st, .str wd, .int n] H Q E := ⟨st, fp, o, wd, n, rfl, h1, h2, h3, k⟩
theorem row0 : parse "row 0" = some (.one "row" 0) := by
  rw [show ("row 0" : Str) = ("row" : Str) ++ (" " : Str) ++ Str.ofString (toString (0 : Int)) by decide +kernel]
  exact parse_two (by decide +kernel) (by decide)
abbrev s__law_full : Stmt := top 89
abbrev N__law_full : List Str := ["_law_bag_here", "_law_desk", "_law_state", "_law_k", "_law_call_here"]
theorem sc__law_full : FnScope N__law_full ["_law_bag_here", "_law_desk", "_law_state"] (defScope s__law_full) := ⟨rfl, rfl, rfl, by decide +kernel, rfl, by decide +kernel, by decide +kernel⟩
def sp__law_full (K : PySem.W.Frag) : Sp := fun vs H Q _ => ∃ (b l st dk : Addr) (fs fd : List Addr) (d : Pd) (n : Nat) (rest : List (List Addr)), vs = [.ref b, .ref dk, .ref st] ∧ Wd K H b l st dk fs fd (some d) (some d) rest ∧ Good n (some d) ∧ n < 59 ∧
  ∀ fs' fd' d' H', Run K H ([b] ++ (st :: fs) ++ (dk :: fd)) H' b l st dk fs' fd' (some d') (some d') rest → Good (n + 1) (some d') → Q (.bl true) H'
theorem ok__law_full (T : Txt K mg w) (U : TxtX P K mg) (M : TxtM K) (N : TxtE K mg) {f : Addr} {fd : FuncData} (F : DefAt K "_law_full" "_law_full" s__law_full f fd) : FnOk P w K mg base CX0 15 f fd ["_law_bag_here", "_law_desk", "_law_state"] (sp__law_full K) := by
  refine ok0 F sc__law_full (fun vs H Q E h => ?_) (fun cdv A outer s H vs Q E hr h => ?_)
  · walk_at "len"
  · obtain ⟨b, l, st, dk, fs, fd, d, n, rest, rfl, hW, hG, hn, kq⟩ := h
    generalize hG0 : [b] ++ (st :: fs) ++ (dk :: fd) = G0 at kq
    have hR : Run K H G0 H b l st dk fs fd (some d) (some d) rest := hG0 ▸ hW.run
    obtain ⟨l1, l2, l3, as1, as2, rfl, hnd, h1, h2, h3, h4, h5, h6⟩ := id hW.s
    obtain ⟨O, O2, _⟩ := hG d rfl
    have hld := O.ld
    have hl3 := h3.len
    refine ⟨_, (pss_cons (ps_for PassesOwn.never rfl (pi_range1 rfl T.b_range (pa_cons (pe_op op_sub pe_int (pe_callB cr_len (by rfl) T.b_len PySem.boot_len (pa_cons (pe_ix ix_list (pv 2) pe_int (fun _ _ => rfl)) pa_nil))) pa_nil)) (pg_name (i := 3) sc__law_full.nd rfl (Or.inl rfl))
  (pss_cons (ps_set (i := 4) sc__law_full.nd rfl (Or.inl rfl) (pe_cal (cal__law_call T) hr px0 (pa_cons (pv 0) (pa_cons (pe_ix ix_list (pv 2) pe_int (fun _ _ => rfl)) (pa_cons (pe_lst (pa_cons pe_str (pa_cons pe_str (pa_cons pe_str (pa_cons pe_str (pa_cons pe_str pa_nil)))))) (pa_cons pe_int pa_nil))))))
  (pss_one (ps_if (pt_cmpR op_ne (pe_cal (cal__law_told_line T U M N) hr px0 (pa_cons (pv 1) (pa_cons (pe_cal (cal__law_call_text T) hr px0 (pa_cons (pv 4) pa_nil)) pa_nil))) (pe_cal (cal__law_called T) hr px0 (pa_cons (pv 2) (pa_cons (pv 4) pa_nil))) (nomark _)) (pss_one (ps_ret pe_bl)) pss_nil))))
  (pss_cons (ps_if (pt_cmpR op_ne (pe_cal (cal__law_told_line T U M N) hr px0 (pa_cons (pv 1) (pa_cons pe_str pa_nil))) (pe_cal (cal__law_undone T) hr px0 (pa_cons (pv 2) (pa_cons pe_int pa_nil))) (nomark _)) (pss_one (ps_ret pe_bl)) pss_nil)
  (pss_cons (ps_if (PW.pt (pw_or (pt_cmpR op_ne (pe_cal (cal__law_told_line T U M N) hr px0 (pa_cons (pv 1) (pa_cons pe_str pa_nil))) (pe_cal (cal__law_undone T) hr px0 (pa_cons (pv 2) (pa_cons pe_int pa_nil))) (nomark _)) (pw_or1 (pt_cmpR op_ne (pe_cal (cal__law_told_line T U M N) hr px0 (pa_cons (pv 1) (pa_cons pe_str pa_nil))) pe_str (nomark _))))) (pss_one (ps_ret pe_bl)) pss_nil)
  (pss_one (ps_ret (pe_cmpR op_eq (pe_cal (cal__law_told_line T U M N) hr px0 (pa_cons (pv 1) (pa_cons pe_str pa_nil))) (pe_cal (cal__law_desk_said T) hr px0 (pa_cons (pv 2) (pa_cons pe_str (pa_cons pe_int pa_nil)))) (nomark _))))))), ?_⟩
    walk_at "go"
    refine ⟨202 - ((as1.map V.ref).length : Nat), rfl, by rw [List.length_map]; omega, by rw [List.length_map]; omega, ?_⟩
    rw [List.length_map, hl3]
    refine fr_R (fun i σ H' => ∃ (fs' fd' : List Addr) (d' : Pd) (o3 o4 : Option V), σ = [some (.ref b), some (.ref dk), some (.ref st), o3, o4] ∧ Run K H G0 H' b l st dk fs' fd' (some d') (some d') rest ∧ Good n (some d') ∧ d'.done.length = min (d.done.length + i) 200) ?_ ?_ ?_
    · exact ⟨_, _, d, _, _, rfl, hR, hG, by omega⟩
    · rintro i σ H' hi ⟨fs', fd', d', o3, o4, rfl, R, G, hdl⟩
      obtain ⟨m1, m2, m3, bs1, bs2, rfl, hnd', k1, _⟩ := id R.w.s
      obtain ⟨O', _⟩ := G d' rfl
      walk_at "go"
      have R2 := R.ex e
      have hpb : p ≠ b := by
        obtain ⟨ob, hob⟩ := R.w.bag.at
        exact (ne_of_none hob hp).symm
      refine u__law_call (ks := ["all", "up", "swap", "about", "halve"]) (mo := 4) R2.w.bag O'.fr g hpb (by decide) (by decide) (by decide +kernel) (by omega) (by decide +kernel) fun c aC H3 hc1 hc2 hc3 x3 hB3 hc => ?_
      have R3 := R2.bagE x3 hB3
      have hc33 := ok_up hc1 (by have := O'.fr; omega)
      clear R2 e g hp
      walk_at "go"
      refine u__law_call_text hc hc2 fun H4 e4 => ?_
      have R4 := R3.ex e4
      have hc4 := e4 _ _ hc
      clear R3
      walk_at "go"
      refine u_told R4.w.d G.o (by have := callText_len hc2; omega) (parse_call (isCall_ok.mpr hc33) hc2) (fun n z => nomatch z) fun fd2 H5 x5 n5 hD5 => ?_
      have R5 := R4.deskE x5 n5 hD5
      walk_at "go"
      refine u__law_called (x5.tup _ _ hc4) hc33 R5.w.s G.ok fun fs2 H6 x6 n6 hS6 => ?_
      have R6 := R5.stateE x6 n6 hS6
      walk_at "go"
      obtain ⟨d2, hd2, G2, hl2⟩ := exec_call_len G hc1 hc2 (by omega)
      rw [hd2] at R6
      exact ⟨_, _, d2, _, _, rfl, R6, G2, by omega⟩
    · rintro σ H' ⟨fs', fd', d', o3, o4, rfl, R, G, hdl⟩
      have hlen : d'.done.length = 200 := by omega
      rcases List.eq_nil_or_concat d'.done with hz | ⟨cs, c, hz⟩
      · rw [hz] at hlen
        cases hlen
      rw [List.concat_eq_append] at hz
      have hx1 : exec (some d') (.alone "back") = (callText c, some { d' with done := cs, undone := d'.undone ++ [c] }) := exec_some (by rw [ans_alone, aloneA_back hz]; rfl)
      have G2 : Good n (some { d' with done := cs, undone := d'.undone ++ [c] }) := fun d0 e0 => by cases e0; exact aloneA_good (G d' rfl) (aloneA_back hz)
      have hx2 : exec (some { d' with done := cs, undone := d'.undone ++ [c] }) (.alone "again") = (callText c, some d') := exec_some (by
        rw [ans_alone, aloneA_again (d := { d' with done := cs, undone := d'.undone ++ [c] }) rfl, ← hz]
        rfl)
      have hx3 : exec (some d') (.call .about) = (("refused" : Str), some d') := exec_none (by rw [ans_call, if_neg fun z => by have := z.2; omega])
      walk_at "go"
      refine u_told R.w.d G.o (by decide) (parse_alone (z := "back") (by decide +kernel)) (fun n z => nomatch z) fun fd2 H5 x5 n5 hD5 => ?_
      have R5 := R.deskE x5 n5 hD5
      walk_at "go"
      refine u__law_undone (.inl rfl) R5.w.s G.o fun fs2 H6 x6 n6 hS6 => ?_
      have R6 := R5.stateE x6 n6 hS6
      rw [show Cmd.alone (backW 0) = Cmd.alone "back" from rfl, hx1] at R6
      rw [show Cmd.alone (backW 0) = Cmd.alone "back" from rfl, hx1]
      clear R5 x5 x6 n5 n6 hD5 hS6
      walk_at "go"
      refine u_told R6.w.d G2.o (by decide) (parse_alone (z := "again") (by decide +kernel)) (fun n z => nomatch z) fun fd3 H7 x7 n7 hD7 => ?_
      have R7 := R6.deskE x7 n7 hD7
      walk_at "go"
      refine u__law_undone (.inr rfl) R7.w.s G2.o fun fs3 H8 x8 n8 hS8 => ?_
      have R8 := R7.stateE x8 n8 hS8
      rw [show Cmd.alone (backW 1) = Cmd.alone "again" from rfl, hx2] at R8
      rw [show Cmd.alone (backW 1) = Cmd.alone "again" from rfl, hx2]
      clear R7 x7 x8 n7 n8 hD7 hS8
      walk_at "go"
      refine u_told (z := callText .about) R8.w.d G.o (by decide) (parse_call (c := .about) (by decide) (fun _ z => nomatch z)) (fun n z => nomatch z) fun fd4 H9 x9 n9 hD9 => ?_
      have R9 := R8.deskE x9 n9 hD9
      rw [hx3] at R9
      rw [hx3]
      clear x9 n9 hD9
      walk_at "go"
      refine u_told R9.w.d G.o (by decide) row0 (fun n z => by injection z with z1; exact absurd z1 (by decide)) fun fd5 H10 x10 n10 hD10 => ?_
      have R10 := R9.deskE x10 n10 hD10
      rw [exec_ask1 (.inr (.inr rfl))] at R10
      clear x10 n10 hD10
      walk_at "go"
      refine u__law_desk_said (by simp) R10.w.s G.o fun H11 e11 => ?_
      rw [show askC "row" 0 = .one "row" 0 from rfl]
      walk_at "go"
      rw [decide_eq_true rfl]
      exact kq _ _ d' H11 (R10.ex e11) (G.mono (by omega))
theorem cal__law_full (T : Txt K mg w) (U : TxtX P K mg) (M : TxtM K) (N : TxtE K mg) : Cal P w K mg base CX0 15 "_law_full" (sp__law_full K) := calOf T.g__law_full T.d__law_full (fun _ F => ok__law_full T U M N F) (fun _ _ _ _ _ _ us hl => match us, hl with | [_, _, _], _ => rfl)
end
end Pp
-- PpTw
set_option maxRecDepth 100000
set_option maxHeartbeats 4000000
/-! Two desks, two states. -/
namespace Pp
open PySem PySem.Spec PyProof.Rows L2 Evl
structure Two (K : PySem.W.Frag) (H : Hp) (b l st dk st1 dk1 aD aS : Addr) (xD xS : List V) (fs fd fs1 fd1 : List Addr) (os od o1 : Option Pd) : Prop where
  w : Wd K H b l st dk fs fd os od [st1 :: fs1, dk1 :: fd1, [aD, aS]]
  s1 : StateAt K H st1 fs1 o1
  d1 : DeskAt K H dk1 fd1 o1
  hD : H aD = some (.lst xD)
  hS : H aS = some (.lst xS)
section
variable {K : PySem.W.Frag} {H H' : Hp} {b l st dk st1 dk1 aD aS : Addr} {xD xS : List V} {fs fd fs1 fd1 fs' fd' : List Addr} {os od o1 os' od' o : Option Pd} {rest : List (List Addr)} {g : List Addr}
theorem Wd.rb (w : Wd K H b l st dk fs fd os od rest) (hg : g ∈ rest) : Apart g [b, l] := w.sep.out (by simp [hg])
theorem Wd.rs (w : Wd K H b l st dk fs fd os od rest) (hg : g ∈ rest) : Apart g (st :: fs) := w.sep.swap.out (by simp [hg])
theorem Wd.rd (w : Wd K H b l st dk fs fd os od rest) (hg : g ∈ rest) : Apart g (dk :: fd) :=
  (w.sep.perm ((List.Perm.cons _ (List.Perm.swap ..)).trans (List.Perm.swap ..)) : Sep H ((dk :: fd) :: [b, l] :: (st :: fs) :: rest)).out (by simp [hg])
/-- what others keep -/
theorem Two.rst {G : List Addr} (t : Two K H b l st dk st1 dk1 aD aS xD xS fs fd fs1 fd1 os od o1) (e : Ext G H H') (h : ∀ g ∈ [st1 :: fs1, dk1 :: fd1, [aD, aS]], ∀ a ∈ g, a ∉ G) (w : Wd K H' b l st dk fs' fd' os' od' [st1 :: fs1, dk1 :: fd1, [aD, aS]]) :
    Two K H' b l st dk st1 dk1 aD aS xD xS fs' fd' fs1 fd1 os' od' o1 :=
  ⟨w, t.s1.ext e (h _ (by simp)), t.d1.ext e (h _ (by simp)), e.keep _ _ t.hD (h [aD, aS] (by simp) aD (by simp)), e.keep _ _ t.hS (h [aD, aS] (by simp) aS (by simp))⟩
theorem Two.ex (t : Two K H b l st dk st1 dk1 aD aS xD xS fs fd fs1 fd1 os od o1) (e : Ex H H') : Two K H' b l st dk st1 dk1 aD aS xD xS fs fd fs1 fd1 os od o1 :=
  t.rst (exExt (G := []) e) (fun _ _ _ _ z => nomatch z) (t.w.ex e)
theorem Two.bagE (t : Two K H b l st dk st1 dk1 aD aS xD xS fs fd fs1 fd1 os od o1) (e : Ext [b] H H') (hB : BagAt H' b l) : Two K H' b l st dk st1 dk1 aD aS xD xS fs fd fs1 fd1 os od o1 :=
  t.rst e (fun g hg => bag_apart (t.w.rb hg)) (t.w.bagE e hB)
theorem Two.deskE (t : Two K H b l st dk st1 dk1 aD aS xD xS fs fd fs1 fd1 os od o1) (e : Ext (dk :: fd) H H') (n : ∀ a ∈ fd', a ∈ fd ∨ H a = none) (h : DeskAt K H' dk fd' od') : Two K H' b l st dk st1 dk1 aD aS xD xS fs fd' fs1 fd1 os od' o1 :=
  t.rst e (fun g hg => t.w.rd hg) (t.w.deskE e n h)
theorem Wd.lineE (w : Wd K H b l st dk fs fd os od rest) (e : Ext (b :: st :: fs) H H') (n : ∀ a ∈ fs', a ∈ fs ∨ H a = none) (hB : BagAt H' b l) (h : StateAt K H' st fs' os') : Wd K H' b l st dk fs' fd os' od rest :=
  ⟨((w.sep.swap.upd e (fun a ha => by
    rcases List.mem_cons.mp ha with rfl | ha
    · exact .inl (by simp)
    · exact (n a ha).imp_left (List.mem_cons_of_mem _)) h.live)).swap, hB, h, w.d.ext e fun a ha z => by
      rcases List.mem_cons.mp z with z | z
      · exact w.bd a ha (by rw [z]; simp)
      · exact w.sd a ha z⟩
theorem Two.lineE (t : Two K H b l st dk st1 dk1 aD aS xD xS fs fd fs1 fd1 os od o1) (e : Ext (b :: st :: fs) H H') (n : ∀ a ∈ fs', a ∈ fs ∨ H a = none) (hB : BagAt H' b l) (h : StateAt K H' st fs' os') : Two K H' b l st dk st1 dk1 aD aS xD xS fs' fd fs1 fd1 os' od o1 :=
  t.rst e (fun g hg a ha z => by
    rcases List.mem_cons.mp z with z | z
    · exact t.w.rb hg a ha (by rw [z]; simp)
    · exact t.w.rs hg a ha z) (t.w.lineE e n hB h)
theorem Two.runE (t : Two K H b l st dk st1 dk1 aD aS xD xS fs fd fs1 fd1 os od o1) (r : Run K H ([b] ++ (st :: fs) ++ (dk :: fd)) H' b l st dk fs' fd' os' od' [st1 :: fs1, dk1 :: fd1, [aD, aS]]) : Two K H' b l st dk st1 dk1 aD aS xD xS fs' fd' fs1 fd1 os' od' o1 :=
  t.rst r.e (fun g hg a ha z => by
    rcases List.mem_append.mp z with z | z
    · rcases List.mem_append.mp z with z | z
      · exact bag_apart (t.w.rb hg) a ha z
      · exact t.w.rs hg a ha z
    · exact t.w.rd hg a ha z) r.w
theorem Two.swap (t : Two K H b l st dk st1 dk1 aD aS xD xS fs fd fs1 fd1 o o o1) : Two K H b l st1 dk1 st dk aD aS xD xS fs1 fd1 fs fd o1 o1 o :=
  ⟨⟨t.w.sep.perm (by
    refine List.Perm.cons _ ?_
    exact (List.perm_append_comm (l₁ := [st :: fs, dk :: fd]) (l₂ := [st1 :: fs1, dk1 :: fd1])).append_right [[aD, aS]]), t.w.bag, t.s1, t.d1⟩, t.w.s, t.w.d, t.hD, t.hS⟩
end
/-- the world of the law's run -/
def Duo (K : PySem.W.Frag) (H : Hp) (b l st0 dk0 st1 dk1 aD aS : Addr) (n : Nat) : Prop := ∃ fs0 fd0 fs1 fd1 o0 o1, Two K H b l st0 dk0 st1 dk1 aD aS [.ref dk0, .ref dk1] [.ref st0, .ref st1] fs0 fd0 fs1 fd1 o0 o0 o1 ∧ Good n o0 ∧ Good n o1
section
variable {K : PySem.W.Frag} {H H' : Hp} {b l st0 dk0 st1 dk1 aD aS : Addr} {n : Nat}
theorem Duo.bag (h : Duo K H b l st0 dk0 st1 dk1 aD aS n) : BagAt H b l := by
  obtain ⟨fs0, fd0, fs1, fd1, o0, o1, t, _⟩ := h
  exact t.w.bag
theorem Duo.bagE (h : Duo K H b l st0 dk0 st1 dk1 aD aS n) (e : Ext [b] H H') (hB : BagAt H' b l) : Duo K H' b l st0 dk0 st1 dk1 aD aS n := by
  obtain ⟨fs0, fd0, fs1, fd1, o0, o1, t, g0, g1⟩ := h
  exact ⟨fs0, fd0, fs1, fd1, o0, o1, t.bagE e hB, g0, g1⟩
theorem Duo.ex (h : Duo K H b l st0 dk0 st1 dk1 aD aS n) (e : Ex H H') : Duo K H' b l st0 dk0 st1 dk1 aD aS n := by
  obtain ⟨fs0, fd0, fs1, fd1, o0, o1, t, g0, g1⟩ := h
  exact ⟨fs0, fd0, fs1, fd1, o0, o1, t.ex e, g0, g1⟩
theorem Duo.mono {m : Nat} (h : Duo K H b l st0 dk0 st1 dk1 aD aS n) (k : n ≤ m) : Duo K H b l st0 dk0 st1 dk1 aD aS m := by
  obtain ⟨fs0, fd0, fs1, fd1, o0, o1, t, g0, g1⟩ := h
  exact ⟨fs0, fd0, fs1, fd1, o0, o1, t, g0.mono k, g1.mono k⟩
theorem Duo.pick (h : Duo K H b l st0 dk0 st1 dk1 aD aS n) {i : Int} (hi : i = 0 ∨ i = 1) : ∃ stA dkA stB dkB fs fd fs1 fd1 o o1, H aD = some (.lst [.ref dk0, .ref dk1]) ∧ H aS = some (.lst [.ref st0, .ref st1]) ∧ atI [V.ref dk0, V.ref dk1] i = some (.ref dkA) ∧ atI [V.ref st0, V.ref st1] i = some (.ref stA) ∧
    Two K H b l stA dkA stB dkB aD aS [.ref dk0, .ref dk1] [.ref st0, .ref st1] fs fd fs1 fd1 o o o1 ∧ Good n o ∧ Good n o1 ∧
    ∀ H' m fs' fd' fs1' fd1' o' o1', Two K H' b l stA dkA stB dkB aD aS [.ref dk0, .ref dk1] [.ref st0, .ref st1] fs' fd' fs1' fd1' o' o' o1' → Good m o' → Good m o1' → Duo K H' b l st0 dk0 st1 dk1 aD aS m := by
  obtain ⟨fs0, fd0, fs1, fd1, o0, o1, t, g0, g1⟩ := h
  rcases hi with rfl | rfl
  · exact ⟨st0, dk0, st1, dk1, fs0, fd0, fs1, fd1, o0, o1, t.hD, t.hS, rfl, rfl, t, g0, g1, fun H' m fs' fd' fs1' fd1' o' o1' t' g g' => ⟨_, _, _, _, _, _, t', g, g'⟩⟩
  · exact ⟨st1, dk1, st0, dk0, fs1, fd1, fs0, fd0, o1, o0, t.hD, t.hS, rfl, rfl, t.swap, g1, g0, fun H' m fs' fd' fs1' fd1' o' o1' t' g g' => ⟨_, _, _, _, _, _, t'.swap, g', g⟩⟩
end
end Pp
namespace Pp
open PySem PySem.Spec PyProof.Rows L2 Evl
/-- addresses that are alive, no two the same -/
structure Liv (H : Hp) (L : List Addr) : Prop where
  nd : L.Nodup
  lv : ∀ a ∈ L, H a ≠ none
theorem Liv.add {H H' : Hp} {L : List Addr} {p : Addr} (h : Liv H L) (hp : H p = none) (e : Ex H H') (hp' : H' p ≠ none) : Liv H' (p :: L) :=
  ⟨List.nodup_cons.mpr ⟨fun z => h.lv p z hp, h.nd⟩, fun a ha => by
    rcases List.mem_cons.mp ha with rfl | ha
    · exact hp'
    · exact fun z => h.lv a ha (fresh_back e z)⟩
theorem Liv.sep {H : Hp} {b l s0 x0 s1 x1 aD p : Addr} (h : Liv H [p, s1, s0, aD, x1, x0, b, l]) : Sep H [[b, l], [s0], [x0], [s1], [x1], [aD, p]] := by
  refine ⟨fun g hg a ha => h.lv a ?_, ?_⟩
  · simp only [List.mem_cons, List.not_mem_nil, or_false] at hg
    rcases hg with rfl | rfl | rfl | rfl | rfl | rfl <;> simp at ha <;> simp [ha] <;> (rcases ha with rfl | rfl <;> simp)
  · have nd := h.nd
    simp only [List.nodup_cons, List.mem_cons, List.not_mem_nil, or_false, not_or] at nd
    simp only [List.pairwise_cons, List.Pairwise.nil, and_true, List.mem_cons, List.not_mem_nil, or_false, Apart]
    grind
end Pp
namespace Pp
open PySem PySem.Spec PyProof.Rows L2 Evl
/-- a question to one of the desks, and the law's own answer -/
theorem Duo.ask {K : PySem.W.Frag} {H : Hp} {b l st0 dk0 st1 dk1 aD aS : Addr} {n : Nat} (W : Duo K H b l st0 dk0 st1 dk1 aD aS n) {i : Int} (hi : i = 0 ∨ i = 1) {wd : Str} (hw : wd = "away" ∨ wd = "script" ∨ wd = "home") :
    ∃ dA sA z, H aD = some (.lst [.ref dk0, .ref dk1]) ∧ atI [V.ref dk0, V.ref dk1] i = some (.ref dA) ∧ atI [V.ref st0, V.ref st1] i = some (.ref sA) ∧
    ∀ (Q : VK) (E : XK), (∀ H', Duo K H' b l st0 dk0 st1 dk1 aD aS n → (∀ a xs, H a = some (.tup xs) → H' a = some (.tup xs)) → H' aS = some (.lst [.ref st0, .ref st1]) →
      (∀ (Q2 : VK) (E2 : XK), (∀ H'', Duo K H'' b l st0 dk0 st1 dk1 aD aS n → (∀ a xs, H a = some (.tup xs) → H'' a = some (.tup xs)) → Q2 (.str z) H'') → sp__law_desk_said K [.ref sA, .str wd, .int 0] H' Q2 E2) → Q (.str z) H') → sp__law_told_line K [.ref dA, .str wd] H Q E := by
  obtain ⟨sA, dA, sB, dB, fs, fd, fs1, fd1, o, o1, kD, kS, kd, ks, t, g0, g1, back⟩ := W.pick hi
  refine ⟨dA, sA, (exec o (.alone wd)).1, kD, kd, ks, fun Q E k => ?_⟩
  have hal : wd ∈ aloneL := by rcases hw with rfl | rfl | rfl <;> decide +kernel
  have hwl : wd.length ≤ 40000 := by rcases hw with rfl | rfl | rfl <;> decide +kernel
  refine u_told t.w.d g0.o hwl (parse_alone hal) (fun n z => nomatch z) fun fd' H5 x5 n5 hD5 => ?_
  have t5 := t.deskE x5 n5 hD5
  rw [exec_ask hw] at t5
  refine k H5 (back _ _ _ _ _ _ _ _ t5 g0 g1) x5.tup t5.hS fun Q2 E2 k2 => ?_
  refine u__law_desk_said (by rcases hw with rfl | rfl | rfl <;> simp) t5.w.s g0.o fun H6 e6 => ?_
  rw [show askC wd 0 = .alone wd from if_pos hw]
  exact k2 H6 (back _ _ _ _ _ _ _ _ (t5.ex e6) g0 g1) fun a xs h => e6 _ _ (x5.tup a xs h)
end Pp
-- PpLl
set_option maxRecDepth 100000
set_option maxHeartbeats 4000000
namespace Pp
open PySem PySem.Spec PyProof.Rows L2 Evl
section
variable {P : Program} {w : World} {K : PySem.W.Frag} {mg : Str → Option Value} {base : Heap} {H : Hp} {Q : VK} {E : XK}
theorem i_neSt {st b : Addr} {fp : List Addr} {o : Option Pd} (h : StateAt K H st fp o) (h' : H b = some (.lst [])) (k : Q (.bl (!o.isNone)) H) : rNeD K (.ref st) (.ref b) H Q := by
  cases o with
  | none => exact i_neE (n := 5) h.2 .nil (Sh.mono (Sh.list (n := 0) fun _ z => nomatch z) (by decide)) (by decide) h' k
  | some d =>
    obtain ⟨l1, l2, l3, as1, as2, rfl, nd, h1, h2, h3, h4, h5, h6⟩ := h
    refine i_neE (n := 5) h1 (.cons (.int _) (.cons (.int _) (.cons (.lst (SqL.of h2) (dpCalls h3)) (.cons (.lst (SqL.of h4) (dpCalls h5)) (.cons (.lst (SqL.of h6) dpInts) .nil))))) (Sh.list fun d hd => ?_) (by decide) h' k
    simp only [List.mem_cons, List.not_mem_nil, or_false] at hd
    rcases hd with rfl | rfl | rfl | rfl | rfl
    · exact sh_int
    · exact sh_int
    · exact (shCalls _).mono (by decide)
    · exact (shCalls _).mono (by decide)
    · exact Sh.mono (Sh.list (n := 1) fun d hd => by
        obtain ⟨i, _, rfl⟩ := List.mem_map.mp hd
        exact sh_int) (by decide)
abbrev s_law : Stmt := top 90
abbrev N_law : List Str := ["_law_script", "_law_bag_here", "_law_desks", "_law_states", "_law_k", "_law_at", "_law_line_here", "_law_due", "_law_spot", "_law_word"]
theorem sc_law : FnScope N_law ["_law_script"] (defScope s_law) := ⟨rfl, rfl, rfl, by decide +kernel, rfl, by decide +kernel, by decide +kernel⟩
def sp_law (K : PySem.W.Frag) : Sp := fun vs H Q _ => ∃ (a : Addr) (ns : List Int), vs = [.ref a] ∧ SqL K H a (ns.map V.int) ∧ ns.length ≤ 63 ∧ ∀ H', Q (.bl true) H'
theorem ok_law (T : Txt K mg w) (U : TxtX P K mg) (M : TxtM K) (N : TxtE K mg) {f : Addr} {fd : FuncData} (F : DefAt K "law" "law" s_law f fd) : FnOk P w K mg base CX0 16 f fd ["_law_script"] (sp_law K) := by
  refine ok0 F sc_law (fun vs H Q E h => ?_) (fun cdv A outer s H vs Q E hr h => ?_)
  · walk_at "len"
  · obtain ⟨a, ns, rfl, ha, hn, kq⟩ := h
    refine ⟨_, (pss_cons (ps_set (i := 1) sc_law.nd rfl (Or.inl rfl) (pe_cal (cal__law_bag T) hr px0 (pa_cons (pv 0) pa_nil)))
  (pss_cons (ps_par (i := 2) (j := 3) (by rfl) sc_law.nd rfl rfl (by decide) rfl rfl (pa_cons (pe_lst (pa_cons (pe_mak0 (mak_Desk T) hr pass0) (pa_cons (pe_mak0 (mak_Desk T) hr pass0) pa_nil))) (pa_cons (pe_lst (pa_cons (pe_lst pa_nil) (pa_cons (pe_lst pa_nil) pa_nil))) pa_nil)) (by rfl))
  (pss_cons (ps_for PassesOwn.never rfl (pi_range1 rfl T.b_range (pa_cons (pe_op op_add pe_int (pe_cal (cal__law_take T) hr px0 (pa_cons (pv 1) (pa_cons pe_int pa_nil)))) pa_nil)) (pg_name (i := 4) sc_law.nd rfl (Or.inl rfl))
  (pss_cons (ps_set (i := 5) sc_law.nd rfl (Or.inl rfl) (pe_callTy cr_int (by rfl) T.b_int (by decide +kernel) (pa_cons (pe_cmpR op_eq (pe_cal (cal__law_take T) hr px0 (pa_cons (pv 1) (pa_cons pe_int pa_nil))) pe_int (nomark _)) pa_nil)))
  (pss_cons (ps_asg (pe_cal (cal__law_line T) hr px0 (pa_cons (pv 1) (pa_cons (pe_ix ix_list (pv 3) (pv 5) (fun _ _ => rfl)) pa_nil))) (pg_tup (by rfl) (pgs_cons (pg_name (i := 6) sc_law.nd rfl (Or.inl rfl)) (pgs_cons (pg_name (i := 7) sc_law.nd rfl (Or.inl rfl)) pgs_nil))))
  (pss_cons (ps_if (pt_not (pt_val (pe_cal (cal__law_alike T) hr px0 (pa_cons (pe_cal (cal__law_told_line T U M N) hr px0 (pa_cons (pe_ix ix_list (pv 2) (pv 5) (fun _ _ => rfl)) (pa_cons (pv 6) pa_nil))) (pa_cons (pv 7) pa_nil))))) (pss_one (ps_ret pe_bl)) pss_nil)
  (pss_one (ps_for PassesOwn.never rfl (pi_range1 rfl T.b_range (pa_cons pe_int pa_nil)) (pg_name (i := 8) sc_law.nd rfl (Or.inl rfl))
  (pss_one (ps_for PassesOwn.never rfl (pi_tup (pe_tup (pa_cons pe_str (pa_cons pe_str pa_nil)))) (pg_name (i := 9) sc_law.nd rfl (Or.inl rfl))
  (pss_one (ps_if (pt_cmpR op_ne (pe_cal (cal__law_told_line T U M N) hr px0 (pa_cons (pe_ix ix_list (pv 2) (pv 8) (fun _ _ => rfl)) (pa_cons (pv 9) pa_nil))) (pe_cal (cal__law_desk_said T) hr px0 (pa_cons (pe_ix ix_list (pv 3) (pv 8) (fun _ _ => rfl)) (pa_cons (pv 9) (pa_cons pe_int pa_nil)))) (nomark _)) (pss_one (ps_ret pe_bl)) pss_nil))))))))))
  (pss_cons (ps_if (PW.pt (pw_and (pt_cmpR (op_neD hr.units) (pe_ix ix_list (pv 3) pe_int (fun _ _ => rfl)) (pe_lst pa_nil) (nomark _)) (pw_and (pt_cmpR op_eq (pe_cal (cal__law_take T) hr px0 (pa_cons (pv 1) (pa_cons pe_int pa_nil))) pe_int (nomark _)) (pw_and1 (pt_not (pt_val (pe_cal (cal__law_full T U M N) hr px0 (pa_cons (pv 1) (pa_cons (pe_ix ix_list (pv 2) pe_int (fun _ _ => rfl)) (pa_cons (pe_ix ix_list (pv 3) pe_int (fun _ _ => rfl)) pa_nil)))))))))) (pss_one (ps_ret pe_bl)) pss_nil)
  (pss_cons (ps_for PassesOwn.never rfl (pi_range1 rfl T.b_range (pa_cons pe_int pa_nil)) (pg_name (i := 8) sc_law.nd rfl (Or.inl rfl))
  (pss_one (ps_if (pt_cmpR op_ne (pe_cal (cal__law_told_line T U M N) hr px0 (pa_cons (pe_ix ix_list (pv 2) (pv 8) (fun _ _ => rfl)) (pa_cons pe_str pa_nil))) (pe_cal (cal__law_desk_said T) hr px0 (pa_cons (pe_ix ix_list (pv 3) (pv 8) (fun _ _ => rfl)) (pa_cons pe_str (pa_cons pe_int pa_nil)))) (nomark _)) (pss_one (ps_ret pe_bl)) pss_nil)))
  (pss_one (ps_ret pe_bl))))))), ?_⟩
    walk_at "go"
    refine ⟨a, ns, rfl, ha, hn, fun b l H1 e1 hB1 fb fl => ?_⟩
    walk_at "go"
    intro x0 dx0 hx0 hdx0 hne0
    generalize hU0 : upd (upd _ _ _) _ _ = H2
    have e2 := mk_e hx0 hdx0 hne0 hU0
    refine ⟨x0, dx0, rfl, al_g hU0, fun H3 x3 hD3 => ⟨rfl, ?_⟩⟩
    have e3 : Ex H1 H3 := mut_fresh e2 x3 hx0
    have L0 : H3 x0 ≠ none := hD3.live x0 (by simp)
    clear hU0 e2 x3 hdx0 hne0
    walk_at "go"
    intro x1 dx1 hx1 hdx1 hne1
    generalize hU1 : upd (upd _ _ _) _ _ = H4
    have e4 := mk_e hx1 hdx1 hne1 hU1
    refine ⟨x1, dx1, rfl, al_g hU1, fun H5 x5 hD5 => ⟨rfl, ?_⟩⟩
    have e5 : Ex H3 H5 := mut_fresh e4 x5 hx1
    clear hU1 e4 x5 hdx1 hne1
    walk_at "go"
    rename_i aD haD JD eD gD s0 hs0 J0 e0 g0 s1 hs1 J1 e1' g1
    have W0 : Duo K H2 b l s0 x0 s1 x1 aD p 0 := by
      obtain ⟨⟨bm, bx, bn, bc, k1, k2, _⟩, bne⟩ := id hB1
      have A1 : Liv H1 [b, l] := ⟨by simp [bne], fun a ha => by
        simp only [List.mem_cons, List.not_mem_nil, or_false] at ha
        rcases ha with rfl | rfl
        · rw [k1]; simp
        · rw [k2]; simp⟩
      have A2 := (A1.add hx0 e3 L0).add hx1 e5 (hD5.live x1 (by simp))
      have A3 := ((A2.add haD eD (by rw [gD]; simp)).add hs0 e0 (by rw [g0]; simp)).add hs1 e1' (by rw [g1]; simp)
      have A4 := A3.add hp e (by rw [g]; simp)
      have E2 : Ex H5 H2 := ((eD.trans e0).trans e1').trans e
      exact ⟨[], [], [], [], none, none, ⟨⟨A4.sep, hB1.e ((e3.trans e5).trans E2), ⟨rfl, e _ _ (e1' _ _ g0)⟩, hD3.ex (e5.trans E2)⟩, ⟨rfl, e _ _ g1⟩, hD5.ex E2, e _ _ (e1' _ _ (e0 _ _ gD)), g⟩, good_none _, good_none _⟩
    clear hB1 e1 fb fl hx0 hD3 e3 L0 hx1 hD5 e5 haD eD gD hs0 e0 g0 hs1 e1' g1 hp e g
    revert W0
    generalize p = aS
    intro W0
    refine u__law_take W0.bag (by omega) (by omega) fun r H6 hr0 hr1 x6 hB6 => ?_
    have W6 := W0.bagE x6 hB6
    clear W0 x6 hB6
    walk_at "go"
    refine ⟨10 + r, rfl, by omega, by omega, ?_⟩
    refine fr_R (fun i σ H' => ∃ o4 o5 o6 o7 o8 o9 : Option V, σ = [some (.ref a), some (.ref b), some (.ref aD), some (.ref aS), o4, o5, o6, o7, o8, o9] ∧ Duo K H' b l s0 x0 s1 x1 aD aS i) ?_ ?_ ?_
    · exact ⟨_, _, _, _, _, _, rfl, W6⟩
    · rintro i σ H' hi ⟨o4, o5, o6, o7, o8, o9, rfl, W⟩
      walk_at "go"
      refine u__law_take W.bag (by omega) (by omega) fun q H7 hq0 hq1 x7 hB7 => ?_
      have W7 := W.bagE x7 hB7
      clear W x7 hB7
      walk_at "go"
      have hi01 : (if decide (V.int q = V.int 0) = true then (1 : Int) else 0) = 0 ∨ (if decide (V.int q = V.int 0) = true then (1 : Int) else 0) = 1 := by
        by_cases h : V.int q = V.int 0
        · rw [if_pos (decide_eq_true h)]; exact .inr rfl
        · rw [if_neg (by rw [decide_eq_false h]; exact Bool.false_ne_true)]; exact .inl rfl
      generalize (if decide (V.int q = V.int 0) = true then (1 : Int) else 0) = i' at hi01
      obtain ⟨sA, dA, sB, dB, fs, fd, fs1, fd1, o, o1, kD, kS, kd, ks, t, g0, g1, back⟩ := W7.pick hi01
      refine i_ixL (SqL.of kS) ks ?_
      walk_at "go"
      refine ⟨b, l, sA, fs, o, rfl, t.w.bag, t.w.s, g0.o, t.w.bs.symm, fun pT v due fs' H8 o' x8 n8 hB8 hS8 gT hcase => ?_⟩
      have t8 := t.lineE x8 n8 hB8 hS8
      refine i_gtup (SqT.of gT) rfl ?_
      refine i_gcons (i_name (i_gcons (i_name (i_gnil ?_))))
      refine i_seq ?_
      generalize hR : tFor _ _ _ _ = R
      have key : ∀ H', Duo K H' b l s0 x0 s1 x1 aD aS (i + 1) → R [some (.ref a), some (.ref b), some (.ref aD), some (.ref aS), some (.int (i : Int)), some (.int i'), some v, some due, o8, o9] H' := by
        intro H9 W9
        rw [← hR]
        clear hR t8 hcase gT hS8 hB8 n8 x8 back t kd ks kD kS W7 g0 g1
        walk_at "go"
        refine ⟨2, rfl, by omega, by omega, ?_⟩
        refine fr_R (fun j σ H' => ∃ o8 o9 : Option V, σ = [some (.ref a), some (.ref b), some (.ref aD), some (.ref aS), some (.int (i : Int)), some (.int i'), some v, some due, o8, o9] ∧ Duo K H' b l s0 x0 s1 x1 aD aS (i + 1)) ?_ ?_ ?_
        · exact ⟨_, _, rfl, W9⟩
        · rintro j σ H' hj ⟨o8, o9, rfl, W⟩
          have hj01 : (j : Int) = 0 ∨ (j : Int) = 1 := by
            have : j < (2 : Int).toNat := hj
            omega
          walk_at "go"
          refine fr_T (xs := [.str "script", .str "away"]) (fun k σ H' => ∃ o9 : Option V, σ = [some (.ref a), some (.ref b), some (.ref aD), some (.ref aS), some (.int (i : Int)), some (.int i'), some v, some due, some (.int (j : Int)), o9] ∧ Duo K H' b l s0 x0 s1 x1 aD aS (i + 1) ∧ H' p = some (.tup [.str "script", .str "away"])) ?_ ?_ ?_ ?_
          · exact ⟨_, rfl, W.ex e, g⟩
          · rintro k σ H' _ ⟨o9, _, _, gt⟩
            exact gt
          · rintro k x σ H' hx ⟨o9, rfl, W, gt⟩
            obtain ⟨wd, rfl, hwd⟩ : ∃ wd : Str, x = .str wd ∧ (wd = "away" ∨ wd = "script" ∨ wd = "home") := by
              have hm := List.mem_of_getElem? hx
              simp only [List.mem_cons, List.not_mem_nil, or_false] at hm
              rcases hm with rfl | rfl
              · exact ⟨_, rfl, .inr (.inl rfl)⟩
              · exact ⟨_, rfl, .inl rfl⟩
            obtain ⟨dA, sA, z, kD, kd, ks, k1⟩ := W.ask hj01 hwd
            walk_at "go"
            refine k1 _ _ fun H10 W10 t10 kS k2 => ?_
            walk_at "go"
            refine k2 _ _ fun H11 W11 t11 => ?_
            walk_at "go"
            exact ⟨_, rfl, W11, t11 _ _ gt⟩
          · rintro σ H' ⟨o9, rfl, W, gt⟩
            exact ⟨_, _, rfl, W⟩
        · rintro σ H' ⟨o8, o9, rfl, W⟩
          exact ⟨_, _, _, _, _, _, rfl, W⟩
      clear hR
      walk_at "go"
      refine i_ixL (SqL.of t8.hD) kd ?_
      walk_at "go"
      rcases hcase with ⟨rfl, rfl, hno⟩ | ⟨z, c, rfl, hz, hp, hc, hm, rfl, rfl⟩
      · rcases hno with hns | ⟨z, rfl, hz, hp⟩
        · refine u_told_no t8.w.d g0.o hns fun H9 e9 => ?_
          have t9 := t8.ex e9
          walk_at "go"
          refine ⟨.non, rfl, .inl rfl, fun H10 e10 => ?_⟩
          walk_at "go"
          exact key H10 (back _ _ _ _ _ _ _ _ (t9.ex e10) (g0.mono (by omega)) (g1.mono (by omega)))
        · refine u_told_bad t8.w.d g0.o hz hp fun H9 e9 => ?_
          have t9 := t8.ex e9
          walk_at "go"
          refine ⟨.non, rfl, .inl rfl, fun H10 e10 => ?_⟩
          walk_at "go"
          exact key H10 (back _ _ _ _ _ _ _ _ (t9.ex e10) (g0.mono (by omega)) (g1.mono (by omega)))
      · refine u_told t8.w.d g0.o hz hp hm fun fd' H9 x9 n9 hD9 => ?_
        have t9 := t8.deskE x9 n9 hD9
        walk_at "go"
        refine ⟨.str (exec o c).1, rfl, .inr ⟨_, rfl, (exec_sho g0).repr⟩, fun H10 e10 => ?_⟩
        walk_at "go"
        exact key H10 (back _ _ _ _ _ _ _ _ (t9.ex e10) (exec_good g0 (by omega) hc) (g1.mono (by omega)))
    · rintro σ H' ⟨o4, o5, o6, o7, o8, o9, rfl, W⟩
      have W := W.mono (show (10 + r).toNat ≤ 40 by omega)
      refine i_seq ?_
      generalize hR : tSeq _ _ _ = R
      have key : ∀ H', Duo K H' b l s0 x0 s1 x1 aD aS 41 → R [some (.ref a), some (.ref b), some (.ref aD), some (.ref aS), o4, o5, o6, o7, o8, o9] H' := by
        intro H9 W9
        rw [← hR]
        clear hR W
        walk_at "go"
        refine ⟨2, rfl, by omega, by omega, ?_⟩
        refine fr_R (fun j σ H' => ∃ o8 : Option V, σ = [some (.ref a), some (.ref b), some (.ref aD), some (.ref aS), o4, o5, o6, o7, o8, o9] ∧ Duo K H' b l s0 x0 s1 x1 aD aS 41) ?_ ?_ ?_
        · exact ⟨_, rfl, W9⟩
        · rintro j σ H' hj ⟨o8, rfl, W⟩
          have hj01 : (j : Int) = 0 ∨ (j : Int) = 1 := by
            have : j < (2 : Int).toNat := hj
            omega
          obtain ⟨dA, sA, z, kD, kd, ks, k1⟩ := W.ask hj01 (wd := "home") (by simp)
          walk_at "go"
          refine k1 _ _ fun H10 W10 t10 kS k2 => ?_
          walk_at "go"
          refine k2 _ _ fun H11 W11 t11 => ?_
          walk_at "go"
          exact ⟨_, rfl, W11⟩
        · rintro σ H' ⟨o8, rfl, W⟩
          walk_at "go"
          exact kq _
      clear hR
      obtain ⟨sA, dA, sB, dB, fs, fd, fs1, fd1, o, o1, kD, kS, kd, ks, t, g0, g1, back⟩ := W.pick (i := 0) (.inl rfl)
      obtain rfl : s0 = sA := V.ref.inj (Option.some.inj (atI_zero.symm.trans ks))
      obtain rfl : x0 = dA := V.ref.inj (Option.some.inj (atI_zero.symm.trans kd))
      walk_at "go"
      refine i_neSt (t.w.s.ex e) g ?_
      have t2 := t.ex e
      cases o with
      | none =>
        walk_at "go"
        exact key _ (back _ _ _ _ _ _ _ _ t2 (g0.mono (by omega)) (g1.mono (by omega)))
      | some d =>
        walk_at "go"
        refine u__law_take t2.w.bag (by omega) (by omega) fun q H7 hq0 hq1 x7 hB7 => ?_
        have t7 := t2.bagE x7 hB7
        walk_at "go"
        refine i_dec (fun hq => ?_) (fun hq => ?_)
        · walk_at "go"
          refine i_ixL (SqL.of t7.hD) kd ?_
          walk_at "go"
          refine i_ixL (SqL.of t7.hS) ks ?_
          walk_at "go"
          refine ⟨b, l, s0, x0, fs, fd, d, 40, _, rfl, t7.w, g0, by omega, fun fs' fd' d' H8 R8 G8 => ?_⟩
          have t8 := t7.runE R8
          walk_at "go"
          exact key _ (back _ _ _ _ _ _ _ _ t8 G8 (g1.mono (by omega)))
        · walk_at "go"
          exact key _ (back _ _ _ _ _ _ _ _ t7 (g0.mono (by omega)) (g1.mono (by omega)))
theorem cal_law (T : Txt K mg w) (U : TxtX P K mg) (M : TxtM K) (N : TxtE K mg) : Cal P w K mg base CX0 16 "law" (sp_law K) := calOf T.g_law T.d_law (fun _ F => ok_law T U M N F) (fun _ _ _ _ _ _ us hl => match us, hl with | [_], _ => rfl)
end
end Pp
-- PpHd
set_option maxRecDepth 100000
set_option maxHeartbeats 4000000
/-! The head: what the look tells. -/
namespace Pp
open PySem PySem.Spec PyProof.Rows L2
theorem def_at {K : PySem.W.Frag} {a : Addr} {x q : Str} {st : Stmt} (e : fnAt K a = fnVal x q st []) (c : fnOkB K a q = true) : ∃ fd, DefAt K x q st a fd := by
  obtain ⟨kp, c2⟩ := He.ba c
  unfold fnAt at e
  cases hq : K.lookup a with
  | none => rw [hq] at c2; cases c2
  | some o =>
    obtain ⟨oc, od, dt, osl⟩ := o
    rw [hq] at c2 e
    cases dt with
    | func fd =>
      obtain ⟨n1, n2, n3, n4, n5, n6, n7, n8, n9, n10, n11, n12, n13, n14, n15⟩ := fd
      have e2 : (some (n1, n2, n3, n4, n5, n6, n7.map (·.1), n15) : FnT) = some (x, q, defArgs st, .stmts (defBody st), defScope st, mainGlobals, [], builtinsNs) := e
      simp only [Option.some.injEq, Prod.mk.injEq] at e2
      obtain ⟨h1, h2, h3, h4, h5, h6, h7, h8⟩ := e2
      have h7 : n7 = [] := List.map_eq_nil_iff.mp h7
      subst h1 h2 h3 h4 h5 h6 h7 h8
      have c3 : (PySem.W.codeIn K n13 n2 && (He.dflB K n8 [] && He.kwdB K n9 [])) = true := c2
      obtain ⟨k1, k2⟩ := He.ba c3
      obtain ⟨k3, k4⟩ := He.ba k2
      exact ⟨_, ⟨oc, od, n8, n9, n10, n11, n12, n13, n14, osl, rfl, hq, k1, He.dflB_ok k3, He.kwdB_ok k4⟩, kp⟩
    | _ => cases c2
theorem prop_of {K : PySem.W.Frag} {C m : Str} (h : propB K C m = true) : PropOf K (He.ga K C) m (He.ma K (He.ga K C) m) (getA K C m) := by
  obtain ⟨h1, h⟩ := He.ba h
  obtain ⟨h2, h⟩ := He.ba h
  obtain ⟨h3, h4⟩ := He.ba h
  refine ⟨He.eqO_ok h1, He.eqO_ok h2, of_decide_eq_true h3, ?_⟩
  unfold getA
  cases e : PySem.W.recIn K (He.ma K (He.ga K C) m) "property" with
  | none => rw [e] at h4; cases h4
  | some l =>
    rw [e] at h4
    cases l with
    | nil => cases h4
    | cons v r =>
      cases v with
      | ref g => exact ⟨r, rfl⟩
      | _ => cases h4
theorem cls_of {K : PySem.W.Frag} {C : Addr} (h : clsB K C = true) : ∃ nm qn N bs bm sn sub ab col dd k0 k1 k2 k3 k5, K.lookup C = some (excClassObj nm qn C N bs bm true sn sub ab col dd k0 k1 k2 k3 k5 "ValueError.__new__") ∧ PySem.HandSPX.refsVE bm = true := by
  unfold clsB at h
  split at h
  · rename_i dd cd sl ho
    split at h
    · rename_i C' bm k0 k1 k2 k3 n k5 hm hs
      simp only [Bool.and_eq_true, decide_eq_true_eq, Bool.not_eq_true'] at h
      obtain ⟨rfl, rfl, hdel, hd, hr⟩ := h
      obtain ⟨nm, bs, mro, ns, qn, hd', sn, sub, ab, col, del⟩ := cd
      dsimp only at hm hdel hd hr
      subst hm hdel hd
      have hsl : sl = #[k0, k1, k2, k3, some (.builtin "ValueError.__new__"), k5] := by
        obtain ⟨l⟩ := sl
        simp only at hs
        rw [hs]
      subst hsl
      exact ⟨nm, qn, ns, bs, bm, sn, sub, ab, col, dd, k0, k1, k2, k3, k5, ho, hr⟩
    · cases h
  · cases h
theorem supX_of {K : PySem.W.Frag} {h : Heap} {mg : Str → Option Value} {x fld : Str} {st : Stmt} (X : K.In h) (G : h.Ns mainGlobals mg) (hg : mg x = some (.ref (He.ga K x))) (hs : supB K x fld = true) (hv : fnAt K (He.ma K (He.ga K x) "__init__") = fnVal "__init__" (x ++ ".__init__") st ["__class__"]) (hsu : mg "super" = none)
    (hb : ∃ p0 p1 p2 p3 p4 p5 p6 p7 p8 p9, defBody st = supBody fld p0 p1 p2 p3 p4 p5 p6 p7 p8 p9 ∧ supEv fld p0 p1 p2 p3 p4) : SupX P0 K mg x (He.ga K x) (He.ma K (He.ga K x) "__init__") (x ++ ".__init__") fld st := by
  obtain ⟨c1, hs⟩ := He.ba hs
  obtain ⟨c2, hs⟩ := He.ba hs
  obtain ⟨c3, hs⟩ := He.ba hs
  obtain ⟨c4, hs⟩ := He.ba hs
  obtain ⟨c5, hs⟩ := He.ba hs
  obtain ⟨c6, hs⟩ := He.ba hs
  obtain ⟨c7, hs⟩ := He.ba hs
  obtain ⟨c8, hs⟩ := He.ba hs
  obtain ⟨c9, hs⟩ := He.ba hs
  obtain ⟨c10, hs⟩ := He.ba hs
  obtain ⟨c11, hs⟩ := He.ba hs
  obtain ⟨c12, c13⟩ := He.ba hs
  obtain ⟨p0, p1, p2, p3, p4, p5, p6, p7, p8, p9, hb1, hb2⟩ := hb
  refine ⟨hg, cls_of c1, He.eqO_ok c3, He.eqO_ok c4, He.eqO_ok c5, of_decide_eq_true c6, c7, of_decide_eq_true c8, of_decide_eq_true c9, of_decide_eq_true c10, of_decide_eq_true c11, He.eqO_ok c12, He.eqO_ok c13, ?_, by decide +kernel, hsu⟩
  unfold iniB at c2
  unfold fnAt at hv
  cases hq : K.lookup (He.ma K (He.ga K x) "__init__") with
  | none => rw [hq] at c2; cases c2
  | some o =>
    obtain ⟨oc, od, dt, osl⟩ := o
    rw [hq] at c2 hv
    cases dt with
    | func fd =>
      obtain ⟨n1, n2, n3, n4, n5, n6, n7, n8, n9, n10, n11, n12, n13, n14, n15⟩ := fd
      have e2 : (some (n1, n2, n3, n4, n5, n6, n7.map (·.1), n15) : FnT) = (some (("__init__" : Str), x ++ ".__init__", defArgs st, FuncBody.stmts (defBody st), defScope st, mainGlobals, [("__class__" : Str)], builtinsNs) : FnT) := hv
      simp only [Option.some.injEq, Prod.mk.injEq] at e2
      obtain ⟨h1, h2, h3, h4, h5, h6, h7, h8⟩ := e2
      subst h1 h2 h3 h4 h5 h6 h8
      dsimp only at c2
      split at c2
      · rename_i cda nm cc
        obtain ⟨d1, d2⟩ := He.ba c2
        obtain ⟨d2, d3⟩ := He.ba d2
        have hnm : nm = ("__class__" : Str) := by simpa using h7
        subst hnm
        split at d2
        · rename_i ccl cdd vs ccs hcda
          split at d2
          · rename_i file tf hvs
            split at d3
            · rename_i cl cld C' csl hcc
              have hC : C' = He.ga K x := of_decide_eq_true d3
              subst hC
              refine ⟨oc, od, n10, n11, n12, cda, n14, cc, osl, ccl, cl, cdd, cld, vs, ccs, csl, file, tf, p0, p1, p2, p3, p4, p5, p6, p7, p8, p9, ?_, d1, hcda, hvs, d2, hcc, hb2⟩
              rw [← hb1]
            · cases d3
          · cases d2
        · cases d2
      · cases c2
    | _ => cases c2
theorem ownX_of {K : PySem.W.Frag} {mg : Str → Option Value} {x : Str} (hg : mg x = some (.ref (He.ga K x))) (h : PySem.W.excIn K (He.ga K x) He.veBase "ValueError.__new__" = true ∧ PySem.W.keepIn K (.ref (He.ga K x)) = true ∧ PySem.W.subIn K (.ref (He.ga K x)) (.type "BaseException") = some true ∧
    PySem.W.typeIn K (.ref (He.ga K x)) = some (.type "type")) : OwnX K mg x := ⟨h.1, hg, h.2.1, h.2.2.1, h.2.2.2⟩
/-! ### tables -/
theorem key_mem {P : Params} : ∀ {l : List DictEntry} {ks : List Str}, l.map He.keyOf = He.keysIn P ks → ∀ e ∈ l, ∃ y t, e.key = .str y t ∧ y ∈ ks
  | [], _, _, e, he => nomatch he
  | d :: r, [], h, _, _ => by cases h
  | d :: r, k :: ks, h, e, he => by
    have h1 : He.keyOf d :: r.map He.keyOf = some (k, PyData.keyHash P k) :: He.keysIn P ks := h
    injection h1 with h2 h3
    rcases List.mem_cons.mp he with rfl | he
    · unfold He.keyOf at h2
      split at h2
      · rename_i y t q
        have := (Prod.mk.inj (Option.some.inj h2)).1
        exact ⟨y, t, q, by rw [this]; simp⟩
      · cases h2
    · obtain ⟨y, t, h4, h5⟩ := key_mem h3 e he
      exact ⟨y, t, h4, List.mem_cons_of_mem _ h5⟩
theorem ktab_of {K : PySem.W.Frag} {w : World} {a : Addr} {ks : List Str} {kvs : List (Str × He.Dv)} {kvv : List (Str × V)} (hd : He.dicW K a = some (He.keysIn w.params ks)) (hv : He.valsB K a kvs = true) (hk : kvs.map (·.1) = ks) (hkv : kvs.map (fun q => (q.1, q.2.v K)) = kvv) : KTab K w a kvv := by
  subst hk hkv
  obtain ⟨es, n, D⟩ := He.dicW_ok hd
  have hes : es.toList.map He.keyOf = He.keysIn w.params (kvs.map (·.1)) := by
    unfold He.dicW at hd
    rw [D.at_] at hd
    have h1 : (match decide (("dict" : String) = "dict") && ((#[] : Array (Option Value)).isEmpty && !(a == sysModules)) with
      | true => some (es.toList.map He.keyOf)
      | false => none) = some (He.keysIn w.params (kvs.map (·.1))) := hd
    rw [D.low] at h1
    exact Option.some.inj h1
  refine ⟨⟨es, n, D⟩, fun z => ?_⟩
  have ht : tabV (kvs.map fun q => (q.1, q.2.v K)) z = (kvs.find? fun q => decide (q.1 = z)).map fun q => q.2.v K := by
    unfold tabV
    rw [List.find?_map, Option.map_map]
    rfl
  rw [ht]
  cases hf : kvs.find? fun q => decide (q.1 = z) with
  | some q =>
    have hq1 : q.1 = z := of_decide_eq_true (List.find?_some (p := fun q : Str × He.Dv => decide (q.1 = z)) hf)
    obtain ⟨u, hu1, hu2⟩ := He.valsB_ok hv (List.mem_of_find?_eq_some hf)
    rw [hq1] at hu1
    exact ⟨some u, hu1, hu2⟩
  | none =>
    refine ⟨none, ?_, trivial⟩
    unfold PySem.W.nsIn
    rw [D.at_]
    dsimp only
    have h1 : es.toList.find? (·.key.isStr z) = none := by
      refine List.find?_eq_none.mpr fun e he h => ?_
      obtain ⟨y, t, h4, h5⟩ := key_mem hes e he
      rw [h4, PySem.W.isStr_of] at h
      have hyz : y = z := by
        have h : (y == z) = true := h
        exact eq_of_beq h
      subst hyz
      obtain ⟨q, hq, hqy⟩ := List.mem_map.mp h5
      have := List.find?_eq_none.mp hf q hq
      exact this (decide_eq_true hqy)
    have h2 : es.toList.any (·.refKey) = false := by
      refine List.any_eq_false.mpr fun e he h => ?_
      obtain ⟨y, t, h4, h5⟩ := key_mem hes e he
      unfold DictEntry.refKey at h
      rw [h4] at h
      cases h
    rw [h1, h2]
    rfl
theorem int_at {mg : Str → Option Value} {x : Str} {i : Int} (h : ∃ t, mg x = some (.int i t)) : ∃ u, mg x = some u ∧ RelV (.int i) u := by
  obtain ⟨t, h⟩ := h
  exact ⟨_, h, t, rfl⟩
theorem str_at {mg : Str → Option Value} {x z : Str} (h : ∃ t, mg x = some (.str z t)) : ∃ u, mg x = some u ∧ RelV (.str z) u := by
  obtain ⟨t, h⟩ := h
  exact ⟨_, h, t, rfl⟩
section
variable {w : World} {K : PySem.W.Frag}
theorem Says.ck (c : Says w K) : ckB K = true := congrArg (fun z : Al => z.1.1) c.e
theorem fct (c : Says w K) (i : Nat) {f : He.Fa} (h : fa[i]? = some f) : f.ok K = true := List.all_eq_true.mp (He.ba c.ck).1 f (List.mem_of_getElem? h)
theorem Says.prop_ (c : Says w K) (i : Nat) {p : Str × Str} (h : props[i]? = some p) : propB K p.1 p.2 = true := List.all_eq_true.mp (He.ba (He.ba (He.ba c.ck).2).2).1 p (List.mem_of_getElem? h)
theorem Says.sup (c : Says w K) (i : Nat) {s : Str × Str × Stmt} (h : sups[i]? = some s) : supB K s.1 s.2.1 = true := List.all_eq_true.mp (He.ba (He.ba (He.ba (He.ba c.ck).2).2).2).1 s (List.mem_of_getElem? h)
theorem Says.ex (c : Says w K) (i : Nat) {b : Bool} (h : (exL K)[i]? = some b) : b = true := List.all_eq_true.mp (He.ba (He.ba (He.ba (He.ba c.ck).2).2).2).2 b (List.mem_of_getElem? h)
theorem at_map {α β : Type} {f g : α → β} {l : List α} {i : Nat} {x : α} (e : l.map f = l.map g) (h : l[i]? = some x) : f x = g x := by
  have e2 : (l.map f)[i]? = (l.map g)[i]? := by rw [e]
  rw [List.getElem?_map, List.getElem?_map, h] at e2
  exact Option.some.inj e2
theorem Says.def_ (c : Says w K) (i : Nat) {d : Df} (h : defs[i]? = some d) : ∃ fd, DefAt K d.name d.qual d.st (d.at_.at K) fd :=
  def_at (at_map (f := fun d : Df => fnAt K (d.at_.at K)) (g := fun d : Df => fnVal d.name d.qual d.st []) (l := defs) (congrArg (fun z : Al => z.1.2) c.e) h) (List.all_eq_true.mp (He.ba (He.ba c.ck).2).1 d (List.mem_of_getElem? h))
theorem Says.supV (c : Says w K) (i : Nat) {s : Str × Str × Stmt} (h : sups[i]? = some s) : fnAt K (He.ma K (He.ga K s.1) "__init__") = fnVal "__init__" (s.1 ++ ".__init__") s.2.2 ["__class__"] := at_map (f := fun s : Str × Str × Stmt => fnAt K (He.ma K (He.ga K s.1) "__init__")) (g := fun s : Str × Str × Stmt => fnVal "__init__" (s.1 ++ ".__init__") s.2.2 ["__class__"]) (l := sups) (congrArg (fun z : Al => z.2.1) c.e) h
theorem Says.tab (c : Says w K) (i : Nat) {t : Str × List Str} (h : tabs[i]? = some t) : He.dicW K (He.ga K t.1) = some (He.keysIn w.params t.2) := at_map (f := fun t : Str × List Str => He.dicW K (He.ga K t.1)) (g := fun t : Str × List Str => some (He.keysIn w.params t.2)) (l := tabs) (congrArg (fun z : Al => z.2.2) c.e) h
theorem Says.prop (c : Says w K) (i : Nat) {C m q : Str} {st : Stmt} (h : props[i]? = some (C, m)) (hd : ∃ fd, DefAt K m q st (getA K C m) fd) : ∃ p g fd, PropOf K (He.ga K C) m p g ∧ DefAt K m q st g fd := by
  obtain ⟨fd, F⟩ := hd
  exact ⟨_, _, fd, prop_of (c.prop_ i h), F⟩
end
end Pp
-- PpHf
set_option maxRecDepth 100000
set_option maxHeartbeats 4000000
/-! The head's facts, as the walks ask them. -/
namespace Pp
open PySem PySem.Spec PyProof.Rows L2
section
variable {w : World} {K : PySem.W.Frag} {h : Heap} {mg : Str → Option Value}
theorem txt_of (X : K.In h) (G : h.Ns mainGlobals mg) (c : Says w K) : Txt K mg w where
  b_len := He.free_ok X G (fct c 0 rfl)
  b_isinstance := He.free_ok X G (fct c 1 rfl)
  b_int := He.free_ok X G (fct c 2 rfl)
  b_str := He.free_ok X G (fct c 3 rfl)
  b_bool := He.free_ok X G (fct c 4 rfl)
  b_tuple := He.free_ok X G (fct c 5 rfl)
  b_list := He.free_ok X G (fct c 6 rfl)
  b_all := He.free_ok X G (fct c 7 rfl)
  b_abs := He.free_ok X G (fct c 8 rfl)
  b_sorted := He.free_ok X G (fct c 9 rfl)
  b_range := He.free_ok X G (fct c 10 rfl)
  b_enumerate := He.free_ok X G (fct c 11 rfl)
  b_iter := He.free_ok X G (fct c 12 rfl)
  b_repr := He.free_ok X G (fct c 13 rfl)
  b_super := He.free_ok X G (fct c 14 rfl)
  i_MOST_ROWS_lines := int_at (He.int_ok X G (fct c 15 rfl))
  i_MOST_CALLS := int_at (He.int_ok X G (fct c 16 rfl))
  i_MOST_ROWS_parade := int_at (He.int_ok X G (fct c 17 rfl))
  i_MOST_SIZE := int_at (He.int_ok X G (fct c 18 rfl))
  i_MOST_DIGITS := int_at (He.int_ok X G (fct c 19 rfl))
  i_MOST_FILES := int_at (He.int_ok X G (fct c 20 rfl))
  s_FIGURES := str_at (He.str_ok X G (fct c 21 rfl))
  g_BY_NUMBER := He.glo_ok X G (fct c 22 rfl)
  g_ALONE := He.glo_ok X G (fct c 23 rfl)
  g_WITH_ONE := He.glo_ok X G (fct c 24 rfl)
  t_BY_NUMBER := fun H => He.tupB_ok (c.ex 0 rfl) H
  t_ALONE := fun H => He.tupB_ok (c.ex 1 rfl) H
  t_WITH_ONE := fun H => He.tupB_ok (c.ex 2 rfl) H
  g_BY_FILES := He.glo_ok X G (fct c 25 rfl)
  g_OPEN_CALLS := He.glo_ok X G (fct c 26 rfl)
  k_BY_FILES := ktab_of (c.tab 0 rfl) (c.ex 3 rfl) rfl rfl
  k_OPEN_CALLS := ktab_of (c.tab 1 rfl) (c.ex 4 rfl) rfl rfl
  g_place_of_moves := PySem.W.mg_of X G (He.eqO_ok (c.ex 5 rfl))
  g_is_integer := He.glo_ok X G (fct c 27 rfl)
  d_is_integer := c.def_ 0 rfl
  g_is_files := He.glo_ok X G (fct c 28 rfl)
  d_is_files := c.def_ 1 rfl
  g_is_rows := He.glo_ok X G (fct c 29 rfl)
  d_is_rows := c.def_ 2 rfl
  g_is_index := He.glo_ok X G (fct c 30 rfl)
  d_is_index := c.def_ 3 rfl
  g_in_blanks := He.glo_ok X G (fct c 31 rfl)
  d_in_blanks := c.def_ 4 rfl
  g_in_stops := He.glo_ok X G (fct c 32 rfl)
  d_in_stops := c.def_ 5 rfl
  g_show_call := He.glo_ok X G (fct c 33 rfl)
  d_show_call := c.def_ 6 rfl
  g_show_script := He.glo_ok X G (fct c 34 rfl)
  d_show_script := c.def_ 7 rfl
  g_show_place := He.glo_ok X G (fct c 35 rfl)
  d_show_place := c.def_ 8 rfl
  g_is_call := He.glo_ok X G (fct c 36 rfl)
  d_is_call := c.def_ 9 rfl
  g_size_of := He.glo_ok X G (fct c 37 rfl)
  d_size_of := c.def_ 10 rfl
  g_turned := He.glo_ok X G (fct c 38 rfl)
  d_turned := c.def_ 11 rfl
  g_on_wheel := He.glo_ok X G (fct c 39 rfl)
  d_on_wheel := c.def_ 12 rfl
  g_on_open := He.glo_ok X G (fct c 40 rfl)
  d_on_open := c.def_ 13 rfl
  g_moved_by := He.glo_ok X G (fct c 41 rfl)
  d_moved_by := c.def_ 14 rfl
  g_is_place := He.glo_ok X G (fct c 42 rfl)
  d_is_place := c.def_ 15 rfl
  g_number_of := He.glo_ok X G (fct c 43 rfl)
  d_number_of := c.def_ 16 rfl
  g_place_of := He.glo_ok X G (fct c 44 rfl)
  d_place_of := c.def_ 17 rfl
  g_passed := He.glo_ok X G (fct c 45 rfl)
  d_passed := c.def_ 18 rfl
  g_moved := He.glo_ok X G (fct c 46 rfl)
  d_moved := c.def_ 19 rfl
  g_moves_of := He.glo_ok X G (fct c 47 rfl)
  d_moves_of := c.def_ 20 rfl
  g_parts_of := He.glo_ok X G (fct c 48 rfl)
  d_parts_of := c.def_ 21 rfl
  g_integer_in := He.glo_ok X G (fct c 49 rfl)
  d_integer_in := c.def_ 22 rfl
  g_call_in := He.glo_ok X G (fct c 50 rfl)
  d_call_in := c.def_ 23 rfl
  g_read_call := He.glo_ok X G (fct c 51 rfl)
  d_read_call := c.def_ 24 rfl
  g_in_one := He.glo_ok X G (fct c 52 rfl)
  d_in_one := c.def_ 25 rfl
  g_read_by := He.glo_ok X G (fct c 53 rfl)
  d_read_by := c.def_ 26 rfl
  g__law_bag := He.glo_ok X G (fct c 54 rfl)
  d__law_bag := c.def_ 27 rfl
  g__law_take := He.glo_ok X G (fct c 55 rfl)
  d__law_take := c.def_ 28 rfl
  g__law_one := He.glo_ok X G (fct c 56 rfl)
  d__law_one := c.def_ 29 rfl
  g__law_mixed := He.glo_ok X G (fct c 57 rfl)
  d__law_mixed := c.def_ 30 rfl
  g__law_alike := He.glo_ok X G (fct c 58 rfl)
  d__law_alike := c.def_ 31 rfl
  g__law_call := He.glo_ok X G (fct c 59 rfl)
  d__law_call := c.def_ 32 rfl
  g__law_open := He.glo_ok X G (fct c 60 rfl)
  d__law_open := c.def_ 33 rfl
  g__law_goes := He.glo_ok X G (fct c 61 rfl)
  d__law_goes := c.def_ 34 rfl
  g__law_words := He.glo_ok X G (fct c 62 rfl)
  d__law_words := c.def_ 35 rfl
  g__law_call_text := He.glo_ok X G (fct c 63 rfl)
  d__law_call_text := c.def_ 36 rfl
  g__law_script_text := He.glo_ok X G (fct c 64 rfl)
  d__law_script_text := c.def_ 37 rfl
  g__law_stand := He.glo_ok X G (fct c 65 rfl)
  d__law_stand := c.def_ 38 rfl
  g__law_shown := He.glo_ok X G (fct c 66 rfl)
  d__law_shown := c.def_ 39 rfl
  g__law_told_line := He.glo_ok X G (fct c 67 rfl)
  d__law_told_line := c.def_ 40 rfl
  g__law_joined := He.glo_ok X G (fct c 68 rfl)
  d__law_joined := c.def_ 41 rfl
  g__law_desk_said := He.glo_ok X G (fct c 69 rfl)
  d__law_desk_said := c.def_ 42 rfl
  g__law_called := He.glo_ok X G (fct c 70 rfl)
  d__law_called := c.def_ 43 rfl
  g__law_undone := He.glo_ok X G (fct c 71 rfl)
  d__law_undone := c.def_ 44 rfl
  g__law_gone := He.glo_ok X G (fct c 72 rfl)
  d__law_gone := c.def_ 45 rfl
  g__law_begun := He.glo_ok X G (fct c 73 rfl)
  d__law_begun := c.def_ 46 rfl
  g__law_line := He.glo_ok X G (fct c 74 rfl)
  d__law_line := c.def_ 47 rfl
  g__law_full := He.glo_ok X G (fct c 75 rfl)
  d__law_full := c.def_ 48 rfl
  g_law := He.glo_ok X G (fct c 76 rfl)
  d_law := c.def_ 49 rfl
  g_Script := He.glo_ok X G (fct c 77 rfl)
  c_Script := He.cls_ok (fct c 78 rfl)
  mk_Script := He.mkr_ok (fct c 79 rfl)
  n_Script_width := He.noat_ok (fct c 80 rfl)
  n_Script_steps := He.noat_ok (fct c 81 rfl)
  d_Script___init__ := c.def_ 50 rfl
  a_Script___init__ := He.meth_ok (fct c 82 rfl)
  d_Script___iter__ := c.def_ 51 rfl
  a_Script___iter__ := He.meth_ok (fct c 83 rfl)
  p_Script_files := c.prop 0 rfl (c.def_ 52 rfl)
  g_Line := He.glo_ok X G (fct c 84 rfl)
  c_Line := He.cls_ok (fct c 85 rfl)
  mk_Line := He.mkr_ok (fct c 86 rfl)
  n_Line_width := He.noat_ok (fct c 87 rfl)
  n_Line_deep := He.noat_ok (fct c 88 rfl)
  n_Line_standing := He.noat_ok (fct c 89 rfl)
  d_Line___init__ := c.def_ 53 rfl
  a_Line___init__ := He.meth_ok (fct c 90 rfl)
  d_Line___len__ := c.def_ 54 rfl
  a_Line___len__ := He.meth_ok (fct c 91 rfl)
  p_Line_files := c.prop 1 rfl (c.def_ 55 rfl)
  p_Line_rows := c.prop 2 rfl (c.def_ 56 rfl)
  d_Line_order := c.def_ 57 rfl
  a_Line_order := He.meth_ok (fct c 92 rfl)
  d_Line_place_of := c.def_ 58 rfl
  a_Line_place_of := He.meth_ok (fct c 93 rfl)
  d_Line_row_of := c.def_ 59 rfl
  a_Line_row_of := He.meth_ok (fct c 94 rfl)
  d_Line_is_home := c.def_ 60 rfl
  a_Line_is_home := He.meth_ok (fct c 95 rfl)
  d_Line_follow := c.def_ 61 rfl
  a_Line_follow := He.meth_ok (fct c 96 rfl)
  d_Line_do := c.def_ 62 rfl
  a_Line_do := He.meth_ok (fct c 97 rfl)
  g_Parade := He.glo_ok X G (fct c 98 rfl)
  c_Parade := He.cls_ok (fct c 99 rfl)
  mk_Parade := He.mkr_ok (fct c 100 rfl)
  n_Parade_troop := He.noat_ok (fct c 101 rfl)
  n_Parade_calls_done := He.noat_ok (fct c 102 rfl)
  n_Parade_calls_undone := He.noat_ok (fct c 103 rfl)
  n_Parade_stands := He.noat_ok (fct c 104 rfl)
  n_Parade_missing := He.noat_ok (fct c 105 rfl)
  d_Parade___init__ := c.def_ 63 rfl
  a_Parade___init__ := He.meth_ok (fct c 106 rfl)
  p_Parade_files := c.prop 3 rfl (c.def_ 64 rfl)
  p_Parade_rows := c.prop 4 rfl (c.def_ 65 rfl)
  d_Parade_check_call := c.def_ 66 rfl
  a_Parade_check_call := He.meth_ok (fct c 107 rfl)
  d_Parade_check_pupil := c.def_ 67 rfl
  a_Parade_check_pupil := He.meth_ok (fct c 108 rfl)
  d_Parade_advance := c.def_ 68 rfl
  a_Parade_advance := He.meth_ok (fct c 109 rfl)
  d_Parade_do := c.def_ 69 rfl
  a_Parade_do := He.meth_ok (fct c 110 rfl)
  d_Parade_back := c.def_ 70 rfl
  a_Parade_back := He.meth_ok (fct c 111 rfl)
  d_Parade_again := c.def_ 71 rfl
  a_Parade_again := He.meth_ok (fct c 112 rfl)
  d_Parade_done := c.def_ 72 rfl
  a_Parade_done := He.meth_ok (fct c 113 rfl)
  d_Parade_shown := c.def_ 73 rfl
  a_Parade_shown := He.meth_ok (fct c 114 rfl)
  d_Parade_leave := c.def_ 74 rfl
  a_Parade_leave := He.meth_ok (fct c 115 rfl)
  d_Parade_come := c.def_ 75 rfl
  a_Parade_come := He.meth_ok (fct c 116 rfl)
  d_Parade_away := c.def_ 76 rfl
  a_Parade_away := He.meth_ok (fct c 117 rfl)
  d_Parade_line := c.def_ 77 rfl
  a_Parade_line := He.meth_ok (fct c 118 rfl)
  d_Parade_place_of := c.def_ 78 rfl
  a_Parade_place_of := He.meth_ok (fct c 119 rfl)
  d_Parade_mates := c.def_ 79 rfl
  a_Parade_mates := He.meth_ok (fct c 120 rfl)
  g_Desk := He.glo_ok X G (fct c 121 rfl)
  c_Desk := He.cls_ok (fct c 122 rfl)
  mk_Desk := He.mkr_ok (fct c 123 rfl)
  n_Desk_parade := He.noat_ok (fct c 124 rfl)
  d_Desk___init__ := c.def_ 80 rfl
  a_Desk___init__ := He.meth_ok (fct c 125 rfl)
  d_Desk_begun := c.def_ 81 rfl
  a_Desk_begun := He.meth_ok (fct c 126 rfl)
  d_Desk_answer_alone := c.def_ 82 rfl
  a_Desk_answer_alone := He.meth_ok (fct c 127 rfl)
  d_Desk_answer_one := c.def_ 83 rfl
  a_Desk_answer_one := He.meth_ok (fct c 128 rfl)
  d_Desk_answered := c.def_ 84 rfl
  a_Desk_answered := He.meth_ok (fct c 129 rfl)
  d_Desk_execute := c.def_ 85 rfl
  a_Desk_execute := He.meth_ok (fct c 130 rfl)
  y_Script := of_decide_eq_true (c.ex 6 rfl)
theorem txtX_of (X : K.In h) (G : h.Ns mainGlobals mg) (c : Says w K) : TxtX P0 K mg where
  x_Wrong := supX_of X G (He.glo_ok X G (fct c 131 rfl)) (c.sup 0 rfl) (c.supV 0 rfl) (He.free_ok X G (fct c 14 rfl)) (by exact ⟨_, _, _, _, _, _, _, _, _, _, rfl, ⟨_, fun _ => rfl⟩⟩)
  x_NoCall := supX_of X G (He.glo_ok X G (fct c 132 rfl)) (c.sup 1 rfl) (c.supV 1 rfl) (He.free_ok X G (fct c 14 rfl)) (by exact ⟨_, _, _, _, _, _, _, _, _, _, rfl, ⟨_, fun _ => rfl⟩⟩)
  x_NoPupil := supX_of X G (He.glo_ok X G (fct c 133 rfl)) (c.sup 2 rfl) (c.supV 2 rfl) (He.free_ok X G (fct c 14 rfl)) (by exact ⟨_, _, _, _, _, _, _, _, _, _, rfl, ⟨_, fun _ => rfl⟩⟩)
  x_Full := supX_of X G (He.glo_ok X G (fct c 134 rfl)) (c.sup 3 rfl) (c.supV 3 rfl) (He.free_ok X G (fct c 14 rfl)) (by exact ⟨_, _, _, _, _, _, _, _, _, _, rfl, ⟨_, fun _ => rfl⟩⟩)
  x_Away := supX_of X G (He.glo_ok X G (fct c 135 rfl)) (c.sup 4 rfl) (c.supV 4 rfl) (He.free_ok X G (fct c 14 rfl)) (by exact ⟨_, _, _, _, _, _, _, _, _, _, rfl, ⟨_, fun _ => rfl⟩⟩)
  x_There := supX_of X G (He.glo_ok X G (fct c 136 rfl)) (c.sup 5 rfl) (c.supV 5 rfl) (He.free_ok X G (fct c 14 rfl)) (by exact ⟨_, _, _, _, _, _, _, _, _, _, rfl, ⟨_, fun _ => rfl⟩⟩)
  x_Nothing := ownX_of (He.glo_ok X G (fct c 137 rfl)) (He.exc_ok (fct c 138 rfl))
  x_NoText := ownX_of (He.glo_ok X G (fct c 139 rfl)) (He.exc_ok (fct c 140 rfl))
  x_NoCommand := ownX_of (He.glo_ok X G (fct c 141 rfl)) (He.exc_ok (fct c 142 rfl))
theorem txtM_of (c : Says w K) : TxtM K := ⟨fun x hx y hy => of_decide_eq_true (List.all_eq_true.mp (List.all_eq_true.mp (c.ex 7 rfl) x (show x ∈ errN from hx)) y (show y ∈ errN from hy))⟩
theorem txtE_of (X : K.In h) (G : h.Ns mainGlobals mg) (c : Says w K) : TxtE K mg := ⟨He.glo_ok X G (fct c 143 rfl), ⟨He.eqO_ok (c.ex 8 rfl), He.eqO_ok (c.ex 9 rfl), of_decide_eq_true (c.ex 10 rfl), c.ex 11 rfl, He.eqO_ok (c.ex 12 rfl), He.eqO_ok (c.ex 13 rfl), of_decide_eq_true (c.ex 14 rfl), of_decide_eq_true (c.ex 15 rfl)⟩, of_decide_eq_true (c.ex 16 rfl), of_decide_eq_true (c.ex 17 rfl)⟩
end
end Pp
-- PpEnd
set_option maxRecDepth 100000
set_option maxHeartbeats 0
/-! The end: the head's facts, the law walked. -/
namespace Pp
open PySem PySem.Spec PyProof.Rows L2
theorem run_all (w : World) : HandSHeadRun.RunEq R (PySem.W.view R.prog [90]) hk ob 9000 loose w := PySem.W.byRow2 "special-get-raises" (P := fun w => HandSHeadRun.RunEq R (PySem.W.view R.prog [90]) hk ob 9000 loose w) run_false run_true w
theorem facts {w : World} {K : PySem.W.Frag} {h : Heap} {mg : Str → Option Value} {f : Addr} (X : K.In h) (G : h.Ns mainGlobals mg) (hfa : mg ("law" : Str) = some (.ref f)) (c : Says w K) :
    ∃ fd : FuncData, (∀ (s : Shared) (v : Value), BindsTo s fd ⟨[v], []⟩ [("_law_script", v)]) ∧ ∀ base : Heap, K.In base → base.Ns mainGlobals mg → FnOk P0 w K mg base CX0 16 f fd ["_law_script"] (sp_law K) := by
  have T := txt_of X G c
  obtain ⟨fd, F⟩ := T.d_law
  have e := hfa.symm.trans T.g_law
  cases e
  have b := FunD.bindsA (ps := ["_law_script"]) F fun _ _ _ _ _ _ us hl => match us, hl with | [_], _ => rfl
  exact ⟨fd, fun s v => b s [v] rfl, fun base _ _ => ok_law T (txtX_of X G c) (txtM_of c) (txtE_of X G c) F⟩
end Pp
open PySem PySem.W PySem.Calls PyProof.Rows
theorem PySem.Challenge.cw_pupilpairs_k99_whole_desk_line_by_line_holds : PySem.Challenge.rw_pupilpairs_k99_whole_desk_line_by_line.Holds := by
  w_on; o_law
  refine HandSHeadRun.head_any (r := OpenLaw.row PySem.Challenge.rw_pupilpairs_k99_whole_desk_line_by_line) (q := view (OpenLaw.row PySem.Challenge.rw_pupilpairs_k99_whole_desk_line_by_line).prog [90]) (H := Pp.hk) (ob := Pp.ob) (M := 9000) (loose := Pp.loose) (d := HandSHeadRun.topDef (OpenLaw.row PySem.Challenge.rw_pupilpairs_k99_whole_desk_line_by_line).prog 90) (kwd := []) Pp.ob_eq
    (by kernel_rfl) (fun s => by kernel_rfl) Pp.run_all (by kernel_rfl) (by kernel_rfl) (by kernel_rfl) (by rfl) (by first | assumption | decide +kernel) (by decide +kernel) ⟨rfl, rfl, rfl, rfl, rfl, by decide +kernel⟩ ?hw ?hc
  case hw => w_witness2
  case hc =>
    refine L2.walk_ofE (l := PySem.Challenge.rw_pupilpairs_k99_whole_desk_line_by_line) (n := 63) (k := 16) (x := "_law_script") (CX := L2.CX0) rfl (by decide) (by kernel_rfl) ⟨rfl, by decide, by decide⟩ ?F (fun _ _ _ _ z => z)
    intro w mg fa h Y G hmg0
    obtain ⟨K, KX, c⟩ := Y
    have hmg : mg ("law" : PySem.Str) = some (.ref fa) := by
      have e : (HandSHeadRun.topDef (OpenLaw.row PySem.Challenge.rw_pupilpairs_k99_whole_desk_line_by_line).prog 90).name = ("law" : PySem.Str) := by kernel_rfl
      rw [← e]
      exact hmg0
    obtain ⟨fd, hb, hF⟩ := Pp.facts (w := w) KX G hmg c
    exact ⟨K, fd, Pp.sp_law K, KX, hb, fun H a ns hl _ hS => ⟨a, ns, rfl, hS, hl, fun _ => rfl⟩, hF⟩
