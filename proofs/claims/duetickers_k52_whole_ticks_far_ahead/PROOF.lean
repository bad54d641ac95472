import PyProof.Rows.All
import Wide.All
import OpenK.AllK
import Wide.FinOn
import HandS.ForMost
import HandS.Codes
import HandS.IsInst
import HandS.ClsMeth
import HandS.Star
import HandS.Style
import HandS.DictComp
import HandS.Zip
import HandS.WideBits
import HandS.TupAny
import HandS.Steps
import HandS.Walk
import HandS.HeadHook1
import KE.KStateDown
import HandS.Head0
import HandS.Head1
import HandS.Head2
import HandS.HeadEnd
import HandS.HeadHook2
import HandS.HeadHook3
import Wide.Once
import HandS.DictTup
import KE.SortData
import HandS.Nested
import HandS.TryOnly
import HandS.SlotsOwn
import KE.KTypeName
import HandS.OwnEq
import PySem.Challenge.RW_duetickers_k52_whole_ticks_far_ahead
set_option Elab.async false
set_option linter.all false
set_option maxRecDepth 100000
set_option maxHeartbeats 4000000
/-! Tk: the toolkit: readings step by step, heaps that grow. -/
namespace Dt
open PySem PySem.Spec L2
abbrev ID : Prop := True
def topS (i : Nat) : Stmt := PySem.Challenge.pw_duetickers_k52_whole_ticks_far_ahead.main.body.getD i (.Pass ⟨0, 0, 0, 0⟩)
/-! ### heaps -/
/-- all but what stands at l is as it was -/
def Off (l : Addr) (H H' : Hp) : Prop := ∀ b o, H b = some o → b ≠ l → H' b = some o
theorem Same.get {H H' : Hp} {a : Addr} {o : HO} (e : Same H H') (h : H a = some o) : H' a = some o := e _ _ h
theorem Off.get {H H' : Hp} {l a : Addr} {o : HO} (e : Off l H H') (h : H a = some o) (n : a ≠ l) : H' a = some o := e _ _ h n
theorem Off.seqL {K : PySem.W.Frag} {H H' : Hp} {l a : Addr} {xs : List V} (e : Off l H H') (h : SqL K H a xs) (n : a ≠ l) : SqL K H' a xs := by
  rcases h with (h | ⟨o, h⟩) | h
  · exact .inl (.inl (e _ _ h n))
  · exact .inl (.inr ⟨o, e _ _ h n⟩)
  · exact .inr h
theorem Off.seqT {K : PySem.W.Frag} {H H' : Hp} {l a : Addr} {xs : List V} (e : Off l H H') (h : SqT K H a xs) (n : a ≠ l) : SqT K H' a xs := by
  rcases h with (h | ⟨o, h⟩) | h
  · exact .inl (.inl (e _ _ h n))
  · exact .inl (.inr ⟨o, e _ _ h n⟩)
  · exact .inr h
theorem Same.seqT {K : PySem.W.Frag} {H H' : Hp} {a : Addr} {xs : List V} (e : Same H H') (h : SqT K H a xs) : SqT K H' a xs := by
  rcases h with (h | ⟨o, h⟩) | h
  · exact .inl (.inl (e _ _ h))
  · exact .inl (.inr ⟨o, e _ _ h⟩)
  · exact .inr h
theorem Same.upd {H : Hp} {p : Addr} {o : HO} (h : H p = none) : Same H (upd H p o) := fun b x e => by
  rw [upd_ne (ne_of_none e h)]
  exact e
theorem Same.updW {H0 H : Hp} {p : Addr} {o : HO} (e : Same H0 H) (h : H0 p = none) : Same H0 (L2.upd H p o) := fun b x hb => by
  rw [upd_ne (ne_of_none hb h)]
  exact e _ _ hb
theorem Off.upd {H : Hp} {l : Addr} {o : HO} : Off l H (upd H l o) := fun b x e n => by
  rw [upd_ne n]
  exact e
theorem Off.to {H0 H H' : Hp} {l : Addr} (e : Same H0 H) (o : Off l H H') (h : H0 l = none) : Same H0 H' := fun b x hb => o _ _ (e _ _ hb) (ne_of_none hb h)
theorem ne_none {H : Hp} {a b : Addr} {o : HO} (h : H a = some o) (h' : H b = none) : b ≠ a := (ne_of_none h h').symm
theorem SqL.rd {K : PySem.W.Frag} {H : Hp} {a : Addr} {xs : List V} (h : H a = some (.lst xs)) : SqL K H a xs := .inl (.inl h)
theorem SqT.rd {K : PySem.W.Frag} {H : Hp} {a : Addr} {xs : List V} (h : H a = some (.tup xs)) : SqT K H a xs := .inl (.inl h)
/-! ### readings, step by step -/
section
variable {σ : St} {H : Hp} {Q : VK} {D : Ends} {ta tb tc te tv : TE} {t u : TS} {tt tu : TT} {i j : Int} {x y v : V} {K : PySem.W.Frag} {n : Nat} {tA tR : TA} {QB : Bool → Hp → Prop} {QA : List V → Hp → Prop} {QS : St → Hp → Prop}
theorem g_seq (h : t { D with nx := u D } σ H) : tSeq t u D σ H := h
theorem g_next (h : D.nx σ H) : tNext D σ H := h
theorem g_brk (h : D.bk σ H) : tBreak D σ H := h
theorem g_ret (h : te σ H D.rt) : tRet te D σ H := h
theorem g_retN (h : D.rt .non H) : tRetN D σ H := h
theorem g_drop (h : te σ H fun _ H1 => D.nx σ H1) : tDrop te D σ H := h
theorem g_asg {g : TG} (h : te σ H fun x H1 => g x σ H1 D.nx) : tAsg te g D σ H := h
theorem g_ifS (h : tt σ H fun b H1 => if b = true then t D σ H1 else u D σ H1) : tIfS tt t u D σ H := h
theorem g_name (h : QS (σ.set n (some v)) H) : gName n v σ H QS := h
theorem g_name' {σ' : St} (e : σ.set n (some v) = σ') (h : QS σ' H) : gName n v σ H QS := by
  unfold gName
  rw [e]
  exact h
theorem g_tvar (h : ∃ v, σ[n]? = some (some v) ∧ Q v H) : tVar n σ H Q := h
theorem g_var (e : σ[n]? = some (some v)) (h : Q v H) : tVar n σ H Q := ⟨v, e, h⟩
theorem g_c (h : Q v H) : tC v σ H Q := h
theorem g_op {r : R2} (h : ta σ H fun x H1 => tb σ H1 fun y H2 => r x y H2 Q) : tOp r ta tb σ H Q := h
theorem g_un {r : V → Hp → VK → Prop} (h : ta σ H fun x H1 => r x H1 Q) : tUn r ta σ H Q := h
theorem g_I0 {g : Int → Int → V} (h : Q (g i j) H) : rI0 g (.int i) (.int j) H Q := ⟨i, j, rfl, rfl, h⟩
theorem g_U {g : Int → V} (h : Q (g i) H) : rU g (.int i) H Q := ⟨i, rfl, h⟩
theorem g_I {C : Int → Int → Prop} {g : Int → Int → V} (c : C i j) (h : Q (g i j) H) : rI C g (.int i) (.int j) H Q := ⟨i, j, rfl, rfl, c, h⟩
theorem dec_i : decide (V.int i = V.int j) = decide (i = j) := by
  by_cases e : i = j
  · rw [decide_eq_true e, e]; exact decide_eq_true rfl
  · rw [decide_eq_false e]; exact decide_eq_false fun q => e (V.int.inj q)
theorem dec_s {a b : Str} : decide (V.str a = V.str b) = decide (a = b) := by
  by_cases e : a = b
  · rw [decide_eq_true e, e]; exact decide_eq_true rfl
  · rw [decide_eq_false e]; exact decide_eq_false fun q => e (V.str.inj q)
theorem g_eqI (h : Q (.bl (decide (i = j))) H) : rEq (.int i) (.int j) H Q := ⟨rfl, by rw [dec_i]; exact h⟩
theorem g_neI (h : Q (.bl (!decide (i = j))) H) : rNe (.int i) (.int j) H Q := ⟨rfl, by rw [dec_i]; exact h⟩
theorem g_eqS {a b : Str} (h : Q (.bl (decide (a = b))) H) : rEq (.str a) (.str b) H Q := ⟨rfl, by rw [dec_s]; exact h⟩
theorem g_neS {a b : Str} (h : Q (.bl (!decide (a = b))) H) : rNe (.str a) (.str b) H Q := ⟨rfl, by rw [dec_s]; exact h⟩
theorem g_test (h : te σ H fun x H' => ∃ k, x = .bl k ∧ QB k H') : tTest te σ H QB := h
theorem g_B (h : te σ H fun x H' => ∃ k, x = .bl k ∧ QB k H') : tB te σ H QB := h
theorem g_bl {b : Bool} {QC : Bool → Prop} (h : QC b) : ∃ k, V.bl b = .bl k ∧ QC k := ⟨b, rfl, h⟩
theorem g_if (h : tt σ H fun c H1 => if c = true then ta σ H1 Q else tb σ H1 Q) : tIf tt ta tb σ H Q := h
theorem g_not (h : tt σ H fun c H1 => QB (!c) H1) : tNot tt σ H QB := h
theorem g_and (h : tt σ H fun c H1 => if c = true then tu σ H1 QB else QB false H1) : tAnd tt tu σ H QB := h
theorem g_or (h : tt σ H fun c H1 => if c = true then QB true H1 else tu σ H1 QB) : tOr tt tu σ H QB := h
theorem g_andV (h : ta σ H fun x H1 => ∃ c, x = .bl c ∧ if c = true then tb σ H1 Q else Q (.bl false) H1) : tAndV ta tb σ H Q := h
theorem g_orV (h : ta σ H fun x H1 => ∃ c, x = .bl c ∧ if c = true then Q (.bl true) H1 else tb σ H1 Q) : tOrV ta tb σ H Q := h
theorem g_notV (h : ta σ H fun x H1 => ∃ c, x = .bl c ∧ Q (.bl (!c)) H1) : tNotV ta σ H Q := h
theorem g_blif {b : Bool} {A B : Prop} (h : if b = true then A else B) : ∃ c, V.bl b = .bl c ∧ if c = true then A else B := ⟨b, rfl, h⟩
theorem g_chain {r r' : R2} (h : ta σ H fun x H1 => tb σ H1 fun y H2 => r x y H2 fun z H3 => ∃ k, z = .bl k ∧ (if k = true then tc σ H3 fun w' H4 => r' y w' H4 Q else Q (.bl false) H3)) : tChain r r' ta tb tc σ H Q := h
theorem g_nil (h : QA [] H) : tNil σ H QA := h
theorem g_cons (h : ta σ H fun x H1 => tR σ H1 fun xs H2 => QA (x :: xs) H2) : tCons ta tR σ H QA := h
theorem g_cb {r : List V → Hp → VK → Prop} (h : tA σ H fun vs H1 => r vs H1 Q) : tCB r tA σ H Q := h
theorem g_call {sp : Sp} {dvs : List V} {E : XK} (h : tA σ H fun vs H1 => sp (vs ++ dvs) H1 Q E) : tCall sp dvs E tA σ H Q := h
theorem g_lc {wi : TI} {g : TG} {vs : List Nat} (h : wi σ H fun J H1 => ∀ D, H1 D = none → ∃ W : Nat → Nat → Hp → Prop, (∃ m, W 0 m (upd H1 D (.lst []))) ∧ ∀ i m H, W i m H →
  (J.stop i H ∧ Q (.ref D) H) ∨ (J.go i H ∧ ∃ Nx : Hp → Prop, (∀ H', Nx H' → ∃ m', m' < m ∧ W (i + 1) m' H') ∧ ∀ x H', J.yld i H x H' → g x (wipe σ vs) H' fun σ2 H2 => wipe σ2 vs = wipe σ vs ∧ tt σ2 H2 fun b H3 =>
    if b = true then te σ2 H3 fun y H4 => ∃ acc, H4 D = some (.lst acc) ∧ acc.length < sizeLine ∧ Nx (upd H4 D (.lst (acc ++ [y]))) else Nx H3)) : tLc wi g tt te vs σ H Q := h
theorem g_for {wi : TI} {g : TG} (h : wi σ H fun J H1 => ∃ W : Nat → Nat → St → Hp → Prop, (∃ m, W 0 m σ H1) ∧ ∀ i m σ H, W i m σ H →
  (J.stop i H ∧ D.nx σ H) ∨ (J.go i H ∧ ∃ N : St → Hp → Prop, (∀ σ' H', N σ' H' → ∃ m', m' < m ∧ W (i + 1) m' σ' H') ∧ ∀ x H', J.yld i H x H' → g x σ H' fun σ2 H2 => t { D with nx := N, ct := N, bk := D.nx } σ2 H2)) : tFor wi g t D σ H := h
theorem g_iStr {R : It → Hp → Prop} (h : te σ H fun v H1 => ∃ x, v = .str x ∧ R (Its x) H1) : iStr te σ H R := h
theorem g_iList {R : It → Hp → Prop} (h : te σ H fun x H1 => ∃ a, x = .ref a ∧ (∃ xs, SqL K H1 a xs) ∧ R (Itl K a) H1) : iList K te σ H R := h
theorem g_iTup {R : It → Hp → Prop} (h : te σ H fun x H1 => ∃ a, x = .ref a ∧ (∃ xs, SqT K H1 a xs) ∧ R (Itt K a) H1) : iTup K te σ H R := h
theorem g_iR1 {R : It → Hp → Prop} (h : tA σ H fun vs H1 => ∃ j : Int, vs = [.int j] ∧ -(2 ^ 62) ≤ j ∧ j < 2 ^ 62 ∧ R (Itr 0 j.toNat) H1) : iRng1 tA σ H R := h
theorem g_iR2 {R : It → Hp → Prop} (h : tA σ H fun vs H1 => ∃ i j : Int, vs = [.int i, .int j] ∧ (-(2 ^ 62) ≤ i ∧ i < 2 ^ 62 ∧ -(2 ^ 62) ≤ j ∧ j < 2 ^ 62) ∧ R (Itr i (j - i).toNat) H1) : iRng2 tA σ H R := h
theorem g_iR3 {R : It → Hp → Prop} (h : tA σ H fun vs H1 => ∃ (i j c : Int) (n : Nat), vs = [.int i, .int j, .int c] ∧ RgC i j c n ∧ R (Itc i c n) H1) : iRng3 tA σ H R := h
theorem g_iEnum {R : It → Hp → Prop} (h : tA σ H fun vs H1 => ∃ a xs, vs = [.ref a] ∧ SqL K H1 a xs ∧ R (Ite K a) H1) : iEnum K tA σ H R := h
theorem g_iZip {R : It → Hp → Prop} (h : tA σ H fun vs H1 => ∃ a b xs ys, vs = [.ref a, .ref b] ∧ SqL K H1 a xs ∧ SqL K H1 b ys ∧ R (Itz K a b) H1) : iZip K tA σ H R := h
theorem g_iZipA {R : It → Hp → Prop} (h : tA σ H fun vs H1 => ∃ a b xs ys, vs = [.ref a, .ref b] ∧ ((SqL K H1 a xs ∧ SqL K H1 b ys ∧ R (Itz K a b) H1) ∨ (SqT K H1 a xs ∧ SqT K H1 b ys ∧ R (RZ.ItzT K a b) H1))) : RZ.iZipA K tA σ H R := h
theorem g_bm {r : V → List V → Hp → VK → Prop} {T : String} (h : te σ H fun x H1 => tyV K T x H1 ∧ tA σ H1 fun xs H2 => r x xs H2 Q) : tBM K T r te tA σ H Q := h
theorem g_bm0 {r : V → List V → Hp → VK → Prop} {T : String} (h : te σ H fun x H1 => tyV K T x H1 ∧ r x [] H1 Q) : tBM0 K T r te σ H Q := h
theorem g_m1 {r : V → List V → Hp → VK → Prop} (h : te σ H fun x H1 => (∃ a, x = .str a) ∧ tb σ H1 fun y H2 => r x [y] H2 Q) : tM1 r te tb σ H Q := h
theorem g_sl {r : V → Option Int → Option Int → Hp → VK → Prop} {tl th : TO} (h : te σ H fun x H1 => tl σ H1 fun l H2 => th σ H2 fun u H3 => r x l u H3 Q) : tSl r te tl th σ H Q := h
theorem g_poN {QO : Option Int → Hp → Prop} (h : QO none H) : tNoPart σ H QO := h
theorem g_poS {QO : Option Int → Hp → Prop} (h : te σ H fun x H1 => ∃ i, x = .int i ∧ QO (some i) H1) : tPart te σ H QO := h
theorem g_poI {QI : Int → Prop} (h : QI i) : ∃ k, V.int i = .int k ∧ QI k := ⟨i, rfl, h⟩
theorem g_yes (h : QB true H) : tYes σ H QB := h
theorem g_gtup {ts : TGs} (h : ∃ a xs, v = .ref a ∧ SqT K H a xs ∧ xs.length = n ∧ ts xs σ H QS) : gTup K n ts v σ H QS := h
theorem g_gcons {g : TG} {u : TGs} {r : List V} (h : g v σ H fun σ' H' => u r σ' H' QS) : gCons g u (v :: r) σ H QS := ⟨v, r, rfl, h⟩
theorem g_gnil (h : QS σ H) : gNil [] σ H QS := ⟨rfl, h⟩
theorem g_par {m : Nat} (h : tA σ H fun vs H1 => ∃ v w, vs = [v, w] ∧ D.nx ((σ.set m (some v)).set n (some w)) H1) : tPar m n tA D σ H := h
theorem g_tup {tA : TA} (h : tA σ H fun xs H1 => xs.length ≤ sizeLine ∧ ∀ p, H1 p = none → Q (.ref p) (upd H1 p (.tup xs))) : tTup tA σ H Q := h
theorem g_lst {tA : TA} (h : tA σ H fun xs H1 => xs.length ≤ sizeLine ∧ ∀ p, H1 p = none → Q (.ref p) (upd H1 p (.lst xs))) : tLst tA σ H Q := h
theorem g_fld {f : Str} {a C dx : Addr} {fs : List (Str × V)} (ho : H a = some (.ins C dx fs)) (c : Cls K C) (nf : NoAttr K C f) (l : fs.lookup f = some v) (h : Q v H) : (fun (x : V) (H1 : Hp) => ∃ a C dx fs v, x = .ref a ∧ H1 a = some (.ins C dx fs) ∧ Cls K C ∧ NoAttr K C f ∧ fs.lookup f = some v ∧ Q v H1) (.ref a) H :=
  ⟨a, C, dx, fs, v, rfl, ho, c, nf, l, h⟩
theorem g_tfld {f : Str} (h : te σ H fun x H1 => ∃ a C dx fs v, x = .ref a ∧ H1 a = some (.ins C dx fs) ∧ Cls K C ∧ NoAttr K C f ∧ fs.lookup f = some v ∧ Q v H1) : tFld K te f σ H Q := h
theorem g_isi {a b : String} {r : Bool} (ty : TyX K H x (.type a)) (k : kitB a b = some r) (q : Q (.bl r) H) : rIsi K [x, .ty b] H Q := ⟨x, .ty b, _, _, r, rfl, .ty b, ty, kit_ty k, q⟩
theorem g_isiC {a C C' dx : Addr} {fs : List (Str × V)} {r : Bool} (ho : H a = some (.ins C dx fs)) (c : C8.InsC K C) (k : PySem.W.kitOne K (.ref C) (.ref C') = some r) (q : Q (.bl r) H) : rIsi K [.ref a, .ref C'] H Q :=
  ⟨_, _, .ref C, .ref C', r, rfl, .own C', .base (.ins ho c.cl c.ha c.hn c.htk c.hm), k, q⟩
theorem g_isiIns {a C dx : Addr} {fs : List (Str × V)} (ho : H a = some (.ins C dx fs)) (c : C8.InsC K C) (q : Q (.bl true) H) : rIsi K [.ref a, .ref C] H Q := g_isiC ho c c.me q
theorem g_isi_ii (q : Q (.bl true) H) : rIsi K [.int i, .ty "int"] H Q := g_isi (.base (.int _)) (by decide +kernel) q
theorem g_isi_ib (q : Q (.bl false) H) : rIsi K [.int i, .ty "bool"] H Q := g_isi (.base (.int _)) (by decide +kernel) q
theorem g_isi_ss {z : Str} (q : Q (.bl true) H) : rIsi K [.str z, .ty "str"] H Q := g_isi (.base (.str _)) (by decide +kernel) q
/-! readings by their names -/
theorem g_isN_int (h : Q (.bl false) H) : rIsN (.int i) .non H Q := ⟨rfl, h⟩
theorem g_isN_str {z : Str} (h : Q (.bl false) H) : rIsN (.str z) .non H Q := ⟨rfl, h⟩
theorem g_isN_ref {a : Addr} (h : Q (.bl false) H) : rIsN (.ref a) .non H Q := ⟨rfl, h⟩
theorem g_isN_non (h : Q (.bl true) H) : rIsN .non .non H Q := ⟨rfl, h⟩
theorem g_nN_int (h : Q (.bl true) H) : rNotN (.int i) .non H Q := ⟨rfl, h⟩
theorem g_nN_str {z : Str} (h : Q (.bl true) H) : rNotN (.str z) .non H Q := ⟨rfl, h⟩
theorem g_nN_ref {a : Addr} (h : Q (.bl true) H) : rNotN (.ref a) .non H Q := ⟨rfl, h⟩
theorem g_nN_non (h : Q (.bl false) H) : rNotN .non .non H Q := ⟨rfl, h⟩
def rInt1 : List V → Hp → VK → Prop := fun xs H Q => (∃ i, xs = [.int i] ∧ Q (.int i) H) ∨ ∃ k, xs = [.bl k] ∧ Q (.int (if k then 1 else 0)) H
theorem kc_int {X : Cx} : CallR X (.type "int") rInt1 := call_int1
theorem g_int1 (h : Q (.int i) H) : rInt1 [.int i] H Q := .inl ⟨i, rfl, h⟩
theorem g_int1b {b : Bool} (h : Q (.int (if b = true then 1 else 0)) H) : rInt1 [.bl b] H Q := .inr ⟨b, rfl, h⟩
def rAbs : List V → Hp → VK → Prop := fun xs H Q => ∃ i, xs = [.int i] ∧ Q (.int (if i < 0 then -i else i)) H
theorem kc_abs {X : Cx} : CallR X (.builtin "abs") rAbs := call_abs
theorem g_abs (h : Q (.int (if i < 0 then -i else i)) H) : rAbs [.int i] H Q := ⟨i, rfl, h⟩
def rStrI : List V → Hp → VK → Prop := fun xs H Q => ∃ i, xs = [.int i] ∧ i.natAbs.log2 < 1920 ∧ Q (.str (toString i)) H
theorem kc_str {X : Cx} : CallR X (.type "str") rStrI := call_str_int
theorem g_strI (hz : i.natAbs.log2 < 1920) (h : Q (.str (toString i)) H) : rStrI [.int i] H Q := ⟨i, rfl, hz, h⟩
def rLenQ (K : PySem.W.Frag) : List V → Hp → VK → Prop := fun xs H Q => ∃ p ys, xs = [.ref p] ∧ (SqL K H p ys ∨ SqT K H p ys) ∧ Q (.int ys.length) H
theorem kc_len {X : Cx} : CallR X (.builtin "len") (rLenQ X.K) := call_len_seq
theorem g_lenL {a : Addr} {xs : List V} (hx : SqL K H a xs) (h : Q (.int xs.length) H) : rLenQ K [.ref a] H Q := ⟨a, xs, rfl, .inl hx, h⟩
theorem g_lenT {a : Addr} {xs : List V} (hx : SqT K H a xs) (h : Q (.int xs.length) H) : rLenQ K [.ref a] H Q := ⟨a, xs, rfl, .inr hx, h⟩
def rLen1 : List V → Hp → VK → Prop := fun xs H Q => ∃ z, xs = [.str z] ∧ z.length ≤ sizeLine ∧ Q (.int z.length) H
theorem kc_lenS {X : Cx} : CallR X (.builtin "len") rLen1 := call_len_str
theorem g_lenS {z : Str} (hz : z.length ≤ sizeLine) (h : Q (.int z.length) H) : rLen1 [.str z] H Q := ⟨z, rfl, hz, h⟩
def rListO (K : PySem.W.Frag) : List V → Hp → VK → Prop := fun xs H Q => ∃ p ys, xs = [.ref p] ∧ (SqL K H p ys ∨ SqT K H p ys) ∧ ∀ l, H l = none → Q (.ref l) (upd H l (.lst ys))
theorem kc_list {X : Cx} : CallR X (.type "list") (rListO X.K) := call_list_of
theorem g_listT {a : Addr} {xs : List V} (hx : SqT K H a xs) (h : ∀ l, H l = none → Q (.ref l) (upd H l (.lst xs))) : rListO K [.ref a] H Q := ⟨a, xs, rfl, .inr hx, h⟩
def rTupO (K : PySem.W.Frag) : List V → Hp → VK → Prop := fun xs H Q => ∃ p ys, xs = [.ref p] ∧ ((SqL K H p ys ∧ ∀ l, H l = none → Q (.ref l) (upd H l (.tup ys))) ∨ (SqT K H p ys ∧ Q (.ref p) H))
theorem kc_tup {X : Cx} : CallR X (.type "tuple") (rTupO X.K) := call_tuple_of
theorem g_tupL {a : Addr} {xs : List V} (hx : SqL K H a xs) (h : ∀ l, H l = none → Q (.ref l) (upd H l (.tup xs))) : rTupO K [.ref a] H Q := ⟨a, xs, rfl, .inl ⟨hx, h⟩⟩
theorem g_tupT {a : Addr} {xs : List V} (hx : SqT K H a xs) (h : Q (.ref a) H) : rTupO K [.ref a] H Q := ⟨a, xs, rfl, .inr ⟨hx, h⟩⟩
def rAddT : R2 := fun x y H Q => ∃ i j, x = .str i ∧ y = .str j ∧ i.length + j.length ≤ sizeLine ∧ Q (.str (i ++ j)) H
theorem ko_addS {X : Cx} : OpR X (binaryOp .Add) rAddT := op_add_str
theorem g_addS {a b : Str} (hz : a.length + b.length ≤ sizeLine) (h : Q (.str (a ++ b)) H) : rAddT (.str a) (.str b) H Q := ⟨a, b, rfl, rfl, hz, h⟩
def rLtS : R2 := fun x y H Q => ∃ i j, x = .str i ∧ y = .str j ∧ Q (.bl (decide (i.cps.toList < j.cps.toList))) H
theorem ko_ltS {X : Cx} : OpR X (compareOp .Lt) rLtS := op_lt_str
theorem g_ltS {a b : Str} (h : Q (.bl (decide (a.cps.toList < b.cps.toList))) H) : rLtS (.str a) (.str b) H Q := ⟨a, b, rfl, rfl, h⟩
def rInC : R2 := fun x y H Q => ∃ (c : Nat) (z : Str), x = .str ⟨#[c]⟩ ∧ y = .str z ∧ Q (.bl (decide (c ∈ z.cps.toList))) H
theorem ko_inC {X : Cx} : OpR X (compareOp .In) rInC := op_in_sign
theorem g_inC {c : Nat} {z : Str} (h : Q (.bl (decide (c ∈ z.cps.toList))) H) : rInC (.str ⟨#[c]⟩) (.str z) H Q := ⟨c, z, rfl, rfl, h⟩
def rShr : R2 := fun x y H Q => ∃ (i : Int) (k : Nat), x = .int i ∧ y = .int (k : Int) ∧ Q (.int (i / 2 ^ k)) H
theorem ko_shr {X : Cx} : OpR X (binaryOp .RShift) rShr := op_shrN
theorem g_shrN {k : Nat} (h : Q (.int (i / 2 ^ k)) H) : rShr (.int i) (.int (k : Int)) H Q := ⟨i, k, rfl, rfl, h⟩
def rShl : R2 := fun x y H Q => ∃ (i : Int) (k : Nat), x = .int i ∧ y = .int (k : Int) ∧ CShl i (k : Int) ∧ Q (.int (i * 2 ^ k)) H
theorem ko_shl {X : Cx} : OpR X (binaryOp .LShift) rShl := op_shlN
theorem g_shlN {k : Nat} (c : CShl i (k : Int)) (h : Q (.int (i * 2 ^ k)) H) : rShl (.int i) (.int (k : Int)) H Q := ⟨i, k, rfl, rfl, c, h⟩
theorem g_ixL {a : Addr} {xs : List V} (hx : SqL K H a xs) (e : atI xs i = some v) (h : Q v H) : rIxL K (.ref a) (.int i) H Q := ⟨a, xs, i, v, rfl, rfl, hx, e, h⟩
theorem g_ixT {a : Addr} {xs : List V} (hx : SqT K H a xs) (e : atI xs i = some v) (h : Q v H) : rIxT K (.ref a) (.int i) H Q := ⟨a, xs, i, v, rfl, rfl, hx, e, h⟩
theorem ifD {p A B : Prop} [Decidable p] (h1 : p → A) (h2 : ¬ p → B) : if decide p = true then A else B := by
  by_cases h : p
  · rw [if_pos (decide_eq_true h)]; exact h1 h
  · rw [if_neg (by simp [h])]; exact h2 h
theorem ifD_t {p A B : Prop} [Decidable p] (h : p) (q : A) : if decide p = true then A else B := ifD (fun _ => q) fun z => absurd h z
theorem ifD_f {p A B : Prop} [Decidable p] (h : ¬ p) (q : B) : if decide p = true then A else B := ifD (fun z => absurd z h) fun _ => q
theorem ifN {p A B : Prop} [Decidable p] (h1 : ¬ p → A) (h2 : p → B) : if (!decide p) = true then A else B := by
  by_cases h : p
  · rw [if_neg (by simp [h])]; exact h2 h
  · rw [if_pos (by simp [h])]; exact h1 h
theorem ifN_t {p A B : Prop} [Decidable p] (h : ¬ p) (q : A) : if (!decide p) = true then A else B := ifN (fun _ => q) fun z => absurd z h
theorem ifN_f {p A B : Prop} [Decidable p] (h : p) (q : B) : if (!decide p) = true then A else B := ifN (fun z => absurd h z) fun _ => q
theorem iteNT {A B : Prop} (h : B) : if (!true) = true then A else B := by
  rw [if_neg (by decide)]
  exact h
theorem iteNF {A B : Prop} (h : A) : if (!false) = true then A else B := by
  rw [if_pos (by decide)]
  exact h
theorem ifB {b : Bool} {A B : Prop} (h1 : b = true → A) (h2 : b = false → B) : if b = true then A else B := by
  cases b with
  | true => rw [if_pos rfl]; exact h1 rfl
  | false => rw [if_neg Bool.false_ne_true]; exact h2 rfl
theorem pe_ty {X : Cx} {x : Str} {T : String} {pos : Pos} (hg : Gl X x) (hm : X.mg x = none) (hv : bootBuiltins x = some (.type T)) (hn : x ≠ ("__name__" : Str) := by decide) (hd : (x == ("__debug__" : Str)) = false := by decide) : PE X (.Name x pos) (tC (.ty T)) := pe_bltn hg hm hv rfl hn hd
theorem g_all {a : Addr} {bs : List Bool} {b : Bool} (hx : SqL K H a (bs.map V.bl)) (e : bs.all id = b) (q : Q (.bl b) H) : rAll K [.ref a] H Q := ⟨a, bs, rfl, hx, by rw [e]; exact q⟩
theorem g_any {a : Addr} {bs : List Bool} {b : Bool} (hx : SqL K H a (bs.map V.bl)) (e : bs.any id = b) (q : Q (.bl b) H) : rAny K [.ref a] H Q := ⟨a, bs, rfl, hx, by rw [e]; exact q⟩
theorem g_sum {a : Addr} {ns : List Int} {m : Int} (hx : SqL K H a (ns.map V.int)) (e : ns.sum = m) (q : Q (.int m) H) : rSum K [.ref a] H Q := ⟨a, ns, rfl, hx, by rw [e]; exact q⟩
theorem kitA_list : PySem.W.kitAny K (.type "list") [.type "list", .type "tuple"] = some true := kitAny_cons (b := true) (kit_ty (by decide +kernel)) (fun z => by cases z) (fun _ => rfl)
theorem kitA_tup : PySem.W.kitAny K (.type "tuple") [.type "list", .type "tuple"] = some true := kitAny_cons (b := false) (kit_ty (by decide +kernel)) (fun _ => kitAny_cons (b := true) (kit_ty (by decide +kernel)) (fun z => by cases z) (fun _ => rfl)) (fun z => by cases z)
theorem kitA_flat {T : String} (h1 : kitB T "list" = some false) (h2 : kitB T "tuple" = some false) : PySem.W.kitAny K (.type T) [.type "list", .type "tuple"] = some false :=
  kitAny_cons (b := false) (kit_ty h1) (fun _ => kitAny_cons (b := false) (kit_ty h2) (fun _ => rfl) (fun z => by cases z)) (fun z => by cases z)
theorem kitA_int : PySem.W.kitAny K (.type "int") [.type "list", .type "tuple"] = some false := kitA_flat (by decide +kernel) (by decide +kernel)
theorem kitA_str : PySem.W.kitAny K (.type "str") [.type "list", .type "tuple"] = some false := kitA_flat (by decide +kernel) (by decide +kernel)
theorem g_isiT {T : String} {b : Bool} {tp : Addr} (ty : TyX K H x (.type T)) (k : PySem.W.kitAny K (.type T) [.type "list", .type "tuple"] = some b) (ht : H tp = some (.tup [.ty "list", .ty "tuple"])) (q : Q (.bl b) H) : rIsiT K [x, .ref tp] H Q :=
  ⟨x, tp, _, _, _, b, rfl, ht, .cons (.ty _) (.cons (.ty _) .nil), ty, k, q⟩
end
/-! ### comprehensions that only make objects -/
/-- behind i items of xs the list at D holds what h makes of them -/
def PvL {α : Type} (H1 : Hp) (D : Addr) (h : α → Option V) (xs : List α) (i : Nat) (H : Hp) : Prop := Same H1 H ∧ H D = some (.lst ((xs.take i).filterMap h))
section
variable {α : Type} {H H1 H3 H4 : Hp} {D : Addr} {h : α → Option V} {xs : List α} {i : Nat} {x : α} {y : V}
theorem pvl_start (nD : H1 D = none) : PvL H1 D h xs 0 (upd H1 D (.lst [])) := ⟨Same.upd nD, upd_same⟩
theorem take_succ' (hx : xs[i]? = some x) : xs.take (i + 1) = xs.take i ++ [x] := by rw [List.take_add_one, hx]; rfl
theorem pvl_yes (nD : H1 D = none) (p : PvL H1 D h xs i H) (s : Same H H4) (hx : xs[i]? = some x) (e : h x = some y) (hz : xs.length ≤ sizeLine) :
    ∃ acc, H4 D = some (.lst acc) ∧ acc.length < sizeLine ∧ PvL H1 D h xs (i + 1) (upd H4 D (.lst (acc ++ [y]))) := by
  refine ⟨_, s _ _ p.2, ?_, Same.updW (p.1.trans s) nD, ?_⟩
  · have h1 : i < xs.length := (List.getElem?_eq_some_iff.mp hx).1
    have h2 := List.length_filterMap_le h (xs.take i)
    rw [List.length_take] at h2
    omega
  · rw [upd_same, take_succ' hx, List.filterMap_append]
    simp [e]
theorem pvl_no (p : PvL H1 D h xs i H) (s : Same H H3) (hx : xs[i]? = some x) (e : h x = none) : PvL H1 D h xs (i + 1) H3 := by
  refine ⟨p.1.trans s, ?_⟩
  rw [s _ _ p.2, take_succ' hx, List.filterMap_append]
  simp [e]
theorem pvl_end (p : PvL H1 D h xs xs.length H) : Same H1 H ∧ H D = some (.lst (xs.filterMap h)) := by
  have q := p.2
  rw [List.take_length] at q
  exact ⟨p.1, q⟩
end
/-! ### dict comprehensions over a walk -/
section
variable {J : It} {n : Nat} {G : Hp → Prop} {Y : Nat → Hp → V → Hp → Prop}
theorem dc_it (w : Walk J n G Y) {g : TG} {tt : TT} {tk tv : TE} {vs : List Nat} {σ : St} {H1 : Hp} {D : Addr} {Qd : Hp → Prop} (Pv : Nat → Hp → Prop) (h0 : Pv 0 (upd H1 D (.dK []))) (hG : ∀ i H, i ≤ n → Pv i H → G H)
    (hs : ∀ i x H H', i < n → Pv i H → Y i H x H' → g x (wipe σ vs) H' fun σ2 H2 => wipe σ2 vs = wipe σ vs ∧ tt σ2 H2 fun b H3 =>
      if b = true then tk σ2 H3 fun y H4 => tv σ2 H4 fun z H5 => ∃ kvs k, y = kV k ∧ H5 D = some (.dK kvs) ∧ kvs.length < sizeLine ∧ Pv (i + 1) (upd H5 D (.dK (putK kvs k z))) else Pv (i + 1) H3) (hd : ∀ H, Pv n H → Qd H) :
    ∃ W : Nat → Nat → Hp → Prop, (∃ m, W 0 m (upd H1 D (.dK []))) ∧ ∀ i m H, W i m H →
      (J.stop i H ∧ Qd H) ∨ (J.go i H ∧ ∃ Nx : Hp → Prop, (∀ H', Nx H' → ∃ m', m' < m ∧ W (i + 1) m' H') ∧ ∀ x H', J.yld i H x H' → g x (wipe σ vs) H' fun σ2 H2 => wipe σ2 vs = wipe σ vs ∧ tt σ2 H2 fun b H3 =>
        if b = true then tk σ2 H3 fun y H4 => tv σ2 H4 fun z H5 => ∃ kvs k, y = kV k ∧ H5 D = some (.dK kvs) ∧ kvs.length < sizeLine ∧ Nx (upd H5 D (.dK (putK kvs k z))) else Nx H3) := by
  refine ⟨fun i m H => m = n - i ∧ i ≤ n ∧ Pv i H, ⟨n, by simp, Nat.zero_le _, h0⟩, ?_⟩
  rintro i m H ⟨rfl, hi, p⟩
  have q := hG i H hi p
  by_cases hlt : i < n
  · refine .inr ⟨w.goes i H hlt q, Pv (i + 1), fun H' p' => ⟨n - (i + 1), by omega, rfl, hlt, p'⟩, fun x H' y => hs i x H H' hlt p (w.yields i H x H' hlt q y)⟩
  · have e : i = n := by omega
    subst e
    exact .inl ⟨w.stops H q, hd H p⟩
theorem g_dc {σ : St} {H : Hp} {Q : VK} {wi : TI} {g : TG} {tt : TT} {tk tv : TE} {vs : List Nat} (h : wi σ H fun J H1 => ∀ D, H1 D = none → ∃ W : Nat → Nat → Hp → Prop, (∃ m, W 0 m (upd H1 D (.dK []))) ∧ ∀ i m H, W i m H →
  (J.stop i H ∧ Q (.ref D) H) ∨ (J.go i H ∧ ∃ Nx : Hp → Prop, (∀ H', Nx H' → ∃ m', m' < m ∧ W (i + 1) m' H') ∧ ∀ x H', J.yld i H x H' → g x (wipe σ vs) H' fun σ2 H2 => wipe σ2 vs = wipe σ vs ∧ tt σ2 H2 fun b H3 =>
    if b = true then tk σ2 H3 fun y H4 => tv σ2 H4 fun z H5 => ∃ kvs k, y = kV k ∧ H5 D = some (.dK kvs) ∧ kvs.length < sizeLine ∧ Nx (upd H5 D (.dK (putK kvs k z))) else Nx H3)) : tDc wi g tt tk tv vs σ H Q := h
theorem walk_zipT {K : PySem.W.Frag} {a b : Addr} {xs ys : List V} {n : Nat} (hn : n = min xs.length ys.length) : Walk (RZ.ItzT K a b) n (fun H => SqT K H a xs ∧ SqT K H b ys) (YPair (fun i => xs[i]?) (fun i => ys[i]?)) := by
  subst hn
  refine ⟨fun i _ hi q => ?_, fun _ q => ⟨xs, ys, q.1, q.2, by omega⟩, fun i H v H' _ q y => ?_⟩
  · have h1 : i < xs.length := by omega
    have h2 : i < ys.length := by omega
    exact ⟨xs, ys, xs[i], ys[i], q.1, q.2, by simp [h1], by simp [h2]⟩
  · obtain ⟨T, x, z, h1, h2, h3, h4, h5⟩ := y
    exact ⟨T, x, z, h1, h2, h3, h4 xs q.1, h5 ys q.2⟩
/-- behind i turns the dict at D holds the first i pairs -/
def PvD (H1 : Hp) (D : Addr) (ps : List (Key × V)) (i : Nat) (H : Hp) : Prop := Same H1 H ∧ H D = some (.dK (ps.take i))
theorem pvd_start {H1 : Hp} {D : Addr} {ps : List (Key × V)} (nD : H1 D = none) : PvD H1 D ps 0 (upd H1 D (.dK [])) := ⟨Same.upd nD, upd_same⟩
theorem pvd_yes {H1 H H4 : Hp} {D : Addr} {ps : List (Key × V)} {i : Nat} {k : Key} {z : V} (nD : H1 D = none) (p : PvD H1 D ps i H) (s : Same H H4) (hx : ps[i]? = some (k, z)) (hn : (ps.map (·.1)).Nodup) (hz : ps.length ≤ sizeLine) :
    ∃ kvs k', kV k = kV k' ∧ H4 D = some (.dK kvs) ∧ kvs.length < sizeLine ∧ PvD H1 D ps (i + 1) (upd H4 D (.dK (putK kvs k' z))) := by
  have h1 : i < ps.length := (List.getElem?_eq_some_iff.mp hx).1
  refine ⟨_, k, rfl, s _ _ p.2, ?_, Same.updW (p.1.trans s) nD, ?_⟩
  · rw [List.length_take]; omega
  · have hv : valV (ps.take i) k = none := by
      cases e : valV (ps.take i) k with
      | none => rfl
      | some v =>
        exfalso
        have m := valV_in e
        rw [List.map_take] at m
        obtain ⟨j, hj, ej⟩ := List.mem_iff_getElem.mp m
        rw [List.length_take] at hj
        rw [List.getElem_take] at ej
        have e2 : (ps.map (·.1))[i]'(by rw [List.length_map]; exact h1) = k := by
          rw [List.getElem_map]
          rw [List.getElem?_eq_getElem h1] at hx
          rw [Option.some.inj hx]
        have := (List.getElem_inj hn).mp (ej.trans e2.symm)
        omega
    rw [upd_same, putK_new z hv, List.take_add_one, hx]
    rfl
end
section
variable {α : Type} {xs : List α}
theorem fm_map {β : Type} {f : α → β} : xs.filterMap (fun x => some (f x)) = xs.map f := by simp [List.filterMap_eq_map']
end
end Dt
set_option Elab.async false
set_option linter.all false
set_option maxHeartbeats 4000000
/-! Mi: the mirrors: what the defs compute, as plain functions. -/
namespace Dt
open PySem L2
/-! ### lengths, tables, ranks -/
def W7 : List Str := ["say", "up", "down", "swap", "add", "times", "skip"]
def W8 : List Str := ["say", "up", "down", "swap", "add", "times", "skip", "end"]
/-- the name of a word -/
def nameOf (names : List Str) (w : Str) : Str := ((W8.zip names).lookup w).getD Str.empty
def lenW (names : List Str) (w : Str) : Nat := (nameOf names w).length
/-- the length of a program -/
def lenP (names : List Str) (p : List Str) : Nat := (p.map (lenW names)).sum + lenW names "end"
def mNext (names : List Str) (tb : List Nat) : Nat :=
  (((names.take 7).filter fun n => decide (n.length ≤ tb.length)).map fun n => tb.getD (tb.length - n.length) 0).sum + if tb.length = (names.getD 7 Str.empty).length then 1 else 0
def tblN (names : List Str) : Nat → List Nat
  | 0 => []
  | k + 1 => tblN names k ++ [mNext names (tblN names k)]
abbrev Ch := List (Str × Str)
def ways (tb : List Nat) (n x : Str) (L : Nat) : Nat := if x = "end" then (if n.length = L then 1 else 0) else if n.length ≤ L then tb.getD (L - n.length) 0 else 0
def befo (ch : Ch) (w : Str) : Ch := ch.takeWhile fun c => decide (c.2 ≠ w)
def waysSum (tb : List Nat) (L : Nat) (ch : Ch) : Nat := (ch.map fun c => ways tb c.1 c.2 L).sum
def rankF (names : List Str) (ch : Ch) (tb : List Nat) : List Str → Nat
  | [] => 0
  | w :: p => waysSum tb (lenP names (w :: p)) (befo ch w) + rankF names ch tb p
/-- all programs of a length, in their order: fuel is the length -/
def rowsF (ch : Ch) : Nat → Nat → List (List Str)
  | 0, _ => []
  | f + 1, L => ch.flatMap fun c => if c.2 = ("end" : Str) then (if c.1.length = L then [[]] else []) else if c.1.length ≤ L then (rowsF ch f (L - c.1.length)).map (c.2 :: ·) else []
def rows (ch : Ch) (L : Nat) : List (List Str) := rowsF ch (L + 1) L
/-! ### checks -/
inductive Itm where
  | a | n | num (i : Int) | eq | lt | rem | and | or
  deriving DecidableEq
def Itm.s : Itm → Str
  | .a => "a" | .n => "n" | .num i => Str.ofString (toString i) | .eq => "=" | .lt => "<" | .rem => "rem" | .and => "and" | .or => "or"
inductive Bop where
  | eq | lt | rem | and | or
  deriving DecidableEq
def Bop.i : Bop → Itm
  | .eq => .eq | .lt => .lt | .rem => .rem | .and => .and | .or => .or
inductive Ex where
  | a | n | num (i : Int) | bin (o : Bop) (l r : Ex)
def Ex.code : Ex → List Itm
  | .a => [.a] | .n => [.n] | .num i => [.num i] | .bin o l r => l.code ++ r.code ++ [o.i]
def restOf (x y : Int) : Int := if y = 0 then x else x % (if y < 0 then -y else y)
def opV : Bop → V → V → V
  | .eq, .int x, .int y => .bl (decide (x = y))
  | .lt, .int x, .int y => .bl (decide (x < y))
  | .rem, .int x, .int y => .int (restOf x y)
  | .and, .bl x, .bl y => .bl (x && y)
  | .or, .bl x, .bl y => .bl (x || y)
  | _, _, _ => .non
def Ex.val (g : Int) (x : Int) : Ex → V
  | .a => .int x | .n => .int g | .num i => .int i | .bin o l r => opV o (l.val g x) (r.val g x)
/-- true: a truth, false: a number -/
def Ex.ty : Ex → Option Bool
  | .a => some false | .n => some false | .num _ => some false
  | .bin o l r => match o, l.ty, r.ty with
    | .eq, some false, some false => some true
    | .lt, some false, some false => some true
    | .rem, some false, some false => some false
    | .and, some true, some true => some true
    | .or, some true, some true => some true
    | _, _, _ => none
def Ex.depth : Ex → Nat
  | .bin _ l r => Nat.max l.depth r.depth + 1
  | _ => 0
/-! ### runs, trials -/
structure RunS where
  left : Int
  right : Int
  spot : Nat
  fallen : Bool
def boxOk (i : Int) : Bool := decide (-1000000000000000000 ≤ i) && decide (i ≤ 1000000000000000000)
def wordAt (p : List Str) (i : Nat) : Str := p.getD i "end"
def nextSpot (n : Nat) (i : Nat) (b : Bool) : Nat := if b then (i + 2) % (n + 1) else (i + 1) % (n + 1)
def changedF (w : Str) (l r : Int) : Int := if w = "up" then l + 1 else if w = "down" then l - 1 else if w = "add" then l + r else if w = "times" then l * r else l
def adv (p : List Str) (s : RunS) : Option Int × RunS :=
  if s.fallen then (none, s) else
  let w := wordAt p s.spot
  let sp := nextSpot p.length s.spot (decide (w = "skip") && !decide (s.left = 0))
  if w = "say" then (some s.left, { s with spot := sp })
  else if w = "swap" then (none, { left := s.right, right := s.left, spot := sp, fallen := !boxOk s.right })
  else (none, { left := changedF w s.left s.right, right := s.right, spot := sp, fallen := !boxOk (changedF w s.left s.right) })
structure TrS where
  run : RunS
  waits : Nat
  ans : Option Int
def runS0 (g : Int) : RunS := ⟨0, g, 0, false⟩
def trS0 (g : Int) : TrS := ⟨runS0 g, 0, none⟩
/-- a step of a trial: whether the answer is found with it -/
def triedF (p : List Str) (cost : Nat) (right : Int → Bool) (t : TrS) : Bool × TrS :=
  if t.waits = 0 then
    let r := adv p t.run
    (false, ⟨r.2, if r.1 = none then 0 else cost, r.1⟩)
  else (decide (t.waits - 1 = 0) && right (t.ans.getD 0), { t with waits := t.waits - 1 })
/-- the trial behind n steps -/
def trAt (p : List Str) (cost : Nat) (right : Int → Bool) (g : Int) : Nat → TrS
  | 0 => trS0 g
  | n + 1 => (triedF p cost right (trAt p cost right g n)).2
/-- whether the answer is found with step n + 1 -/
def hit (p : List Str) (cost : Nat) (right : Int → Bool) (g : Int) (n : Nat) : Bool := (triedF p cost right (trAt p cost right g n)).1
def optV : Option Int → V
  | none => .non
  | some i => .int i
end Dt
set_option Elab.async false
set_option linter.all false
set_option maxRecDepth 100000
set_option maxHeartbeats 4000000
/-! Tx: the text by places, what the top has left. Printed by mktx.py. -/
namespace Dt
open PySem PySem.Spec L2
abbrev s_is_integer : Stmt := topS 12
abbrev n_is_integer : List Str := ["value"]
theorem sc_is_integer : FnScope n_is_integer ["value"] (C8.fnScope s_is_integer) := C8.fnScope_by (by decide +kernel)
abbrev s_is_within : Stmt := topS 13
abbrev n_is_within : List Str := ["value", "least", "most"]
theorem sc_is_within : FnScope n_is_within ["value", "least", "most"] (C8.fnScope s_is_within) := C8.fnScope_by (by decide +kernel)
abbrev s_is_name : Stmt := topS 14
abbrev n_is_name : List Str := ["value", "sign"]
theorem sc_is_name : FnScope n_is_name ["value"] (C8.fnScope s_is_name) := C8.fnScope_by (by decide +kernel)
abbrev s_need_number : Stmt := topS 15
abbrev n_need_number : List Str := ["value", "part", "least", "most"]
theorem sc_need_number : FnScope n_need_number ["value", "part", "least", "most"] (C8.fnScope s_need_number) := C8.fnScope_by (by decide +kernel)
abbrev s_fixed : Stmt := topS 17
abbrev n_fixed : List Str := ["value", "each"]
theorem sc_fixed : FnScope n_fixed ["value"] (C8.fnScope s_fixed) := C8.fnScope_by (by decide +kernel)
abbrev s_is_apart : Stmt := topS 21
abbrev n_is_apart : List Str := ["names", "told", "one", "other"]
theorem sc_is_apart : FnScope n_is_apart ["names"] (C8.fnScope s_is_apart) := C8.fnScope_by (by decide +kernel)
abbrev s_written : Stmt := topS 26
abbrev n_written : List Str := ["item", "figures", "sign"]
theorem sc_written : FnScope n_written ["item"] (C8.fnScope s_written) := C8.fnScope_by (by decide +kernel)
abbrev s_is_short : Stmt := topS 31
abbrev n_is_short : List Str := ["value"]
theorem sc_is_short : FnScope n_is_short ["value"] (C8.fnScope s_is_short) := C8.fnScope_by (by decide +kernel)
abbrev s_is_program : Stmt := topS 38
abbrev n_is_program : List Str := ["value", "each"]
theorem sc_is_program : FnScope n_is_program ["value"] (C8.fnScope s_is_program) := C8.fnScope_by (by decide +kernel)
abbrev s_length_in : Stmt := topS 39
abbrev n_length_in : List Str := ["tongue", "program", "sizes", "word", "name"]
theorem sc_length_in : FnScope n_length_in ["tongue", "program"] (C8.fnScope s_length_in) := C8.fnScope_by (by decide +kernel)
abbrev s_need_tongue : Stmt := topS 40
abbrev n_need_tongue : List Str := ["value", "part"]
theorem sc_need_tongue : FnScope n_need_tongue ["value", "part"] (C8.fnScope s_need_tongue) := C8.fnScope_by (by decide +kernel)
abbrev s_need_program : Stmt := topS 41
abbrev n_need_program : List Str := ["value", "part"]
theorem sc_need_program : FnScope n_need_program ["value", "part"] (C8.fnScope s_need_program) := C8.fnScope_by (by decide +kernel)
abbrev s_many_next : Stmt := topS 43
abbrev n_many_next : List Str := ["tongue", "table", "ways", "sizes", "length", "size", "name"]
theorem sc_many_next : FnScope n_many_next ["tongue", "table"] (C8.fnScope s_many_next) := C8.fnScope_by (by decide +kernel)
abbrev s_table_of : Stmt := topS 44
abbrev n_table_of : List Str := ["tongue", "most", "table", "_"]
theorem sc_table_of : FnScope n_table_of ["tongue", "most"] (C8.fnScope s_table_of) := C8.fnScope_by (by decide +kernel)
abbrev s_choices_of : Stmt := topS 45
abbrev n_choices_of : List Str := ["tongue"]
theorem sc_choices_of : FnScope n_choices_of ["tongue"] (C8.fnScope s_choices_of) := C8.fnScope_by (by decide +kernel)
abbrev s_ways_of : Stmt := topS 46
abbrev n_ways_of : List Str := ["table", "name", "word", "length"]
theorem sc_ways_of : FnScope n_ways_of ["table", "name", "word", "length"] (C8.fnScope s_ways_of) := C8.fnScope_by (by decide +kernel)
abbrev s_rank_of : Stmt := topS 47
abbrev n_rank_of : List Str := ["tongue", "table", "program", "spot", "choices", "length", "rank", "name", "word"]
theorem sc_rank_of : FnScope n_rank_of ["tongue", "table", "program"] (C8.fnScope s_rank_of) := C8.fnScope_by (by decide +kernel)
abbrev s_ranked : Stmt := topS 48
abbrev n_ranked : List Str := ["tongue", "table", "length", "rank", "choices", "words", "name", "word", "ways"]
theorem sc_ranked : FnScope n_ranked ["tongue", "table", "length", "rank"] (C8.fnScope s_ranked) := C8.fnScope_by (by decide +kernel)
abbrev s_all_of : Stmt := topS 49
abbrev n_all_of : List Str := ["tongue", "length", "each", "choices", "wanted", "rows", "name", "word"]
theorem sc_all_of : FnScope n_all_of ["tongue", "length"] (C8.fnScope s_all_of) := C8.fnScope_by (by decide +kernel)
abbrev s_row_at : Stmt := topS 50
abbrev n_row_at : List Str := ["choices", "rows", "length", "row", "name", "word", "rest"]
theorem sc_row_at : FnScope n_row_at ["choices", "rows", "length"] (C8.fnScope s_row_at) := C8.fnScope_by (by decide +kernel)
abbrev s_kinds_behind : Stmt := topS 60
abbrev n_kinds_behind : List Str := ["kinds", "item", "rest", "taken", "made"]
theorem sc_kinds_behind : FnScope n_kinds_behind ["kinds", "item"] (C8.fnScope s_kinds_behind) := C8.fnScope_by (by decide +kernel)
abbrev s_rest_of : Stmt := topS 61
abbrev n_rest_of : List Str := ["one", "other"]
theorem sc_rest_of : FnScope n_rest_of ["one", "other"] (C8.fnScope s_rest_of) := C8.fnScope_by (by decide +kernel)
abbrev s_made_of : Stmt := topS 62
abbrev n_made_of : List Str := ["item", "below", "top"]
theorem sc_made_of : FnScope n_made_of ["item", "below", "top"] (C8.fnScope s_made_of) := C8.fnScope_by (by decide +kernel)
abbrev s_pile_behind : Stmt := topS 63
abbrev n_pile_behind : List Str := ["pile", "item", "given", "answer"]
theorem sc_pile_behind : FnScope n_pile_behind ["pile", "item", "given", "answer"] (C8.fnScope s_pile_behind) := C8.fnScope_by (by decide +kernel)
abbrev s_piles_along : Stmt := topS 64
abbrev n_piles_along : List Str := ["puzzle", "given", "answer", "item", "found", "pile"]
theorem sc_piles_along : FnScope n_piles_along ["puzzle", "given", "answer"] (C8.fnScope s_piles_along) := C8.fnScope_by (by decide +kernel)
abbrev s_right_for : Stmt := topS 65
abbrev n_right_for : List Str := ["puzzle", "given", "answer"]
theorem sc_right_for : FnScope n_right_for ["puzzle", "given", "answer"] (C8.fnScope s_right_for) := C8.fnScope_by (by decide +kernel)
abbrev s_need_puzzle : Stmt := topS 66
abbrev n_need_puzzle : List Str := ["value", "part"]
theorem sc_need_puzzle : FnScope n_need_puzzle ["value", "part"] (C8.fnScope s_need_puzzle) := C8.fnScope_by (by decide +kernel)
abbrev s_next_spot : Stmt := topS 74
abbrev n_next_spot : List Str := ["program", "spot", "is_passing", "many"]
theorem sc_next_spot : FnScope n_next_spot ["program", "spot", "is_passing"] (C8.fnScope s_next_spot) := C8.fnScope_by (by decide +kernel)
abbrev s_changed : Stmt := topS 75
abbrev n_changed : List Str := ["word", "left", "right"]
theorem sc_changed : FnScope n_changed ["word", "left", "right"] (C8.fnScope s_changed) := C8.fnScope_by (by decide +kernel)
abbrev s_found_in : Stmt := topS 83
abbrev n_found_in : List Str := ["lot", "most", "tick", "trial"]
theorem sc_found_in : FnScope n_found_in ["lot", "most"] (C8.fnScope s_found_in) := C8.fnScope_by (by decide +kernel)
abbrev s_need_given : Stmt := topS 84
abbrev n_need_given : List Str := ["puzzle", "given"]
theorem sc_need_given : FnScope n_need_given ["puzzle", "given"] (C8.fnScope s_need_given) := C8.fnScope_by (by decide +kernel)
abbrev s_find : Stmt := topS 85
abbrev n_find : List Str := ["tongue", "puzzle", "given", "most"]
theorem sc_find : FnScope n_find ["tongue", "puzzle", "given", "most"] (C8.fnScope s_find) := C8.fnScope_by (by decide +kernel)
abbrev s_is_due : Stmt := topS 89
abbrev n_is_due : List Str := ["due", "length"]
theorem sc_is_due : FnScope n_is_due ["due", "length"] (C8.fnScope s_is_due) := C8.fnScope_by (by decide +kernel)
abbrev s_due_by_all : Stmt := topS 90
abbrev n_due_by_all : List Str := ["table", "due", "length", "many"]
theorem sc_due_by_all : FnScope n_due_by_all ["table", "due"] (C8.fnScope s_due_by_all) := C8.fnScope_by (by decide +kernel)
abbrev s_tick_of_due : Stmt := topS 91
abbrev n_tick_of_due : List Str := ["tongue", "table", "program", "due", "length", "longer", "behind", "each", "many"]
theorem sc_tick_of_due : FnScope n_tick_of_due ["tongue", "table", "program", "due"] (C8.fnScope s_tick_of_due) := C8.fnScope_by (by decide +kernel)
abbrev s_search_of : Stmt := topS 92
abbrev n_search_of : List Str := ["tongue", "tick", "table", "low", "high", "middle"]
theorem sc_search_of : FnScope n_search_of ["tongue", "tick"] (C8.fnScope s_search_of) := C8.fnScope_by (by decide +kernel)
abbrev s_tick_in : Stmt := topS 93
abbrev n_tick_in : List Str := ["tongue", "program", "step", "told", "due"]
theorem sc_tick_in : FnScope n_tick_in ["tongue", "program", "step"] (C8.fnScope s_tick_in) := C8.fnScope_by (by decide +kernel)
abbrev s_pair_in : Stmt := topS 94
abbrev n_pair_in : List Str := ["tongue", "tick", "rank", "found", "due", "table", "length", "many"]
theorem sc_pair_in : FnScope n_pair_in ["tongue", "tick"] (C8.fnScope s_pair_in) := C8.fnScope_by (by decide +kernel)
abbrev s_law_mine : Stmt := topS 96
abbrev n_law_mine : List Str := ["_law_script", "_law_cell"]
theorem sc_law_mine : FnScope n_law_mine ["_law_script"] (C8.fnScope s_law_mine) := C8.fnScope_by (by decide +kernel)
abbrev s_law_delve : Stmt := topS 97
abbrev n_law_delve : List Str := ["_law_mine_here", "_law_many", "_law_at", "_law_cell", "_law_mixed", "_law_rest"]
theorem sc_law_delve : FnScope n_law_delve ["_law_mine_here", "_law_many"] (C8.fnScope s_law_delve) := C8.fnScope_by (by decide +kernel)
abbrev s_law_one : Stmt := topS 98
abbrev n_law_one : List Str := ["_law_mine_here", "_law_some"]
theorem sc_law_one : FnScope n_law_one ["_law_mine_here", "_law_some"] (C8.fnScope s_law_one) := C8.fnScope_by (by decide +kernel)
abbrev s_law_names : Stmt := topS 99
abbrev n_law_names : List Str := ["_law_mine_here", "_law_leaves", "_law_word_here", "_law_some", "_law_leaf", "_law_found", "_law_order", "_law_each", "_law_size"]
theorem sc_law_names : FnScope n_law_names ["_law_mine_here"] (C8.fnScope s_law_names) := C8.fnScope_by (by decide +kernel)
abbrev s_law_word : Stmt := topS 100
abbrev n_law_word : List Str := ["_law_told", "_law_boxes", "_law_spot", "_law_words", "_law_word_here", "_law_later", "_law_left", "_law_right"]
theorem sc_law_word : FnScope n_law_word ["_law_told", "_law_boxes", "_law_spot"] (C8.fnScope s_law_word) := C8.fnScope_by (by decide +kernel)
abbrev s_law_part : Stmt := topS 101
abbrev n_law_part : List Str := ["_law_items", "_law_at", "_law_given", "_law_answer", "_law_item", "_law_other", "_law_begun", "_law_one_here"]
theorem sc_law_part : FnScope n_law_part ["_law_items", "_law_at", "_law_given", "_law_answer"] (C8.fnScope s_law_part) := C8.fnScope_by (by decide +kernel)
abbrev s_law_trial : Stmt := topS 102
abbrev n_law_trial : List Str := ["_law_told", "_law_items", "_law_given", "_law_many", "_law_boxes", "_law_spot", "_law_step", "_law_is_down", "_law_value"]
theorem sc_law_trial : FnScope n_law_trial ["_law_told", "_law_items", "_law_given", "_law_many"] (C8.fnScope s_law_trial) := C8.fnScope_by (by decide +kernel)
abbrev s_law_counts : Stmt := topS 104
abbrev n_law_counts : List Str := ["_law_names_here", "_law_most", "_law_found", "_law_length", "_law_lesser", "_law_name"]
theorem sc_law_counts : FnScope n_law_counts ["_law_names_here", "_law_most"] (C8.fnScope s_law_counts) := C8.fnScope_by (by decide +kernel)
abbrev s_law_text : Stmt := topS 105
abbrev n_law_text : List Str := ["_law_names_here", "_law_told", "_law_words", "_law_word_here"]
theorem sc_law_text : FnScope n_law_text ["_law_names_here", "_law_told"] (C8.fnScope s_law_text) := C8.fnScope_by (by decide +kernel)
abbrev s_law_ahead : Stmt := topS 106
abbrev n_law_ahead : List Str := ["_law_names_here", "_law_counts_here", "_law_text_here", "_law_total", "_law_fresh", "_law_name", "_law_left", "_law_many"]
theorem sc_law_ahead : FnScope n_law_ahead ["_law_names_here", "_law_counts_here", "_law_text_here"] (C8.fnScope s_law_ahead) := C8.fnScope_by (by decide +kernel)
abbrev s_law_tick : Stmt := topS 107
abbrev n_law_tick : List Str := ["_law_names_here", "_law_length", "_law_text_here", "_law_due", "_law_counts_here", "_law_ahead_here", "_law_total", "_law_its", "_law_many"]
theorem sc_law_tick : FnScope n_law_tick ["_law_names_here", "_law_length", "_law_text_here", "_law_due"] (C8.fnScope s_law_tick) := C8.fnScope_by (by decide +kernel)
abbrev s_law : Stmt := topS 108
abbrev n_law : List Str := ["_law_script", "_law_mine_here", "_law_items", "_law_most", "_law_told", "_law_text_here", "_law_names_here", "_law_given", "_law_tongue", "_law_value"]
theorem sc_law : FnScope n_law ["_law_script"] (C8.fnScope s_law) := C8.fnScope_by (by decide +kernel)
abbrev s_Paper_init : Stmt := inClass (topS 18) 0
abbrev n_Paper_init : List Str := ["self", "word", "parts"]
theorem sc_Paper_init : FnScope n_Paper_init ["self", "word", "parts"] (C8.fnScope s_Paper_init) := C8.fnScope_by (by decide +kernel)
abbrev s_Paper_eq : Stmt := inClass (topS 18) 2
abbrev n_Paper_eq : List Str := ["self", "other"]
theorem sc_Paper_eq : FnScope n_Paper_eq ["self", "other"] (C8.fnScope s_Paper_eq) := C8.fnScope_by (by decide +kernel)
abbrev s_Scan_init : Stmt := inClass (topS 27) 0
abbrev n_Scan_init : List Str := ["self", "text"]
theorem sc_Scan_init : FnScope n_Scan_init ["self", "text"] (C8.fnScope s_Scan_init) := C8.fnScope_by (by decide +kernel)
abbrev s_Scan_ahead : Stmt := inClass (topS 27) 1
abbrev n_Scan_ahead : List Str := ["self"]
theorem sc_Scan_ahead : FnScope n_Scan_ahead ["self"] (C8.fnScope s_Scan_ahead) := C8.fnScope_by (by decide +kernel)
abbrev s_Scan_take : Stmt := inClass (topS 27) 4
abbrev n_Scan_take : List Str := ["self", "item"]
theorem sc_Scan_take : FnScope n_Scan_take ["self"] (C8.fnScope s_Scan_take) := C8.fnScope_by (by decide +kernel)
abbrev s_Tongue_init : Stmt := inClass (topS 30) 1
abbrev n_Tongue_init : List Str := ["self", "names", "each"]
theorem sc_Tongue_init : FnScope n_Tongue_init ["self", "names"] (C8.fnScope s_Tongue_init) := C8.fnScope_by (by decide +kernel)
abbrev s_Puzzle_init : Stmt := inClass (topS 67) 0
abbrev n_Puzzle_init : List Str := ["self", "text", "scan", "kinds"]
theorem sc_Puzzle_init : FnScope n_Puzzle_init ["self", "text"] (C8.fnScope s_Puzzle_init) := C8.fnScope_by (by decide +kernel)
abbrev s_Run_init : Stmt := inClass (topS 73) 0
abbrev n_Run_init : List Str := ["self", "program", "given", "told"]
theorem sc_Run_init : FnScope n_Run_init ["self", "program", "given"] (C8.fnScope s_Run_init) := C8.fnScope_by (by decide +kernel)
abbrev s_Run_advance : Stmt := inClass (topS 73) 5
abbrev n_Run_advance : List Str := ["self", "word"]
theorem sc_Run_advance : FnScope n_Run_advance ["self"] (C8.fnScope s_Run_advance) := C8.fnScope_by (by decide +kernel)
abbrev s_Found_init : Stmt := inClass (topS 79) 0
abbrev n_Found_init : List Str := ["self", "answer", "program", "step", "tick"]
abbrev s_NotYet_init : Stmt := inClass (topS 80) 0
abbrev n_NotYet_init : List Str := ["self", "tick"]
abbrev s_Trial_init : Stmt := inClass (topS 81) 0
abbrev n_Trial_init : List Str := ["self", "program", "puzzle", "given"]
theorem sc_Trial_init : FnScope n_Trial_init ["self", "program", "puzzle", "given"] (C8.fnScope s_Trial_init) := C8.fnScope_by (by decide +kernel)
abbrev s_Trial_tried : Stmt := inClass (topS 81) 1
abbrev n_Trial_tried : List Str := ["self"]
theorem sc_Trial_tried : FnScope n_Trial_tried ["self"] (C8.fnScope s_Trial_tried) := C8.fnScope_by (by decide +kernel)
abbrev s_Throng_init : Stmt := inClass (topS 82) 0
abbrev n_Throng_init : List Str := ["self", "tongue", "puzzle", "given"]
theorem sc_Throng_init : FnScope n_Throng_init ["self", "tongue", "puzzle", "given"] (C8.fnScope s_Throng_init) := C8.fnScope_by (by decide +kernel)
abbrev s_Throng_fill : Stmt := inClass (topS 82) 1
abbrev n_Throng_fill : List Str := ["self", "length", "lots", "trials", "each", "factor", "trial"]
theorem sc_Throng_fill : FnScope n_Throng_fill ["self"] (C8.fnScope s_Throng_fill) := C8.fnScope_by (by decide +kernel)
abbrev s_Throng_tried : Stmt := inClass (topS 82) 3
abbrev n_Throng_tried : List Str := ["self", "trial"]
theorem sc_Throng_tried : FnScope n_Throng_tried ["self"] (C8.fnScope s_Throng_tried) := C8.fnScope_by (by decide +kernel)
/-- the tuple Tongue.WORDS -/
def tw (K : PySem.W.Frag) : Addr := match PySem.W.findCls K (.ref (He.ga K "Tongue")) (.type "type") "WORDS" with
  | some (.val (.ref a)) => a
  | _ => 0
/-- what the top has left -/
structure TX (w : World) (K : PySem.W.Frag) (mg : Str → Option Value) : Prop where
  d_is_integer : ∃ f fd, C8.Def K mg "is_integer" s_is_integer f fd ∧ Binds K fd ["value"] []
  d_is_within : ∃ f fd, C8.Def K mg "is_within" s_is_within f fd ∧ Binds K fd ["value", "least", "most"] []
  d_is_name : ∃ f fd, C8.Def K mg "is_name" s_is_name f fd ∧ Binds K fd ["value"] []
  d_need_number : ∃ f fd, C8.Def K mg "need_number" s_need_number f fd ∧ Binds K fd ["value", "part", "least", "most"] []
  d_fixed : ∃ f fd, C8.Def K mg "fixed" s_fixed f fd ∧ Binds K fd ["value"] []
  d_is_apart : ∃ f fd, C8.Def K mg "is_apart" s_is_apart f fd ∧ Binds K fd ["names"] []
  d_written : ∃ f fd, C8.Def K mg "written" s_written f fd ∧ Binds K fd ["item"] []
  d_is_short : ∃ f fd, C8.Def K mg "is_short" s_is_short f fd ∧ Binds K fd ["value"] []
  d_is_program : ∃ f fd, C8.Def K mg "is_program" s_is_program f fd ∧ Binds K fd ["value"] []
  d_length_in : ∃ f fd, C8.Def K mg "length_in" s_length_in f fd ∧ Binds K fd ["tongue", "program"] []
  d_need_tongue : ∃ f fd ds, C8.Def K mg "need_tongue" s_need_tongue f fd ∧ Binds K fd ["value", "part"] ds ∧ Vals [V.str "tongue"] ds
  d_need_program : ∃ f fd ds, C8.Def K mg "need_program" s_need_program f fd ∧ Binds K fd ["value", "part"] ds ∧ Vals [V.str "program"] ds
  d_many_next : ∃ f fd, C8.Def K mg "many_next" s_many_next f fd ∧ Binds K fd ["tongue", "table"] []
  d_table_of : ∃ f fd, C8.Def K mg "table_of" s_table_of f fd ∧ Binds K fd ["tongue", "most"] []
  d_choices_of : ∃ f fd, C8.Def K mg "choices_of" s_choices_of f fd ∧ Binds K fd ["tongue"] []
  d_ways_of : ∃ f fd, C8.Def K mg "ways_of" s_ways_of f fd ∧ Binds K fd ["table", "name", "word", "length"] []
  d_rank_of : ∃ f fd, C8.Def K mg "rank_of" s_rank_of f fd ∧ Binds K fd ["tongue", "table", "program"] []
  d_ranked : ∃ f fd, C8.Def K mg "ranked" s_ranked f fd ∧ Binds K fd ["tongue", "table", "length", "rank"] []
  d_all_of : ∃ f fd, C8.Def K mg "all_of" s_all_of f fd ∧ Binds K fd ["tongue", "length"] []
  d_row_at : ∃ f fd, C8.Def K mg "row_at" s_row_at f fd ∧ Binds K fd ["choices", "rows", "length"] []
  d_kinds_behind : ∃ f fd, C8.Def K mg "kinds_behind" s_kinds_behind f fd ∧ Binds K fd ["kinds", "item"] []
  d_rest_of : ∃ f fd, C8.Def K mg "rest_of" s_rest_of f fd ∧ Binds K fd ["one", "other"] []
  d_made_of : ∃ f fd, C8.Def K mg "made_of" s_made_of f fd ∧ Binds K fd ["item", "below", "top"] []
  d_pile_behind : ∃ f fd, C8.Def K mg "pile_behind" s_pile_behind f fd ∧ Binds K fd ["pile", "item", "given", "answer"] []
  d_piles_along : ∃ f fd, C8.Def K mg "piles_along" s_piles_along f fd ∧ Binds K fd ["puzzle", "given", "answer"] []
  d_right_for : ∃ f fd, C8.Def K mg "right_for" s_right_for f fd ∧ Binds K fd ["puzzle", "given", "answer"] []
  d_need_puzzle : ∃ f fd, C8.Def K mg "need_puzzle" s_need_puzzle f fd ∧ Binds K fd ["value", "part"] []
  d_next_spot : ∃ f fd, C8.Def K mg "next_spot" s_next_spot f fd ∧ Binds K fd ["program", "spot", "is_passing"] []
  d_changed : ∃ f fd, C8.Def K mg "changed" s_changed f fd ∧ Binds K fd ["word", "left", "right"] []
  d_found_in : ∃ f fd, C8.Def K mg "found_in" s_found_in f fd ∧ Binds K fd ["lot", "most"] []
  d_need_given : ∃ f fd, C8.Def K mg "need_given" s_need_given f fd ∧ Binds K fd ["puzzle", "given"] []
  d_find : ∃ f fd, C8.Def K mg "find" s_find f fd ∧ Binds K fd ["tongue", "puzzle", "given", "most"] []
  d_is_due : ∃ f fd, C8.Def K mg "is_due" s_is_due f fd ∧ Binds K fd ["due", "length"] []
  d_due_by_all : ∃ f fd, C8.Def K mg "due_by_all" s_due_by_all f fd ∧ Binds K fd ["table", "due"] []
  d_tick_of_due : ∃ f fd, C8.Def K mg "tick_of_due" s_tick_of_due f fd ∧ Binds K fd ["tongue", "table", "program", "due"] []
  d_search_of : ∃ f fd, C8.Def K mg "search_of" s_search_of f fd ∧ Binds K fd ["tongue", "tick"] []
  d_tick_in : ∃ f fd, C8.Def K mg "tick_in" s_tick_in f fd ∧ Binds K fd ["tongue", "program", "step"] []
  d_pair_in : ∃ f fd, C8.Def K mg "pair_in" s_pair_in f fd ∧ Binds K fd ["tongue", "tick"] []
  d_law_mine : ∃ f fd, C8.Def K mg "_law_mine" s_law_mine f fd ∧ Binds K fd ["_law_script"] []
  d_law_delve : ∃ f fd, C8.Def K mg "_law_delve" s_law_delve f fd ∧ Binds K fd ["_law_mine_here", "_law_many"] []
  d_law_one : ∃ f fd, C8.Def K mg "_law_one" s_law_one f fd ∧ Binds K fd ["_law_mine_here", "_law_some"] []
  d_law_names : ∃ f fd, C8.Def K mg "_law_names" s_law_names f fd ∧ Binds K fd ["_law_mine_here"] []
  d_law_word : ∃ f fd, C8.Def K mg "_law_word" s_law_word f fd ∧ Binds K fd ["_law_told", "_law_boxes", "_law_spot"] []
  d_law_part : ∃ f fd, C8.Def K mg "_law_part" s_law_part f fd ∧ Binds K fd ["_law_items", "_law_at", "_law_given", "_law_answer"] []
  d_law_trial : ∃ f fd, C8.Def K mg "_law_trial" s_law_trial f fd ∧ Binds K fd ["_law_told", "_law_items", "_law_given", "_law_many"] []
  d_law_counts : ∃ f fd, C8.Def K mg "_law_counts" s_law_counts f fd ∧ Binds K fd ["_law_names_here", "_law_most"] []
  d_law_text : ∃ f fd, C8.Def K mg "_law_text" s_law_text f fd ∧ Binds K fd ["_law_names_here", "_law_told"] []
  d_law_ahead : ∃ f fd, C8.Def K mg "_law_ahead" s_law_ahead f fd ∧ Binds K fd ["_law_names_here", "_law_counts_here", "_law_text_here"] []
  d_law_tick : ∃ f fd, C8.Def K mg "_law_tick" s_law_tick f fd ∧ Binds K fd ["_law_names_here", "_law_length", "_law_text_here", "_law_due"] []
  d_law : ∃ f fd, C8.Def K mg "law" s_law f fd ∧ Binds K fd ["_law_script"] []
  m_Paper_eq : ∃ f fd, Meth K (He.ga K "Paper") "__eq__" f ∧ C8.Fun K "__eq__" "Paper.__eq__" s_Paper_eq f fd ∧ Binds K fd ["self", "other"] []
  m_Scan_init : ∃ f fd, Meth K (He.ga K "Scan") "__init__" f ∧ C8.Fun K "__init__" "Scan.__init__" s_Scan_init f fd ∧ Binds K fd ["self", "text"] []
  m_Scan_ahead : ∃ f fd, Meth K (He.ga K "Scan") "ahead" f ∧ C8.Fun K "ahead" "Scan.ahead" s_Scan_ahead f fd ∧ Binds K fd ["self"] []
  m_Scan_take : ∃ f fd, Meth K (He.ga K "Scan") "take" f ∧ C8.Fun K "take" "Scan.take" s_Scan_take f fd ∧ Binds K fd ["self"] []
  m_Tongue_init : ∃ f fd, Meth K (He.ga K "Tongue") "__init__" f ∧ C8.Fun K "__init__" "Tongue.__init__" s_Tongue_init f fd ∧ Binds K fd ["self", "names"] []
  m_Puzzle_init : ∃ f fd, Meth K (He.ga K "Puzzle") "__init__" f ∧ C8.Fun K "__init__" "Puzzle.__init__" s_Puzzle_init f fd ∧ Binds K fd ["self", "text"] []
  m_Run_init : ∃ f fd, Meth K (He.ga K "Run") "__init__" f ∧ C8.Fun K "__init__" "Run.__init__" s_Run_init f fd ∧ Binds K fd ["self", "program", "given"] []
  m_Run_advance : ∃ f fd, Meth K (He.ga K "Run") "advance" f ∧ C8.Fun K "advance" "Run.advance" s_Run_advance f fd ∧ Binds K fd ["self"] []
  m_Trial_init : ∃ f fd, Meth K (He.ga K "Trial") "__init__" f ∧ C8.Fun K "__init__" "Trial.__init__" s_Trial_init f fd ∧ Binds K fd ["self", "program", "puzzle", "given"] []
  m_Trial_tried : ∃ f fd, Meth K (He.ga K "Trial") "tried" f ∧ C8.Fun K "tried" "Trial.tried" s_Trial_tried f fd ∧ Binds K fd ["self"] []
  m_Throng_init : ∃ f fd, Meth K (He.ga K "Throng") "__init__" f ∧ C8.Fun K "__init__" "Throng.__init__" s_Throng_init f fd ∧ Binds K fd ["self", "tongue", "puzzle", "given"] []
  m_Throng_fill : ∃ f fd, Meth K (He.ga K "Throng") "fill" f ∧ C8.Fun K "fill" "Throng.fill" s_Throng_fill f fd ∧ Binds K fd ["self"] []
  m_Throng_tried : ∃ f fd, Meth K (He.ga K "Throng") "tried" f ∧ C8.Fun K "tried" "Throng.tried" s_Throng_tried f fd ∧ Binds K fd ["self"] []
  z_isinstance : mg "isinstance" = none
  z_int : mg "int" = none
  z_bool : mg "bool" = none
  z_str : mg "str" = none
  z_len : mg "len" = none
  z_all : mg "all" = none
  z_list : mg "list" = none
  z_tuple : mg "tuple" = none
  z_any : mg "any" = none
  z_sorted : mg "sorted" = none
  z_zip : mg "zip" = none
  z_sum : mg "sum" = none
  z_range : mg "range" = none
  z_enumerate : mg "enumerate" = none
  z_super : mg "super" = none
  z_abs : mg "abs" = none
  g_SIGNS : ∃ u, mg "SIGNS" = some u ∧ RelV (.str "01") u
  g_MOST_SIGNS : ∃ u, mg "MOST_SIGNS" = some u ∧ RelV (.int 60) u
  g_FIGURES : ∃ u, mg "FIGURES" = some u ∧ RelV (.str "0123456789") u
  g_MOST_FIGURES : ∃ u, mg "MOST_FIGURES" = some u ∧ RelV (.int 140) u
  g_MOST_NAME : ∃ u, mg "MOST_NAME" = some u ∧ RelV (.int 8) u
  g_END_programs : ∃ u, mg "END_programs" = some u ∧ RelV (.str "end") u
  g_MOST_WORDS_programs : ∃ u, mg "MOST_WORDS_programs" = some u ∧ RelV (.int 200) u
  g_MOST_ITEMS : ∃ u, mg "MOST_ITEMS" = some u ∧ RelV (.int 40) u
  g_MOST_PILE : ∃ u, mg "MOST_PILE" = some u ∧ RelV (.int 20) u
  g_MOST_NUMBER : ∃ u, mg "MOST_NUMBER" = some u ∧ RelV (.int 1000000000000000000) u
  g_NUMBER : ∃ u, mg "NUMBER" = some u ∧ RelV (.str "number") u
  g_TRUTH : ∃ u, mg "TRUTH" = some u ∧ RelV (.str "truth") u
  g_ANSWER : ∃ u, mg "ANSWER" = some u ∧ RelV (.str "a") u
  g_GIVEN : ∃ u, mg "GIVEN" = some u ∧ RelV (.str "n") u
  g_MOST_BOX : ∃ u, mg "MOST_BOX" = some u ∧ RelV (.int 1000000000000000000) u
  g_END_runs : ∃ u, mg "END_runs" = some u ∧ RelV (.str "end") u
  g_MOST_TICKS : ∃ u, mg "MOST_TICKS" = some u ∧ RelV (.int 20000) u
  g_MOST_STEP : ∃ u, mg "MOST_STEP" = some u ∧ RelV (.int 1000000000000000000000000000000) u
  g_MOST_DUE : ∃ u, mg "MOST_DUE" = some u ∧ RelV (.int 1291124939043454294827959586001505937164852896414611756415329678270323811008420597314822676640068915717951585986373746688) u
  g_SEVEN : ∃ u, mg "SEVEN" = some u ∧ RelV (.ref (He.ga K "SEVEN")) u
  g_DEEDS : ∃ u, mg "DEEDS" = some u ∧ RelV (.ref (He.ga K "DEEDS")) u
  cl_Scan : Cls K (He.ga K "Scan")
  v_Scan : ∃ u, mg "Scan" = some u ∧ RelV (.ref (He.ga K "Scan")) u
  mk_Scan : Mk K (He.ga K "Scan") (He.ma K (He.ga K "Scan") "__init__")
  n_Scan_words : NoAttr K (He.ga K "Scan") "words"
  n_Scan_at : NoAttr K (He.ga K "Scan") "at"
  cl_Tongue : Cls K (He.ga K "Tongue")
  v_Tongue : ∃ u, mg "Tongue" = some u ∧ RelV (.ref (He.ga K "Tongue")) u
  mk_Tongue : Mk K (He.ga K "Tongue") (He.ma K (He.ga K "Tongue") "__init__")
  n_Tongue_names : NoAttr K (He.ga K "Tongue") "names"
  cl_Puzzle : Cls K (He.ga K "Puzzle")
  v_Puzzle : ∃ u, mg "Puzzle" = some u ∧ RelV (.ref (He.ga K "Puzzle")) u
  mk_Puzzle : Mk K (He.ga K "Puzzle") (He.ma K (He.ga K "Puzzle") "__init__")
  n_Puzzle_text : NoAttr K (He.ga K "Puzzle") "text"
  n_Puzzle_check : NoAttr K (He.ga K "Puzzle") "check"
  n_Puzzle_cost : NoAttr K (He.ga K "Puzzle") "cost"
  cl_Run : Cls K (He.ga K "Run")
  v_Run : ∃ u, mg "Run" = some u ∧ RelV (.ref (He.ga K "Run")) u
  mk_Run : Mk K (He.ga K "Run") (He.ma K (He.ga K "Run") "__init__")
  n_Run_program : NoAttr K (He.ga K "Run") "program"
  n_Run_given : NoAttr K (He.ga K "Run") "given"
  n_Run_left : NoAttr K (He.ga K "Run") "left"
  n_Run_right : NoAttr K (He.ga K "Run") "right"
  n_Run_spot : NoAttr K (He.ga K "Run") "spot"
  n_Run_steps : NoAttr K (He.ga K "Run") "steps"
  n_Run_has_fallen : NoAttr K (He.ga K "Run") "has_fallen"
  cl_Found : Cls K (He.ga K "Found")
  v_Found : ∃ u, mg "Found" = some u ∧ RelV (.ref (He.ga K "Found")) u
  mk_Found : Mk K (He.ga K "Found") (He.ma K (He.ga K "Found") "__init__")
  n_Found_word : NoAttr K (He.ga K "Found") "word"
  n_Found_parts : NoAttr K (He.ga K "Found") "parts"
  n_Found_answer : NoAttr K (He.ga K "Found") "answer"
  n_Found_program : NoAttr K (He.ga K "Found") "program"
  n_Found_step : NoAttr K (He.ga K "Found") "step"
  n_Found_tick : NoAttr K (He.ga K "Found") "tick"
  cl_NotYet : Cls K (He.ga K "NotYet")
  v_NotYet : ∃ u, mg "NotYet" = some u ∧ RelV (.ref (He.ga K "NotYet")) u
  mk_NotYet : Mk K (He.ga K "NotYet") (He.ma K (He.ga K "NotYet") "__init__")
  n_NotYet_word : NoAttr K (He.ga K "NotYet") "word"
  n_NotYet_parts : NoAttr K (He.ga K "NotYet") "parts"
  n_NotYet_tick : NoAttr K (He.ga K "NotYet") "tick"
  cl_Trial : Cls K (He.ga K "Trial")
  v_Trial : ∃ u, mg "Trial" = some u ∧ RelV (.ref (He.ga K "Trial")) u
  mk_Trial : Mk K (He.ga K "Trial") (He.ma K (He.ga K "Trial") "__init__")
  n_Trial_program : NoAttr K (He.ga K "Trial") "program"
  n_Trial_puzzle : NoAttr K (He.ga K "Trial") "puzzle"
  n_Trial_running : NoAttr K (He.ga K "Trial") "running"
  n_Trial_steps : NoAttr K (He.ga K "Trial") "steps"
  n_Trial_waits : NoAttr K (He.ga K "Trial") "waits"
  n_Trial_answer : NoAttr K (He.ga K "Trial") "answer"
  cl_Throng : Cls K (He.ga K "Throng")
  v_Throng : ∃ u, mg "Throng" = some u ∧ RelV (.ref (He.ga K "Throng")) u
  mk_Throng : Mk K (He.ga K "Throng") (He.ma K (He.ga K "Throng") "__init__")
  n_Throng_tongue : NoAttr K (He.ga K "Throng") "tongue"
  n_Throng_puzzle : NoAttr K (He.ga K "Throng") "puzzle"
  n_Throng_given : NoAttr K (He.ga K "Throng") "given"
  n_Throng_least : NoAttr K (He.ga K "Throng") "least"
  n_Throng_due : NoAttr K (He.ga K "Throng") "due"
  n_Throng_begun : NoAttr K (He.ga K "Throng") "begun"
  n_Throng_waiting : NoAttr K (He.ga K "Throng") "waiting"
  v_Paper : ∃ u, mg "Paper" = some u ∧ RelV (.ref (He.ga K "Paper")) u
  i_Tongue : C8.InsC K (He.ga K "Tongue")
  i_Puzzle : C8.InsC K (He.ga K "Puzzle")
  i_Found : C8.InsC K (He.ga K "Found")
  i_NotYet : C8.InsC K (He.ga K "NotYet")
  i_NF : PySem.W.kitOne K (.ref (He.ga K "NotYet")) (.ref (He.ga K "Found")) = some false
  i_NP : PySem.W.kitOne K (.ref (He.ga K "NotYet")) (.ref (He.ga K "Paper")) = some true
  seven : ∀ H, SqT K H (He.ga K "SEVEN") ((["say", "up", "down", "swap", "add", "times", "skip"] : List Str).map V.str)
  deeds : ∃ es n, KDict K w (He.ga K "DEEDS") es n
  deed : ∀ t : Str × Str × Str, t ∈ ([("=", "number", "truth"), ("<", "number", "truth"), ("rem", "number", "number"), ("and", "truth", "truth"), ("or", "truth", "truth")] : List (Str × Str × Str)) → ∃ p q, PySem.W.nsIn K (He.ga K "DEEDS") t.1 = some (some (.ref p)) ∧ (∀ H, SqT K H p [.ref q, .str t.2.2]) ∧ ∀ H, SqT K H q [.str t.2.1, .str t.2.1]
  deed_no : ∀ x : Str, x ∉ (["+", "-", "*", "rem", "=", "<", "and", "or", "not"] : List Str) → PySem.W.nsIn K (He.ga K "DEEDS") x = some none
  cr_Tongue : ClX.CRead K (He.ga K "Tongue") (.type "type")
  words_val : ClX.CVal K (He.ga K "Tongue") (.type "type") "WORDS" (.ref (tw K)) (.ref (tw K))
  words : ∀ H, SqT K H (tw K) (W8.map V.str)
end Dt
set_option Elab.async false
set_option linter.all false
set_option maxRecDepth 100000
set_option maxHeartbeats 0
/-! Hd: the head: what the top leaves. Printed by mkhd.py. -/
namespace Dt
open PySem PySem.Spec PyProof.Rows L2
open PySem.W (ksFn fnOf)
/-! ### facts as Bools -/
def tupAB (K : PySem.W.Frag) (a : Addr) (vs : List V) : Bool := match K.lookup a with
  | some ⟨.type c, _, .seq its _, _⟩ => decide (c = "tuple") && (decide (its.size ≤ sizeLine) && He.relAll vs its.toList)
  | _ => false
theorem tupAB_ok {K : PySem.W.Frag} {a : Addr} {vs : List V} (h : tupAB K a vs = true) (H : Hp) : SqT K H a vs := by
  unfold tupAB at h
  cases q : K.lookup a with
  | none =>
    rw [q] at h
    cases h
  | some o =>
    obtain ⟨oc, od, dt, osl⟩ := o
    rw [q] at h
    cases oc with
    | type c =>
      cases dt with
      | seq its n =>
        obtain ⟨h1, h2⟩ := He.ba (show (decide (c = "tuple") && (decide (its.size ≤ sizeLine) && He.relAll vs its.toList)) = true from h)
        obtain ⟨h3, h4⟩ := He.ba h2
        exact .inr ⟨_, its, n, q, congrArg Value.type (of_decide_eq_true h1), rfl, of_decide_eq_true h3, He.relAll_ok h4⟩
      | _ => cases h
    | _ => cases dt <;> cases h
def dpA (K : PySem.W.Frag) (x : Str) : Addr := match PySem.W.nsIn K (He.ga K "DEEDS") x with
  | some (some (.ref p)) => p
  | _ => 0
def dqA (K : PySem.W.Frag) (x : Str) : Addr := match K.lookup (dpA K x) with
  | some ⟨_, _, .seq its _, _⟩ => (match its.toList with
    | .ref q :: _ => q
    | _ => 0)
  | _ => 0
def deedB (K : PySem.W.Frag) (x k m : Str) : Bool := He.eqO (PySem.W.nsIn K (He.ga K "DEEDS") x) (some (some (.ref (dpA K x)))) && (tupAB K (dpA K x) [.ref (dqA K x), .str m] && tupAB K (dqA K x) [.str k, .str k])
theorem deedB_ok {K : PySem.W.Frag} {x k m : Str} (h : deedB K x k m = true) : ∃ p q, PySem.W.nsIn K (He.ga K "DEEDS") x = some (some (.ref p)) ∧ (∀ H, SqT K H p [.ref q, .str m]) ∧ ∀ H, SqT K H q [.str k, .str k] := by
  obtain ⟨h1, h2⟩ := He.ba h
  obtain ⟨h3, h4⟩ := He.ba h2
  exact ⟨_, _, He.eqO_ok h1, tupAB_ok h3, tupAB_ok h4⟩
def keyS (e : DictEntry) : Option Str := match e.key with
  | .str x _ => some x
  | _ => none
def nine : List Str := ["+", "-", "*", "rem", "=", "<", "and", "or", "not"]
def keysB (K : PySem.W.Frag) (a : Addr) (ks : List Str) : Bool := match K.lookup a with
  | some ⟨_, _, .dict es _, _⟩ => decide (es.toList.map keyS = ks.map some)
  | _ => false
theorem keysB_ok {K : PySem.W.Frag} {a : Addr} {ks : List Str} (h : keysB K a ks = true) {x : Str} (hx : x ∉ ks) : PySem.W.nsIn K a x = some none := by
  unfold keysB at h
  cases q : K.lookup a with
  | none =>
    rw [q] at h
    cases h
  | some o =>
    obtain ⟨oc, od, dt, osl⟩ := o
    rw [q] at h
    cases dt with
    | dict es n =>
      have e : es.toList.map keyS = ks.map some := of_decide_eq_true h
      have key : ∀ d ∈ es.toList, ∃ y t, d.key = .str y t ∧ y ∈ ks := by
        intro d hd
        have hm : keyS d ∈ ks.map some := by rw [← e]; exact List.mem_map.mpr ⟨d, hd, rfl⟩
        obtain ⟨y, hy, ey⟩ := List.mem_map.mp hm
        unfold keyS at ey
        cases hk : d.key with
        | str z t =>
          rw [hk] at ey
          cases ey
          exact ⟨y, t, rfl, hy⟩
        | _ =>
          rw [hk] at ey
          cases ey
      unfold PySem.W.nsIn
      rw [q]
      have f1 : es.toList.find? (fun d => d.key.isStr x) = none := by
        rw [List.find?_eq_none]
        intro d hd z
        obtain ⟨y, t, ek, hy⟩ := key d hd
        rw [ek] at z
        have : y = x := by simpa [Value.isStr] using z
        exact hx (this ▸ hy)
      have f2 : es.toList.any (fun d => d.refKey) = false := by
        rw [List.any_eq_false]
        intro d hd
        obtain ⟨y, t, ek, hy⟩ := key d hd
        unfold DictEntry.refKey
        rw [ek]
        exact Bool.false_ne_true
      show (match es.toList.find? (fun d => d.key.isStr x) with
        | some e => some (some e.val)
        | none => if es.toList.any (fun d => d.refKey) = true then none else some none) = some none
      rw [f1, f2]
      rfl
    | _ => cases h
def wvB (K : PySem.W.Frag) : Bool := match PySem.W.findCls K (.ref (He.ga K "Tongue")) (.type "type") "WORDS" with
  | some (.val (.ref _)) => true
  | _ => false
theorem wvB_ok {K : PySem.W.Frag} (h : wvB K = true) : PySem.W.findCls K (.ref (He.ga K "Tongue")) (.type "type") "WORDS" = some (.val (.ref (tw K))) := by
  unfold wvB at h
  unfold tw
  cases q : PySem.W.findCls K (.ref (He.ga K "Tongue")) (.type "type") "WORDS" with
  | none =>
    rw [q] at h
    cases h
  | some r =>
    rw [q] at h
    cases r with
    | val v =>
      cases v with
      | ref a => rfl
      | _ => cases h
    | get => cases h
/-! ### super's facts -/
abbrev FnT : Type := Option (Str × Str × Arguments × FuncBody × Scope × Addr × Addr)
abbrev fnZ (n q : Str) (ps : Arguments) (bd : List Stmt) (sc : Scope) : FnT := some (n, q, ps, FuncBody.stmts bd, sc, mainGlobals, builtinsNs)
def iA (K : PySem.W.Frag) (C : Str) : Addr := He.ma K (He.ga K C) "__init__"
def fnS (K : PySem.W.Frag) (C : Str) : FnT := match K.lookup (iA K C) with
  | some ⟨_, _, .func fd, _⟩ => some (fd.name, fd.qualname, fd.params, fd.body, fd.scope, fd.globals, fd.builtins)
  | _ => none
def oneCell (l : List (Str × Addr)) : Bool := match l with
  | [(x, _)] => decide (x = ("__class__" : Str))
  | _ => false
theorem oneCell_ok {l : List (Str × Addr)} (h : oneCell l = true) : ∃ a, l = [(("__class__" : Str), a)] := by
  match l, h with
  | [(x, a)], z => exact ⟨a, by rw [of_decide_eq_true (show decide (x = ("__class__" : Str)) = true from z)]⟩
def isNoneV (v : Value) : Bool := match v with
  | .none => true
  | _ => false
theorem isNone_ok {v : Value} (h : isNoneV v = true) : v = .none := by
  cases v with
  | none => rfl
  | _ => cases h
def supFnB (K : PySem.W.Frag) (C qual : Str) : Bool := match K.lookup (iA K C) with
  | some ⟨_, _, .func fd, _⟩ => oneCell fd.closure && (isNoneV fd.defaults && PySem.W.codeIn K fd.code qual)
  | _ => false
theorem sup_fn {K : PySem.W.Frag} {C qual : Str} {ps : Arguments} {bd : List Stmt} {sc : Scope} (e : fnS K C = fnZ "__init__" qual ps bd sc) (c : supFnB K C qual = true) :
    ∃ cda cc oc od osl dV kV doc pm an ct, K.lookup (iA K C) = some ⟨oc, od, .func (ksFn "__init__" qual ps bd sc dV kV doc pm an (.ref cda) ct cc), osl⟩ ∧ PySem.W.codeIn K (.ref cda) qual = true ∧ dV = .none := by
  unfold fnS at e
  unfold supFnB at c
  cases q : K.lookup (iA K C) with
  | none =>
    rw [q] at c
    cases c
  | some o =>
    obtain ⟨oc, od, dt, osl⟩ := o
    rw [q] at c e
    cases dt with
    | func fd =>
      obtain ⟨n1, n2, n3, n4, n5, n6, n7, n8, n9, n10, n11, n12, n13, n14, n15⟩ := fd
      have e2 : (some (n1, n2, n3, n4, n5, n6, n15) : FnT) = fnZ "__init__" qual ps bd sc := e
      simp only [fnZ, Option.some.injEq, Prod.mk.injEq] at e2
      obtain ⟨h1, h2, h3, h4, h5, h6, h7⟩ := e2
      subst h1 h2 h3 h4 h5 h6 h7
      obtain ⟨c1, c2⟩ := He.ba c
      obtain ⟨c3, c4⟩ := He.ba c2
      have hcl : ∃ a, n7 = [(("__class__" : Str), a)] := oneCell_ok c1
      obtain ⟨a, rfl⟩ := hcl
      have hdf : n8 = .none := isNone_ok c3
      obtain ⟨cd, hcd⟩ : ∃ cd, n13 = Value.ref cd := by
        have c4' : PySem.W.codeIn K n13 n2 = true := c4
        cases n13 with
        | ref cd => exact ⟨cd, rfl⟩
        | _ => cases c4'
      subst hcd
      exact ⟨cd, a, oc, od, osl, n8, n9, n10, n11, n12, n14, rfl, c4, hdf⟩
    | _ => cases c
def supCodeB (K : PySem.W.Frag) (C file : Str) : Bool := match K.lookup (iA K C) with
  | some ⟨_, _, .func fd, _⟩ => (match fd.code with
    | .ref c => (match K.lookup c with
      | some ⟨_, _, .fields vs, _⟩ => (match (vs[2]? : Option Value) with
        | some (.str f _) => file == f
        | _ => false)
      | _ => false)
    | _ => false)
  | _ => false
theorem sup_code {K : PySem.W.Frag} {C file n q : Str} {ps : Arguments} {bd : List Stmt} {sc : Scope} {oc : Value} {od : Option Addr} {osl : Array (Option Value)} {dV kV doc pm ct : Value} {an : Option Addr} {cda cc : Addr}
    (lk : K.lookup (iA K C) = some ⟨oc, od, .func (ksFn n q ps bd sc dV kV doc pm an (.ref cda) ct cc), osl⟩) (c : supCodeB K C file = true) :
    ∃ ccl cdd vs ccs f tf, K.lookup cda = some ⟨ccl, cdd, .fields vs, ccs⟩ ∧ vs[2]? = some (.str f tf) ∧ (file == f) = true := by
  unfold supCodeB at c
  rw [lk] at c
  have c' : (match K.lookup cda with
      | some ⟨_, _, .fields vs, _⟩ => (match (vs[2]? : Option Value) with
        | some (.str f _) => file == f
        | _ => false)
      | _ => false) = true := c
  cases hk : K.lookup cda with
  | none =>
    rw [hk] at c'
    cases c'
  | some o =>
    obtain ⟨ccl, cdd, dt, ccs⟩ := o
    rw [hk] at c'
    cases dt with
    | fields vs =>
      have c2 : (match (vs[2]? : Option Value) with
        | some (.str f _) => file == f
        | _ => false) = true := c'
      cases hv : vs[2]? with
      | none =>
        rw [hv] at c2
        cases c2
      | some v =>
        rw [hv] at c2
        cases v with
        | str f tf => exact ⟨ccl, cdd, vs, ccs, f, tf, rfl, hv, c2⟩
        | _ => cases c2
    | _ => cases c'
def supCellB (K : PySem.W.Frag) (C : Str) : Bool := match K.lookup (iA K C) with
  | some ⟨_, _, .func fd, _⟩ => (match fd.closure with
    | [(_, a)] => (match K.lookup a with
      | some ⟨_, _, .cell (some (.ref d)), _⟩ => decide (d = He.ga K C)
      | _ => false)
    | _ => false)
  | _ => false
theorem sup_cell {K : PySem.W.Frag} {C n q : Str} {ps : Arguments} {bd : List Stmt} {sc : Scope} {oc : Value} {od : Option Addr} {osl : Array (Option Value)} {dV kV doc pm cdv ct : Value} {an : Option Addr} {cc : Addr}
    (lk : K.lookup (iA K C) = some ⟨oc, od, .func (ksFn n q ps bd sc dV kV doc pm an cdv ct cc), osl⟩) (c : supCellB K C = true) : ∃ cl cld csl, K.lookup cc = some ⟨cl, cld, .cell (some (.ref (He.ga K C))), csl⟩ := by
  unfold supCellB at c
  rw [lk] at c
  have c' : (match K.lookup cc with
      | some ⟨_, _, .cell (some (.ref d)), _⟩ => decide (d = He.ga K C)
      | _ => false) = true := c
  cases hk : K.lookup cc with
  | none =>
    rw [hk] at c'
    cases c'
  | some o =>
    obtain ⟨cl, cld, dt, csl⟩ := o
    rw [hk] at c'
    cases dt with
    | cell v =>
      cases v with
      | none => cases c'
      | some v =>
        cases v with
        | ref d =>
          have e : d = He.ga K C := of_decide_eq_true c'
          exact ⟨cl, cld, csl, by rw [e]⟩
        | _ => cases c'
    | _ => cases c'
def nameB (K : PySem.W.Frag) (C : Str) : Bool := (match K.lookup (He.ga K C) with
  | some ⟨.type t, _, .cls _, sl⟩ => decide (t = "type") && (match (sl[2]? : Option (Option Value)) with
    | some (some (.str n _)) => decide (n = C)
    | _ => false)
  | _ => false) && (match PySem.W.findCls K (.ref (He.ga K C)) (.type "type") "__name__" with
  | some (.get (.builtin g) (.builtin a) (.ref o) (.type t)) => decide (g = "getset_descriptor.__get__") && (decide (a = "type.__name__") && (decide (o = He.ga K C) && decide (t = "type")))
  | _ => false)
/-! ### from the layer's datum to the walk's -/
section
variable {K : PySem.W.Frag} {mg : Str → Option Value} {x qual : Str} {st : Stmt} {dvs : List V} {kws : List (Str × V)} {f : Addr} {fd : FuncData}
theorem fun_of (F : FunD K x qual (C8.fnArgs st) (C8.fnBody st) (C8.fnScope st) dvs kws f fd) : C8.Fun K x qual st f fd := by
  obtain ⟨oc, od, dV, kV, doc, pm, an, cdv, ct, osl, e, lk, hcd, _, _⟩ := F.ex
  exact ⟨oc, od, dV, kV, doc, pm, an, cdv, ct, osl, e, lk, hcd⟩
theorem def_of (F : FunD K x x (C8.fnArgs st) (C8.fnBody st) (C8.fnScope st) dvs kws f fd) (g : mg x = some (.ref f)) : C8.Def K mg x st f fd := ⟨fun_of F, g, F.kp⟩
end
/-! ### the facts by number -/
def fs0 : List (PySem.W.Frag → Bool) := [fun K => (He.Fa.glo "is_integer").ok K,
  fun K => (He.Fa.glo "is_within").ok K,
  fun K => (He.Fa.glo "is_name").ok K,
  fun K => (He.Fa.glo "need_number").ok K,
  fun K => (He.Fa.glo "fixed").ok K,
  fun K => (He.Fa.glo "is_apart").ok K,
  fun K => (He.Fa.glo "written").ok K,
  fun K => (He.Fa.glo "is_short").ok K,
  fun K => (He.Fa.glo "is_program").ok K,
  fun K => (He.Fa.glo "length_in").ok K,
  fun K => (He.Fa.glo "need_tongue").ok K,
  fun K => (He.Fa.glo "need_program").ok K,
  fun K => (He.Fa.glo "many_next").ok K,
  fun K => (He.Fa.glo "table_of").ok K,
  fun K => (He.Fa.glo "choices_of").ok K,
  fun K => (He.Fa.glo "ways_of").ok K,
  fun K => (He.Fa.glo "rank_of").ok K,
  fun K => (He.Fa.glo "ranked").ok K,
  fun K => (He.Fa.glo "all_of").ok K,
  fun K => (He.Fa.glo "row_at").ok K,
  fun K => (He.Fa.glo "kinds_behind").ok K,
  fun K => (He.Fa.glo "rest_of").ok K,
  fun K => (He.Fa.glo "made_of").ok K,
  fun K => (He.Fa.glo "pile_behind").ok K,
  fun K => (He.Fa.glo "piles_along").ok K]
def fs1 : List (PySem.W.Frag → Bool) := [fun K => (He.Fa.glo "right_for").ok K,
  fun K => (He.Fa.glo "need_puzzle").ok K,
  fun K => (He.Fa.glo "next_spot").ok K,
  fun K => (He.Fa.glo "changed").ok K,
  fun K => (He.Fa.glo "found_in").ok K,
  fun K => (He.Fa.glo "need_given").ok K,
  fun K => (He.Fa.glo "find").ok K,
  fun K => (He.Fa.glo "is_due").ok K,
  fun K => (He.Fa.glo "due_by_all").ok K,
  fun K => (He.Fa.glo "tick_of_due").ok K,
  fun K => (He.Fa.glo "search_of").ok K,
  fun K => (He.Fa.glo "tick_in").ok K,
  fun K => (He.Fa.glo "pair_in").ok K,
  fun K => (He.Fa.glo "_law_mine").ok K,
  fun K => (He.Fa.glo "_law_delve").ok K,
  fun K => (He.Fa.glo "_law_one").ok K,
  fun K => (He.Fa.glo "_law_names").ok K,
  fun K => (He.Fa.glo "_law_word").ok K,
  fun K => (He.Fa.glo "_law_part").ok K,
  fun K => (He.Fa.glo "_law_trial").ok K,
  fun K => (He.Fa.glo "_law_counts").ok K,
  fun K => (He.Fa.glo "_law_text").ok K,
  fun K => (He.Fa.glo "_law_ahead").ok K,
  fun K => (He.Fa.glo "_law_tick").ok K,
  fun K => (He.Fa.glo "law").ok K]
def fs2 : List (PySem.W.Frag → Bool) := [fun K => (He.Fa.meth "Paper" "__eq__").ok K,
  fun K => (He.Fa.meth "Scan" "__init__").ok K,
  fun K => (He.Fa.meth "Scan" "ahead").ok K,
  fun K => (He.Fa.meth "Scan" "take").ok K,
  fun K => (He.Fa.meth "Tongue" "__init__").ok K,
  fun K => (He.Fa.meth "Puzzle" "__init__").ok K,
  fun K => (He.Fa.meth "Run" "__init__").ok K,
  fun K => (He.Fa.meth "Run" "advance").ok K,
  fun K => (He.Fa.meth "Trial" "__init__").ok K,
  fun K => (He.Fa.meth "Trial" "tried").ok K,
  fun K => (He.Fa.meth "Throng" "__init__").ok K,
  fun K => (He.Fa.meth "Throng" "fill").ok K,
  fun K => (He.Fa.meth "Throng" "tried").ok K,
  fun K => (He.Fa.free "isinstance").ok K,
  fun K => (He.Fa.free "int").ok K,
  fun K => (He.Fa.free "bool").ok K,
  fun K => (He.Fa.free "str").ok K,
  fun K => (He.Fa.free "len").ok K,
  fun K => (He.Fa.free "all").ok K,
  fun K => (He.Fa.free "list").ok K,
  fun K => (He.Fa.free "tuple").ok K,
  fun K => (He.Fa.free "any").ok K,
  fun K => (He.Fa.free "sorted").ok K,
  fun K => (He.Fa.free "zip").ok K,
  fun K => (He.Fa.free "sum").ok K]
def fs3 : List (PySem.W.Frag → Bool) := [fun K => (He.Fa.free "range").ok K,
  fun K => (He.Fa.free "enumerate").ok K,
  fun K => (He.Fa.free "super").ok K,
  fun K => (He.Fa.free "abs").ok K,
  fun K => (He.Fa.str "SIGNS" "01").ok K,
  fun K => (He.Fa.int "MOST_SIGNS" 60).ok K,
  fun K => (He.Fa.str "FIGURES" "0123456789").ok K,
  fun K => (He.Fa.int "MOST_FIGURES" 140).ok K,
  fun K => (He.Fa.int "MOST_NAME" 8).ok K,
  fun K => (He.Fa.str "END_programs" "end").ok K,
  fun K => (He.Fa.int "MOST_WORDS_programs" 200).ok K,
  fun K => (He.Fa.int "MOST_ITEMS" 40).ok K,
  fun K => (He.Fa.int "MOST_PILE" 20).ok K,
  fun K => (He.Fa.int "MOST_NUMBER" 1000000000000000000).ok K,
  fun K => (He.Fa.str "NUMBER" "number").ok K,
  fun K => (He.Fa.str "TRUTH" "truth").ok K,
  fun K => (He.Fa.str "ANSWER" "a").ok K,
  fun K => (He.Fa.str "GIVEN" "n").ok K,
  fun K => (He.Fa.int "MOST_BOX" 1000000000000000000).ok K,
  fun K => (He.Fa.str "END_runs" "end").ok K,
  fun K => (He.Fa.int "MOST_TICKS" 20000).ok K,
  fun K => (He.Fa.int "MOST_STEP" 1000000000000000000000000000000).ok K,
  fun K => (He.Fa.int "MOST_DUE" 1291124939043454294827959586001505937164852896414611756415329678270323811008420597314822676640068915717951585986373746688).ok K,
  fun K => (He.Fa.glo "SEVEN").ok K,
  fun K => (He.Fa.glo "DEEDS").ok K]
def fs4 : List (PySem.W.Frag → Bool) := [fun K => (He.Fa.cls "Scan").ok K,
  fun K => (He.Fa.glo "Scan").ok K,
  fun K => (He.Fa.mkr "Scan").ok K,
  fun K => (He.Fa.noat "Scan" "words").ok K,
  fun K => (He.Fa.noat "Scan" "at").ok K,
  fun K => (He.Fa.cls "Tongue").ok K,
  fun K => (He.Fa.glo "Tongue").ok K,
  fun K => (He.Fa.mkr "Tongue").ok K,
  fun K => (He.Fa.noat "Tongue" "names").ok K,
  fun K => (He.Fa.cls "Puzzle").ok K,
  fun K => (He.Fa.glo "Puzzle").ok K,
  fun K => (He.Fa.mkr "Puzzle").ok K,
  fun K => (He.Fa.noat "Puzzle" "text").ok K,
  fun K => (He.Fa.noat "Puzzle" "check").ok K,
  fun K => (He.Fa.noat "Puzzle" "cost").ok K,
  fun K => (He.Fa.cls "Run").ok K,
  fun K => (He.Fa.glo "Run").ok K,
  fun K => (He.Fa.mkr "Run").ok K,
  fun K => (He.Fa.noat "Run" "program").ok K,
  fun K => (He.Fa.noat "Run" "given").ok K,
  fun K => (He.Fa.noat "Run" "left").ok K,
  fun K => (He.Fa.noat "Run" "right").ok K,
  fun K => (He.Fa.noat "Run" "spot").ok K,
  fun K => (He.Fa.noat "Run" "steps").ok K,
  fun K => (He.Fa.noat "Run" "has_fallen").ok K]
def fs5 : List (PySem.W.Frag → Bool) := [fun K => (He.Fa.cls "Found").ok K,
  fun K => (He.Fa.glo "Found").ok K,
  fun K => (He.Fa.mkr "Found").ok K,
  fun K => (He.Fa.noat "Found" "word").ok K,
  fun K => (He.Fa.noat "Found" "parts").ok K,
  fun K => (He.Fa.noat "Found" "answer").ok K,
  fun K => (He.Fa.noat "Found" "program").ok K,
  fun K => (He.Fa.noat "Found" "step").ok K,
  fun K => (He.Fa.noat "Found" "tick").ok K,
  fun K => (He.Fa.cls "NotYet").ok K,
  fun K => (He.Fa.glo "NotYet").ok K,
  fun K => (He.Fa.mkr "NotYet").ok K,
  fun K => (He.Fa.noat "NotYet" "word").ok K,
  fun K => (He.Fa.noat "NotYet" "parts").ok K,
  fun K => (He.Fa.noat "NotYet" "tick").ok K,
  fun K => (He.Fa.cls "Trial").ok K,
  fun K => (He.Fa.glo "Trial").ok K,
  fun K => (He.Fa.mkr "Trial").ok K,
  fun K => (He.Fa.noat "Trial" "program").ok K,
  fun K => (He.Fa.noat "Trial" "puzzle").ok K,
  fun K => (He.Fa.noat "Trial" "running").ok K,
  fun K => (He.Fa.noat "Trial" "steps").ok K,
  fun K => (He.Fa.noat "Trial" "waits").ok K,
  fun K => (He.Fa.noat "Trial" "answer").ok K,
  fun K => (He.Fa.cls "Throng").ok K]
def fs6 : List (PySem.W.Frag → Bool) := [fun K => (He.Fa.glo "Throng").ok K,
  fun K => (He.Fa.mkr "Throng").ok K,
  fun K => (He.Fa.noat "Throng" "tongue").ok K,
  fun K => (He.Fa.noat "Throng" "puzzle").ok K,
  fun K => (He.Fa.noat "Throng" "given").ok K,
  fun K => (He.Fa.noat "Throng" "least").ok K,
  fun K => (He.Fa.noat "Throng" "due").ok K,
  fun K => (He.Fa.noat "Throng" "begun").ok K,
  fun K => (He.Fa.noat "Throng" "waiting").ok K,
  fun K => (He.Fa.glo "Paper").ok K,
  fun K => He.eqO (PySem.W.specialIn K (.builtin "object.__class__") "__get__") (some (some (.builtin "getset_descriptor.__get__"))),
  fun K => decide (PySem.W.takesIn K (.builtin "object.__class__") = some true),
  fun K => He.eqO (PySem.W.findIn K (.ref (He.ga K "Tongue")) "__class__") (some (some (.builtin "object.__class__"))),
  fun K => decide (PySem.W.mroIn K (He.ga K "Tongue") (.type "object") = some true),
  fun K => decide (PySem.W.kitOne K (.ref (He.ga K "Tongue")) (.ref (He.ga K "Tongue")) = some true),
  fun K => He.eqO (PySem.W.findIn K (.ref (He.ga K "Puzzle")) "__class__") (some (some (.builtin "object.__class__"))),
  fun K => decide (PySem.W.mroIn K (He.ga K "Puzzle") (.type "object") = some true),
  fun K => decide (PySem.W.kitOne K (.ref (He.ga K "Puzzle")) (.ref (He.ga K "Puzzle")) = some true),
  fun K => He.eqO (PySem.W.findIn K (.ref (He.ga K "Found")) "__class__") (some (some (.builtin "object.__class__"))),
  fun K => decide (PySem.W.mroIn K (He.ga K "Found") (.type "object") = some true),
  fun K => decide (PySem.W.kitOne K (.ref (He.ga K "Found")) (.ref (He.ga K "Found")) = some true),
  fun K => He.eqO (PySem.W.findIn K (.ref (He.ga K "NotYet")) "__class__") (some (some (.builtin "object.__class__"))),
  fun K => decide (PySem.W.mroIn K (He.ga K "NotYet") (.type "object") = some true),
  fun K => decide (PySem.W.kitOne K (.ref (He.ga K "NotYet")) (.ref (He.ga K "NotYet")) = some true),
  fun K => decide (PySem.W.kitOne K (.ref (He.ga K "NotYet")) (.ref (He.ga K "Found")) = some false)]
def fs7 : List (PySem.W.Frag → Bool) := [fun K => decide (PySem.W.kitOne K (.ref (He.ga K "NotYet")) (.ref (He.ga K "Paper")) = some true),
  fun K => tupAB K (He.ga K "SEVEN") [.str "say", .str "up", .str "down", .str "swap", .str "add", .str "times", .str "skip"],
  fun K => deedB K "=" "number" "truth",
  fun K => deedB K "<" "number" "truth",
  fun K => deedB K "rem" "number" "number",
  fun K => deedB K "and" "truth" "truth",
  fun K => deedB K "or" "truth" "truth",
  fun K => keysB K (He.ga K "DEEDS") nine,
  fun K => PySem.W.readsIn K (He.ga K "Tongue") (.type "type"),
  fun K => He.eqO (PySem.W.specialIn K (.ref (He.ga K "Tongue")) "__getattribute__") (some (some (.builtin "type.__getattribute__"))),
  fun K => wvB K,
  fun K => tupAB K (tw K) [.str "say", .str "up", .str "down", .str "swap", .str "add", .str "times", .str "skip", .str "end"],
  fun K => (He.Fa.code ("Paper", some "__init__") "Paper.__init__").ok K,
  fun K => supFnB K "Found" "Found.__init__",
  fun K => supCodeB K "Found" PySem.Challenge.pw_duetickers_k52_whole_ticks_far_ahead.main.file,
  fun K => supCellB K "Found",
  fun K => (PySem.W.clsIn K (He.ga K "Found")).isSome,
  fun K => decide (PySem.W.mroIn K (He.ga K "Found") (.ref (He.ga K "Found")) = some true),
  fun K => He.eqO (PySem.W.nsIn K cStatics "thirdparty.any") (some none),
  fun K => He.eqO (PySem.W.ks_superIn K (He.ga K "Found") (He.ga K "Found") "__init__") (some (some (.ref (He.ma K (He.ga K "Paper") "__init__")))),
  fun K => decide (PySem.W.typeIn K (.ref (He.ma K (He.ga K "Paper") "__init__")) = some (.type "function")),
  fun K => PySem.W.fnIn K (He.ma K (He.ga K "Paper") "__init__"),
  fun K => supFnB K "NotYet" "NotYet.__init__",
  fun K => supCodeB K "NotYet" PySem.Challenge.pw_duetickers_k52_whole_ticks_far_ahead.main.file,
  fun K => supCellB K "NotYet"]
def fs8 : List (PySem.W.Frag → Bool) := [fun K => (PySem.W.clsIn K (He.ga K "NotYet")).isSome,
  fun K => decide (PySem.W.mroIn K (He.ga K "NotYet") (.ref (He.ga K "NotYet")) = some true),
  fun K => He.eqO (PySem.W.ks_superIn K (He.ga K "NotYet") (He.ga K "NotYet") "__init__") (some (some (.ref (He.ma K (He.ga K "Paper") "__init__")))),
  fun K => He.eqO (PySem.W.findIn K (.ref (He.ga K "NotYet")) "__eq__") (some (some (.ref (He.ma K (He.ga K "NotYet") "__eq__")))),
  fun K => PySem.W.isFn K (.ref (He.ma K (He.ga K "NotYet") "__eq__")),
  fun K => PySem.W.isClsIn K (He.ga K "NotYet"),
  fun K => PySem.W.plainGet K (He.ga K "NotYet") "__class__",
  fun K => PySem.W.readsIn K (He.ga K "NotYet") (.type "type"),
  fun K => nameB K "NotYet"]
def fs : List (PySem.W.Frag → Bool) := fs0 ++ fs1 ++ fs2 ++ fs3 ++ fs4 ++ fs5 ++ fs6 ++ fs7 ++ fs8
def dn0 : List He.DefD := [⟨("is_integer", none), "is_integer", "is_integer", C8.fnArgs s_is_integer, C8.fnBody s_is_integer, C8.fnScope s_is_integer, [], []⟩,
  ⟨("is_within", none), "is_within", "is_within", C8.fnArgs s_is_within, C8.fnBody s_is_within, C8.fnScope s_is_within, [], []⟩,
  ⟨("is_name", none), "is_name", "is_name", C8.fnArgs s_is_name, C8.fnBody s_is_name, C8.fnScope s_is_name, [], []⟩,
  ⟨("need_number", none), "need_number", "need_number", C8.fnArgs s_need_number, C8.fnBody s_need_number, C8.fnScope s_need_number, [], []⟩,
  ⟨("fixed", none), "fixed", "fixed", C8.fnArgs s_fixed, C8.fnBody s_fixed, C8.fnScope s_fixed, [], []⟩,
  ⟨("is_apart", none), "is_apart", "is_apart", C8.fnArgs s_is_apart, C8.fnBody s_is_apart, C8.fnScope s_is_apart, [], []⟩,
  ⟨("written", none), "written", "written", C8.fnArgs s_written, C8.fnBody s_written, C8.fnScope s_written, [], []⟩,
  ⟨("is_short", none), "is_short", "is_short", C8.fnArgs s_is_short, C8.fnBody s_is_short, C8.fnScope s_is_short, [], []⟩,
  ⟨("is_program", none), "is_program", "is_program", C8.fnArgs s_is_program, C8.fnBody s_is_program, C8.fnScope s_is_program, [], []⟩,
  ⟨("length_in", none), "length_in", "length_in", C8.fnArgs s_length_in, C8.fnBody s_length_in, C8.fnScope s_length_in, [], []⟩,
  ⟨("need_tongue", none), "need_tongue", "need_tongue", C8.fnArgs s_need_tongue, C8.fnBody s_need_tongue, C8.fnScope s_need_tongue, [.str "tongue"], []⟩,
  ⟨("need_program", none), "need_program", "need_program", C8.fnArgs s_need_program, C8.fnBody s_need_program, C8.fnScope s_need_program, [.str "program"], []⟩,
  ⟨("many_next", none), "many_next", "many_next", C8.fnArgs s_many_next, C8.fnBody s_many_next, C8.fnScope s_many_next, [], []⟩,
  ⟨("table_of", none), "table_of", "table_of", C8.fnArgs s_table_of, C8.fnBody s_table_of, C8.fnScope s_table_of, [], []⟩,
  ⟨("choices_of", none), "choices_of", "choices_of", C8.fnArgs s_choices_of, C8.fnBody s_choices_of, C8.fnScope s_choices_of, [], []⟩,
  ⟨("ways_of", none), "ways_of", "ways_of", C8.fnArgs s_ways_of, C8.fnBody s_ways_of, C8.fnScope s_ways_of, [], []⟩,
  ⟨("rank_of", none), "rank_of", "rank_of", C8.fnArgs s_rank_of, C8.fnBody s_rank_of, C8.fnScope s_rank_of, [], []⟩,
  ⟨("ranked", none), "ranked", "ranked", C8.fnArgs s_ranked, C8.fnBody s_ranked, C8.fnScope s_ranked, [], []⟩,
  ⟨("all_of", none), "all_of", "all_of", C8.fnArgs s_all_of, C8.fnBody s_all_of, C8.fnScope s_all_of, [], []⟩,
  ⟨("row_at", none), "row_at", "row_at", C8.fnArgs s_row_at, C8.fnBody s_row_at, C8.fnScope s_row_at, [], []⟩,
  ⟨("kinds_behind", none), "kinds_behind", "kinds_behind", C8.fnArgs s_kinds_behind, C8.fnBody s_kinds_behind, C8.fnScope s_kinds_behind, [], []⟩,
  ⟨("rest_of", none), "rest_of", "rest_of", C8.fnArgs s_rest_of, C8.fnBody s_rest_of, C8.fnScope s_rest_of, [], []⟩,
  ⟨("made_of", none), "made_of", "made_of", C8.fnArgs s_made_of, C8.fnBody s_made_of, C8.fnScope s_made_of, [], []⟩,
  ⟨("pile_behind", none), "pile_behind", "pile_behind", C8.fnArgs s_pile_behind, C8.fnBody s_pile_behind, C8.fnScope s_pile_behind, [], []⟩,
  ⟨("piles_along", none), "piles_along", "piles_along", C8.fnArgs s_piles_along, C8.fnBody s_piles_along, C8.fnScope s_piles_along, [], []⟩]
def dn1 : List He.DefD := [⟨("right_for", none), "right_for", "right_for", C8.fnArgs s_right_for, C8.fnBody s_right_for, C8.fnScope s_right_for, [], []⟩,
  ⟨("need_puzzle", none), "need_puzzle", "need_puzzle", C8.fnArgs s_need_puzzle, C8.fnBody s_need_puzzle, C8.fnScope s_need_puzzle, [.str "puzzle"], []⟩,
  ⟨("next_spot", none), "next_spot", "next_spot", C8.fnArgs s_next_spot, C8.fnBody s_next_spot, C8.fnScope s_next_spot, [], []⟩,
  ⟨("changed", none), "changed", "changed", C8.fnArgs s_changed, C8.fnBody s_changed, C8.fnScope s_changed, [], []⟩,
  ⟨("found_in", none), "found_in", "found_in", C8.fnArgs s_found_in, C8.fnBody s_found_in, C8.fnScope s_found_in, [], []⟩,
  ⟨("need_given", none), "need_given", "need_given", C8.fnArgs s_need_given, C8.fnBody s_need_given, C8.fnScope s_need_given, [], []⟩,
  ⟨("find", none), "find", "find", C8.fnArgs s_find, C8.fnBody s_find, C8.fnScope s_find, [], []⟩,
  ⟨("is_due", none), "is_due", "is_due", C8.fnArgs s_is_due, C8.fnBody s_is_due, C8.fnScope s_is_due, [], []⟩,
  ⟨("due_by_all", none), "due_by_all", "due_by_all", C8.fnArgs s_due_by_all, C8.fnBody s_due_by_all, C8.fnScope s_due_by_all, [], []⟩,
  ⟨("tick_of_due", none), "tick_of_due", "tick_of_due", C8.fnArgs s_tick_of_due, C8.fnBody s_tick_of_due, C8.fnScope s_tick_of_due, [], []⟩,
  ⟨("search_of", none), "search_of", "search_of", C8.fnArgs s_search_of, C8.fnBody s_search_of, C8.fnScope s_search_of, [], []⟩,
  ⟨("tick_in", none), "tick_in", "tick_in", C8.fnArgs s_tick_in, C8.fnBody s_tick_in, C8.fnScope s_tick_in, [], []⟩,
  ⟨("pair_in", none), "pair_in", "pair_in", C8.fnArgs s_pair_in, C8.fnBody s_pair_in, C8.fnScope s_pair_in, [], []⟩,
  ⟨("_law_mine", none), "_law_mine", "_law_mine", C8.fnArgs s_law_mine, C8.fnBody s_law_mine, C8.fnScope s_law_mine, [], []⟩,
  ⟨("_law_delve", none), "_law_delve", "_law_delve", C8.fnArgs s_law_delve, C8.fnBody s_law_delve, C8.fnScope s_law_delve, [], []⟩,
  ⟨("_law_one", none), "_law_one", "_law_one", C8.fnArgs s_law_one, C8.fnBody s_law_one, C8.fnScope s_law_one, [], []⟩,
  ⟨("_law_names", none), "_law_names", "_law_names", C8.fnArgs s_law_names, C8.fnBody s_law_names, C8.fnScope s_law_names, [], []⟩,
  ⟨("_law_word", none), "_law_word", "_law_word", C8.fnArgs s_law_word, C8.fnBody s_law_word, C8.fnScope s_law_word, [], []⟩,
  ⟨("_law_part", none), "_law_part", "_law_part", C8.fnArgs s_law_part, C8.fnBody s_law_part, C8.fnScope s_law_part, [], []⟩,
  ⟨("_law_trial", none), "_law_trial", "_law_trial", C8.fnArgs s_law_trial, C8.fnBody s_law_trial, C8.fnScope s_law_trial, [], []⟩,
  ⟨("_law_counts", none), "_law_counts", "_law_counts", C8.fnArgs s_law_counts, C8.fnBody s_law_counts, C8.fnScope s_law_counts, [], []⟩,
  ⟨("_law_text", none), "_law_text", "_law_text", C8.fnArgs s_law_text, C8.fnBody s_law_text, C8.fnScope s_law_text, [], []⟩,
  ⟨("_law_ahead", none), "_law_ahead", "_law_ahead", C8.fnArgs s_law_ahead, C8.fnBody s_law_ahead, C8.fnScope s_law_ahead, [], []⟩,
  ⟨("_law_tick", none), "_law_tick", "_law_tick", C8.fnArgs s_law_tick, C8.fnBody s_law_tick, C8.fnScope s_law_tick, [], []⟩,
  ⟨("law", none), "law", "law", C8.fnArgs s_law, C8.fnBody s_law, C8.fnScope s_law, [], []⟩]
def dn2 : List He.DefD := [⟨("Paper", some "__eq__"), "__eq__", "Paper.__eq__", C8.fnArgs s_Paper_eq, C8.fnBody s_Paper_eq, C8.fnScope s_Paper_eq, [], []⟩,
  ⟨("Scan", some "__init__"), "__init__", "Scan.__init__", C8.fnArgs s_Scan_init, C8.fnBody s_Scan_init, C8.fnScope s_Scan_init, [], []⟩,
  ⟨("Scan", some "ahead"), "ahead", "Scan.ahead", C8.fnArgs s_Scan_ahead, C8.fnBody s_Scan_ahead, C8.fnScope s_Scan_ahead, [], []⟩,
  ⟨("Scan", some "take"), "take", "Scan.take", C8.fnArgs s_Scan_take, C8.fnBody s_Scan_take, C8.fnScope s_Scan_take, [], []⟩,
  ⟨("Tongue", some "__init__"), "__init__", "Tongue.__init__", C8.fnArgs s_Tongue_init, C8.fnBody s_Tongue_init, C8.fnScope s_Tongue_init, [], []⟩,
  ⟨("Puzzle", some "__init__"), "__init__", "Puzzle.__init__", C8.fnArgs s_Puzzle_init, C8.fnBody s_Puzzle_init, C8.fnScope s_Puzzle_init, [], []⟩,
  ⟨("Run", some "__init__"), "__init__", "Run.__init__", C8.fnArgs s_Run_init, C8.fnBody s_Run_init, C8.fnScope s_Run_init, [], []⟩,
  ⟨("Run", some "advance"), "advance", "Run.advance", C8.fnArgs s_Run_advance, C8.fnBody s_Run_advance, C8.fnScope s_Run_advance, [], []⟩,
  ⟨("Trial", some "__init__"), "__init__", "Trial.__init__", C8.fnArgs s_Trial_init, C8.fnBody s_Trial_init, C8.fnScope s_Trial_init, [], []⟩,
  ⟨("Trial", some "tried"), "tried", "Trial.tried", C8.fnArgs s_Trial_tried, C8.fnBody s_Trial_tried, C8.fnScope s_Trial_tried, [], []⟩,
  ⟨("Throng", some "__init__"), "__init__", "Throng.__init__", C8.fnArgs s_Throng_init, C8.fnBody s_Throng_init, C8.fnScope s_Throng_init, [], []⟩,
  ⟨("Throng", some "fill"), "fill", "Throng.fill", C8.fnArgs s_Throng_fill, C8.fnBody s_Throng_fill, C8.fnScope s_Throng_fill, [], []⟩,
  ⟨("Throng", some "tried"), "tried", "Throng.tried", C8.fnArgs s_Throng_tried, C8.fnBody s_Throng_tried, C8.fnScope s_Throng_tried, [], []⟩,
  ⟨("NotYet", some "__eq__"), "__eq__", "Paper.__eq__", C8.fnArgs s_Paper_eq, C8.fnBody s_Paper_eq, C8.fnScope s_Paper_eq, [], []⟩]
def dn : List He.DefD := dn0 ++ dn1 ++ dn2
def pd : He.FnD := ⟨("Paper", some "__init__"), "__init__", "Paper.__init__", C8.fnArgs s_Paper_init, C8.fnBody s_Paper_init, C8.fnScope s_Paper_init⟩
def names0 : List PySem.Str := ["_wall", "TickError", "BadNumber", "BadTongue", "BadProgram", "BadPuzzle", "TooMany", "BadText", "SIGNS", "MOST_SIGNS", "is_integer", "is_within", "is_name", "need_number", "fixed", "Paper", "Denial", "is_apart", "BAR", "FIGURES", "MOST_FIGURES", "written", "Scan", "MOST_NAME", "Tongue", "is_short", "take_names", "WORDS", "SEVEN", "END_programs"]
def names1 : List PySem.Str := ["MOST_WORDS_programs", "is_program", "length_in", "need_tongue", "need_program", "many_next", "table_of", "choices_of", "ways_of", "rank_of", "ranked", "all_of", "row_at", "MOST_ITEMS", "MOST_PILE", "MOST_NUMBER", "NUMBER", "TRUTH", "ANSWER", "GIVEN", "DEEDS", "kinds_behind", "rest_of", "made_of", "pile_behind", "piles_along", "right_for", "need_puzzle", "Puzzle", "MOST_BOX"]
def names2 : List PySem.Str := ["MOST_LEFT", "MOST_WORDS_runs", "END_runs", "Run", "next_spot", "changed", "standing_of", "MOST_TICKS", "Found", "NotYet", "Trial", "Throng", "found_in", "need_given", "find", "MOST_STEP", "MOST_DUE", "is_due", "due_by_all", "tick_of_due", "search_of", "tick_in", "pair_in", "_law_mine", "_law_delve", "_law_one", "_law_names", "_law_word", "_law_part", "_law_trial"]
def names3 : List PySem.Str := ["_law_sayings", "_law_counts", "_law_text", "_law_ahead", "_law_tick"]
def names : List PySem.Str := names0 ++ names1 ++ names2 ++ names3
abbrev lawPlace : Nat := 108
/-! ### the Hook -/
abbrev AlZ : Type := Bool × List He.FnW × He.FnV × FnT × FnT × Option (List (Option (Str × Int)))
def refsH (o : Obj) : List Addr := He.refsO o ++ (match o.data with
  | .func fd => fd.closure.map (·.2)
  | _ => [])
def refsL (g : Addr → Option Obj) (as : List Addr) : List Addr := as.flatMap fun a => match g a with
  | some o => refsH o
  | none => []
def asL (g : Addr → Option Obj) : Nat → List Addr → List Addr
  | 0, as => as
  | n + 1, as => as ++ asL g n (refsL g as)
def asH (g : Addr → Option Obj) : List Addr := cStatics :: asL g 4 [mainGlobals]
def obsK (K : PySem.W.Frag) : AlZ := ((fs.all fun f => f K) && dn.all fun d => d.ok K, dn.map fun d => He.fnW K d.at_, He.fnObs K pd.at_, fnS K "Found", fnS K "NotYet", He.dicW K (He.ga K "DEEDS"))
def valZ (w : World) : AlZ := (true, dn.map He.DefD.val, pd.val, fnZ "__init__" "Found.__init__" (C8.fnArgs s_Found_init) (C8.fnBody s_Found_init) (C8.fnScope s_Found_init), fnZ "__init__" "NotYet.__init__" (C8.fnArgs s_NotYet_init) (C8.fnBody s_NotYet_init) (C8.fnScope s_NotYet_init), some (He.keysIn w.params nine))
def Says (w : World) (K : PySem.W.Frag) : Prop := obsK K = valZ w
def obsZ (g : Addr → Option Obj) : AlZ := obsK (He.frG g (asH g))
def hookZ : PySem.W.Hook where
  α := AlZ
  obs := fun s => obsZ s.heap.get?
  val := fun w => valZ w
  says := fun w h => ∃ K : PySem.W.Frag, K.In h ∧ Says w K
  of := fun _ _ e => ⟨_, He.frG_in, e⟩
  keeps := fun _ _ _ ⟨K, hK, c⟩ k => ⟨K, PySem.W.Frag.In.keeps hK k, c⟩
def obZ (s : PySem.W.SharedT) : AlZ := obsZ (HandSHeadRun.getT s)
theorem obZ_eq (s : PySem.W.SharedT) : obZ s = hookZ.obs s.abs := by
  have e : HandSHeadRun.getT s = s.abs.heap.get? := funext (HandSHeadRun.getT_eq s)
  show obsZ (HandSHeadRun.getT s) = obsZ s.abs.heap.get?
  rw [e]
section
variable {w : World} {K : PySem.W.Frag} {h : Heap} {mg : Str → Option Value}
theorem Says.bools (c : Says w K) : (fs.all fun f => f K) = true ∧ (dn.all fun d => d.ok K) = true := He.ba (congrArg (fun z : AlZ => z.1) c)
theorem Says.fact (c : Says w K) (i : Nat) {f : PySem.W.Frag → Bool} (h : fs[i]? = some f := by rfl) : f K = true := List.all_eq_true.mp c.bools.1 f (List.mem_of_getElem? h)
theorem Says.def_ (c : Says w K) (i : Nat) {d : He.DefD} (h : dn[i]? = some d := by rfl) : ∃ fd, FunD K d.name d.qual d.params d.body d.scope (d.dvs K) (d.kws K) (He.fAd K d.at_) fd := by
  have e : dn.map (fun d => He.fnW K d.at_) = dn.map He.DefD.val := congrArg (fun z : AlZ => z.2.1) c
  have e2 : (dn.map fun d => He.fnW K d.at_)[i]? = (dn.map He.DefD.val)[i]? := by rw [e]
  rw [List.getElem?_map, List.getElem?_map, h] at e2
  exact He.DefD.funD (Option.some.inj e2) (List.all_eq_true.mp c.bools.2 d (List.mem_of_getElem? h))
theorem Says.pap (c : Says w K) : He.fnObs K pd.at_ = pd.val := congrArg (fun z : AlZ => z.2.2.1) c
theorem Says.supFound (c : Says w K) : fnS K "Found" = fnZ "__init__" "Found.__init__" (C8.fnArgs s_Found_init) (C8.fnBody s_Found_init) (C8.fnScope s_Found_init) := congrArg (fun z : AlZ => z.2.2.2.1) c
theorem Says.supNotYet (c : Says w K) : fnS K "NotYet" = fnZ "__init__" "NotYet.__init__" (C8.fnArgs s_NotYet_init) (C8.fnBody s_NotYet_init) (C8.fnScope s_NotYet_init) := congrArg (fun z : AlZ => z.2.2.2.2.1) c
theorem Says.tab (c : Says w K) : He.dicW K (He.ga K "DEEDS") = some (He.keysIn w.params nine) := congrArg (fun z : AlZ => z.2.2.2.2.2) c
end
end Dt
set_option Elab.async false
set_option linter.all false
set_option maxRecDepth 100000
set_option maxHeartbeats 0
/-! Hr: the run of the top, for each answer of the one row that it asks. -/
namespace Dt
open PySem PySem.W PySem.Calls PyProof.Rows
abbrev R : OpenRow := OpenLaw.row PySem.Challenge.rw_duetickers_k52_whole_ticks_far_ahead
abbrev qv : Program := view R.prog [lawPlace]
theorem run_f (w : World) : HandSHeadRun.RunEq R qv hookZ obZ 60000 names (w.withFollow "special-get-raises" false) := by
  intro os
  kernel_rfl
theorem run_t (w : World) : HandSHeadRun.RunEq R qv hookZ obZ 60000 names (w.withFollow "special-get-raises" true) := by
  intro os
  kernel_rfl
theorem run (w : World) : HandSHeadRun.RunEq R qv hookZ obZ 60000 names w := byRow2 "special-get-raises" (P := fun w => HandSHeadRun.RunEq R qv hookZ obZ 60000 names w) run_f run_t w
end Dt
set_option Elab.async false
set_option linter.all false
set_option maxRecDepth 100000
set_option maxHeartbeats 0
/-! HtA: the law from its walk: the head's part. -/
section
open PySem PySem.W PySem.Calls PyProof.Rows
theorem Dt.head_law (hc : WalkO Dt.qv Dt.names (XL Dt.qv []) Dt.hookZ.says Dt.R.toRowW (HandSHeadRun.topDef Dt.R.prog Dt.lawPlace) [] fun f vs => PySem.call f vs) : PySem.Challenge.rw_duetickers_k52_whole_ticks_far_ahead.Holds := by
  w_on; o_law
  refine HandSHeadRun.head_any (r := OpenLaw.row PySem.Challenge.rw_duetickers_k52_whole_ticks_far_ahead) (q := view (OpenLaw.row PySem.Challenge.rw_duetickers_k52_whole_ticks_far_ahead).prog [Dt.lawPlace]) (H := Dt.hookZ) (ob := Dt.obZ) (M := 60000) (loose := Dt.names) (d := HandSHeadRun.topDef (OpenLaw.row PySem.Challenge.rw_duetickers_k52_whole_ticks_far_ahead).prog Dt.lawPlace) (kwd := []) Dt.obZ_eq
    (by kernel_rfl) (fun s => by kernel_rfl) Dt.run (by kernel_rfl) (by kernel_rfl) (by kernel_rfl) (by rfl) (by first | assumption | decide +kernel) (by decide +kernel) ⟨rfl, rfl, rfl, rfl, rfl, by decide +kernel⟩ ?hw ?hc
  case hw => w_witness2
  case hc => exact hc
end
set_option Elab.async false
set_option linter.all false
set_option maxRecDepth 100000
set_option maxHeartbeats 0
namespace Dt
open PySem PySem.Spec PyProof.Rows L2
open PySem.W (ksFn fnOf)
/-! HdB: TX from the facts. Printed by mkhd.py. -/
section
variable {w : World} {K : PySem.W.Frag} {h : Heap} {mg : Str → Option Value}
theorem tx_of (X : K.In h) (G : h.Ns mainGlobals mg) (c : Says w K) : TX w K mg where
  d_is_integer := by
    obtain ⟨fd, F⟩ := c.def_ 0
    exact ⟨_, fd, def_of F (He.glo_ok X G (c.fact 0)), FunD.bindsN (ps := ["value"]) F fun _ _ _ _ _ _ us hl => match us, hl with | [_], _ => rfl⟩
  d_is_within := by
    obtain ⟨fd, F⟩ := c.def_ 1
    exact ⟨_, fd, def_of F (He.glo_ok X G (c.fact 1)), FunD.bindsN (ps := ["value", "least", "most"]) F fun _ _ _ _ _ _ us hl => match us, hl with | [_, _, _], _ => rfl⟩
  d_is_name := by
    obtain ⟨fd, F⟩ := c.def_ 2
    exact ⟨_, fd, def_of F (He.glo_ok X G (c.fact 2)), FunD.bindsN (ps := ["value"]) F fun _ _ _ _ _ _ us hl => match us, hl with | [_], _ => rfl⟩
  d_need_number := by
    obtain ⟨fd, F⟩ := c.def_ 3
    exact ⟨_, fd, def_of F (He.glo_ok X G (c.fact 3)), FunD.bindsN (ps := ["value", "part", "least", "most"]) F fun _ _ _ _ _ _ us hl => match us, hl with | [_, _, _, _], _ => rfl⟩
  d_fixed := by
    obtain ⟨fd, F⟩ := c.def_ 4
    exact ⟨_, fd, def_of F (He.glo_ok X G (c.fact 4)), FunD.bindsN (ps := ["value"]) F fun _ _ _ _ _ _ us hl => match us, hl with | [_], _ => rfl⟩
  d_is_apart := by
    obtain ⟨fd, F⟩ := c.def_ 5
    exact ⟨_, fd, def_of F (He.glo_ok X G (c.fact 5)), FunD.bindsN (ps := ["names"]) F fun _ _ _ _ _ _ us hl => match us, hl with | [_], _ => rfl⟩
  d_written := by
    obtain ⟨fd, F⟩ := c.def_ 6
    exact ⟨_, fd, def_of F (He.glo_ok X G (c.fact 6)), FunD.bindsN (ps := ["item"]) F fun _ _ _ _ _ _ us hl => match us, hl with | [_], _ => rfl⟩
  d_is_short := by
    obtain ⟨fd, F⟩ := c.def_ 7
    exact ⟨_, fd, def_of F (He.glo_ok X G (c.fact 7)), FunD.bindsN (ps := ["value"]) F fun _ _ _ _ _ _ us hl => match us, hl with | [_], _ => rfl⟩
  d_is_program := by
    obtain ⟨fd, F⟩ := c.def_ 8
    exact ⟨_, fd, def_of F (He.glo_ok X G (c.fact 8)), FunD.bindsN (ps := ["value"]) F fun _ _ _ _ _ _ us hl => match us, hl with | [_], _ => rfl⟩
  d_length_in := by
    obtain ⟨fd, F⟩ := c.def_ 9
    exact ⟨_, fd, def_of F (He.glo_ok X G (c.fact 9)), FunD.bindsN (ps := ["tongue", "program"]) F fun _ _ _ _ _ _ us hl => match us, hl with | [_, _], _ => rfl⟩
  d_need_tongue := by
    obtain ⟨fd, F⟩ := c.def_ 10
    obtain ⟨ds, hv, hb⟩ := FunD.binds1 (ps := ["value", "part"]) F 1 0 (fun z => nomatch z) rfl (fun T kV doc pm an cdv ct us its h1 h2 => by
      match us, its, h1, h2 with
      | [_], [_], _, _ => exact ⟨_, rfl, rfl⟩)
    exact ⟨_, fd, ds, def_of F (He.glo_ok X G (c.fact 10)), hb, hv⟩
  d_need_program := by
    obtain ⟨fd, F⟩ := c.def_ 11
    obtain ⟨ds, hv, hb⟩ := FunD.binds1 (ps := ["value", "part"]) F 1 0 (fun z => nomatch z) rfl (fun T kV doc pm an cdv ct us its h1 h2 => by
      match us, its, h1, h2 with
      | [_], [_], _, _ => exact ⟨_, rfl, rfl⟩)
    exact ⟨_, fd, ds, def_of F (He.glo_ok X G (c.fact 11)), hb, hv⟩
  d_many_next := by
    obtain ⟨fd, F⟩ := c.def_ 12
    exact ⟨_, fd, def_of F (He.glo_ok X G (c.fact 12)), FunD.bindsN (ps := ["tongue", "table"]) F fun _ _ _ _ _ _ us hl => match us, hl with | [_, _], _ => rfl⟩
  d_table_of := by
    obtain ⟨fd, F⟩ := c.def_ 13
    exact ⟨_, fd, def_of F (He.glo_ok X G (c.fact 13)), FunD.bindsN (ps := ["tongue", "most"]) F fun _ _ _ _ _ _ us hl => match us, hl with | [_, _], _ => rfl⟩
  d_choices_of := by
    obtain ⟨fd, F⟩ := c.def_ 14
    exact ⟨_, fd, def_of F (He.glo_ok X G (c.fact 14)), FunD.bindsN (ps := ["tongue"]) F fun _ _ _ _ _ _ us hl => match us, hl with | [_], _ => rfl⟩
  d_ways_of := by
    obtain ⟨fd, F⟩ := c.def_ 15
    exact ⟨_, fd, def_of F (He.glo_ok X G (c.fact 15)), FunD.bindsN (ps := ["table", "name", "word", "length"]) F fun _ _ _ _ _ _ us hl => match us, hl with | [_, _, _, _], _ => rfl⟩
  d_rank_of := by
    obtain ⟨fd, F⟩ := c.def_ 16
    exact ⟨_, fd, def_of F (He.glo_ok X G (c.fact 16)), FunD.bindsN (ps := ["tongue", "table", "program"]) F fun _ _ _ _ _ _ us hl => match us, hl with | [_, _, _], _ => rfl⟩
  d_ranked := by
    obtain ⟨fd, F⟩ := c.def_ 17
    exact ⟨_, fd, def_of F (He.glo_ok X G (c.fact 17)), FunD.bindsN (ps := ["tongue", "table", "length", "rank"]) F fun _ _ _ _ _ _ us hl => match us, hl with | [_, _, _, _], _ => rfl⟩
  d_all_of := by
    obtain ⟨fd, F⟩ := c.def_ 18
    exact ⟨_, fd, def_of F (He.glo_ok X G (c.fact 18)), FunD.bindsN (ps := ["tongue", "length"]) F fun _ _ _ _ _ _ us hl => match us, hl with | [_, _], _ => rfl⟩
  d_row_at := by
    obtain ⟨fd, F⟩ := c.def_ 19
    exact ⟨_, fd, def_of F (He.glo_ok X G (c.fact 19)), FunD.bindsN (ps := ["choices", "rows", "length"]) F fun _ _ _ _ _ _ us hl => match us, hl with | [_, _, _], _ => rfl⟩
  d_kinds_behind := by
    obtain ⟨fd, F⟩ := c.def_ 20
    exact ⟨_, fd, def_of F (He.glo_ok X G (c.fact 20)), FunD.bindsN (ps := ["kinds", "item"]) F fun _ _ _ _ _ _ us hl => match us, hl with | [_, _], _ => rfl⟩
  d_rest_of := by
    obtain ⟨fd, F⟩ := c.def_ 21
    exact ⟨_, fd, def_of F (He.glo_ok X G (c.fact 21)), FunD.bindsN (ps := ["one", "other"]) F fun _ _ _ _ _ _ us hl => match us, hl with | [_, _], _ => rfl⟩
  d_made_of := by
    obtain ⟨fd, F⟩ := c.def_ 22
    exact ⟨_, fd, def_of F (He.glo_ok X G (c.fact 22)), FunD.bindsN (ps := ["item", "below", "top"]) F fun _ _ _ _ _ _ us hl => match us, hl with | [_, _, _], _ => rfl⟩
  d_pile_behind := by
    obtain ⟨fd, F⟩ := c.def_ 23
    exact ⟨_, fd, def_of F (He.glo_ok X G (c.fact 23)), FunD.bindsN (ps := ["pile", "item", "given", "answer"]) F fun _ _ _ _ _ _ us hl => match us, hl with | [_, _, _, _], _ => rfl⟩
  d_piles_along := by
    obtain ⟨fd, F⟩ := c.def_ 24
    exact ⟨_, fd, def_of F (He.glo_ok X G (c.fact 24)), FunD.bindsN (ps := ["puzzle", "given", "answer"]) F fun _ _ _ _ _ _ us hl => match us, hl with | [_, _, _], _ => rfl⟩
  d_right_for := by
    obtain ⟨fd, F⟩ := c.def_ 25
    exact ⟨_, fd, def_of F (He.glo_ok X G (c.fact 25)), FunD.bindsN (ps := ["puzzle", "given", "answer"]) F fun _ _ _ _ _ _ us hl => match us, hl with | [_, _, _], _ => rfl⟩
  d_need_puzzle := by
    obtain ⟨fd, F⟩ := c.def_ 26
    obtain ⟨ds, hv, hb⟩ := FunD.binds1 (ps := ["value", "part"]) F 2 1 (fun z => nomatch z) rfl (fun T kV doc pm an cdv ct us its h1 h2 => by
      match us, its, h1, h2 with
      | [_, _], [_], _, _ => exact ⟨_, rfl, rfl⟩)
    have hv2 : Vals ([] : List V) ds := hv
    cases hv2
    exact ⟨_, fd, def_of F (He.glo_ok X G (c.fact 26)), hb⟩
  d_next_spot := by
    obtain ⟨fd, F⟩ := c.def_ 27
    exact ⟨_, fd, def_of F (He.glo_ok X G (c.fact 27)), FunD.bindsN (ps := ["program", "spot", "is_passing"]) F fun _ _ _ _ _ _ us hl => match us, hl with | [_, _, _], _ => rfl⟩
  d_changed := by
    obtain ⟨fd, F⟩ := c.def_ 28
    exact ⟨_, fd, def_of F (He.glo_ok X G (c.fact 28)), FunD.bindsN (ps := ["word", "left", "right"]) F fun _ _ _ _ _ _ us hl => match us, hl with | [_, _, _], _ => rfl⟩
  d_found_in := by
    obtain ⟨fd, F⟩ := c.def_ 29
    exact ⟨_, fd, def_of F (He.glo_ok X G (c.fact 29)), FunD.bindsN (ps := ["lot", "most"]) F fun _ _ _ _ _ _ us hl => match us, hl with | [_, _], _ => rfl⟩
  d_need_given := by
    obtain ⟨fd, F⟩ := c.def_ 30
    exact ⟨_, fd, def_of F (He.glo_ok X G (c.fact 30)), FunD.bindsN (ps := ["puzzle", "given"]) F fun _ _ _ _ _ _ us hl => match us, hl with | [_, _], _ => rfl⟩
  d_find := by
    obtain ⟨fd, F⟩ := c.def_ 31
    exact ⟨_, fd, def_of F (He.glo_ok X G (c.fact 31)), FunD.bindsN (ps := ["tongue", "puzzle", "given", "most"]) F fun _ _ _ _ _ _ us hl => match us, hl with | [_, _, _, _], _ => rfl⟩
  d_is_due := by
    obtain ⟨fd, F⟩ := c.def_ 32
    exact ⟨_, fd, def_of F (He.glo_ok X G (c.fact 32)), FunD.bindsN (ps := ["due", "length"]) F fun _ _ _ _ _ _ us hl => match us, hl with | [_, _], _ => rfl⟩
  d_due_by_all := by
    obtain ⟨fd, F⟩ := c.def_ 33
    exact ⟨_, fd, def_of F (He.glo_ok X G (c.fact 33)), FunD.bindsN (ps := ["table", "due"]) F fun _ _ _ _ _ _ us hl => match us, hl with | [_, _], _ => rfl⟩
  d_tick_of_due := by
    obtain ⟨fd, F⟩ := c.def_ 34
    exact ⟨_, fd, def_of F (He.glo_ok X G (c.fact 34)), FunD.bindsN (ps := ["tongue", "table", "program", "due"]) F fun _ _ _ _ _ _ us hl => match us, hl with | [_, _, _, _], _ => rfl⟩
  d_search_of := by
    obtain ⟨fd, F⟩ := c.def_ 35
    exact ⟨_, fd, def_of F (He.glo_ok X G (c.fact 35)), FunD.bindsN (ps := ["tongue", "tick"]) F fun _ _ _ _ _ _ us hl => match us, hl with | [_, _], _ => rfl⟩
  d_tick_in := by
    obtain ⟨fd, F⟩ := c.def_ 36
    exact ⟨_, fd, def_of F (He.glo_ok X G (c.fact 36)), FunD.bindsN (ps := ["tongue", "program", "step"]) F fun _ _ _ _ _ _ us hl => match us, hl with | [_, _, _], _ => rfl⟩
  d_pair_in := by
    obtain ⟨fd, F⟩ := c.def_ 37
    exact ⟨_, fd, def_of F (He.glo_ok X G (c.fact 37)), FunD.bindsN (ps := ["tongue", "tick"]) F fun _ _ _ _ _ _ us hl => match us, hl with | [_, _], _ => rfl⟩
  d_law_mine := by
    obtain ⟨fd, F⟩ := c.def_ 38
    exact ⟨_, fd, def_of F (He.glo_ok X G (c.fact 38)), FunD.bindsN (ps := ["_law_script"]) F fun _ _ _ _ _ _ us hl => match us, hl with | [_], _ => rfl⟩
  d_law_delve := by
    obtain ⟨fd, F⟩ := c.def_ 39
    exact ⟨_, fd, def_of F (He.glo_ok X G (c.fact 39)), FunD.bindsN (ps := ["_law_mine_here", "_law_many"]) F fun _ _ _ _ _ _ us hl => match us, hl with | [_, _], _ => rfl⟩
  d_law_one := by
    obtain ⟨fd, F⟩ := c.def_ 40
    exact ⟨_, fd, def_of F (He.glo_ok X G (c.fact 40)), FunD.bindsN (ps := ["_law_mine_here", "_law_some"]) F fun _ _ _ _ _ _ us hl => match us, hl with | [_, _], _ => rfl⟩
  d_law_names := by
    obtain ⟨fd, F⟩ := c.def_ 41
    exact ⟨_, fd, def_of F (He.glo_ok X G (c.fact 41)), FunD.bindsN (ps := ["_law_mine_here"]) F fun _ _ _ _ _ _ us hl => match us, hl with | [_], _ => rfl⟩
  d_law_word := by
    obtain ⟨fd, F⟩ := c.def_ 42
    exact ⟨_, fd, def_of F (He.glo_ok X G (c.fact 42)), FunD.bindsN (ps := ["_law_told", "_law_boxes", "_law_spot"]) F fun _ _ _ _ _ _ us hl => match us, hl with | [_, _, _], _ => rfl⟩
  d_law_part := by
    obtain ⟨fd, F⟩ := c.def_ 43
    exact ⟨_, fd, def_of F (He.glo_ok X G (c.fact 43)), FunD.bindsN (ps := ["_law_items", "_law_at", "_law_given", "_law_answer"]) F fun _ _ _ _ _ _ us hl => match us, hl with | [_, _, _, _], _ => rfl⟩
  d_law_trial := by
    obtain ⟨fd, F⟩ := c.def_ 44
    exact ⟨_, fd, def_of F (He.glo_ok X G (c.fact 44)), FunD.bindsN (ps := ["_law_told", "_law_items", "_law_given", "_law_many"]) F fun _ _ _ _ _ _ us hl => match us, hl with | [_, _, _, _], _ => rfl⟩
  d_law_counts := by
    obtain ⟨fd, F⟩ := c.def_ 45
    exact ⟨_, fd, def_of F (He.glo_ok X G (c.fact 45)), FunD.bindsN (ps := ["_law_names_here", "_law_most"]) F fun _ _ _ _ _ _ us hl => match us, hl with | [_, _], _ => rfl⟩
  d_law_text := by
    obtain ⟨fd, F⟩ := c.def_ 46
    exact ⟨_, fd, def_of F (He.glo_ok X G (c.fact 46)), FunD.bindsN (ps := ["_law_names_here", "_law_told"]) F fun _ _ _ _ _ _ us hl => match us, hl with | [_, _], _ => rfl⟩
  d_law_ahead := by
    obtain ⟨fd, F⟩ := c.def_ 47
    exact ⟨_, fd, def_of F (He.glo_ok X G (c.fact 47)), FunD.bindsN (ps := ["_law_names_here", "_law_counts_here", "_law_text_here"]) F fun _ _ _ _ _ _ us hl => match us, hl with | [_, _, _], _ => rfl⟩
  d_law_tick := by
    obtain ⟨fd, F⟩ := c.def_ 48
    exact ⟨_, fd, def_of F (He.glo_ok X G (c.fact 48)), FunD.bindsN (ps := ["_law_names_here", "_law_length", "_law_text_here", "_law_due"]) F fun _ _ _ _ _ _ us hl => match us, hl with | [_, _, _, _], _ => rfl⟩
  d_law := by
    obtain ⟨fd, F⟩ := c.def_ 49
    exact ⟨_, fd, def_of F (He.glo_ok X G (c.fact 49)), FunD.bindsN (ps := ["_law_script"]) F fun _ _ _ _ _ _ us hl => match us, hl with | [_], _ => rfl⟩
  m_Paper_eq := by
    obtain ⟨fd, F⟩ := c.def_ 50
    exact ⟨_, fd, He.meth_ok (c.fact 50), fun_of F, FunD.bindsN (ps := ["self", "other"]) F fun _ _ _ _ _ _ us hl => match us, hl with | [_, _], _ => rfl⟩
  m_Scan_init := by
    obtain ⟨fd, F⟩ := c.def_ 51
    exact ⟨_, fd, He.meth_ok (c.fact 51), fun_of F, FunD.bindsN (ps := ["self", "text"]) F fun _ _ _ _ _ _ us hl => match us, hl with | [_, _], _ => rfl⟩
  m_Scan_ahead := by
    obtain ⟨fd, F⟩ := c.def_ 52
    exact ⟨_, fd, He.meth_ok (c.fact 52), fun_of F, FunD.bindsN (ps := ["self"]) F fun _ _ _ _ _ _ us hl => match us, hl with | [_], _ => rfl⟩
  m_Scan_take := by
    obtain ⟨fd, F⟩ := c.def_ 53
    exact ⟨_, fd, He.meth_ok (c.fact 53), fun_of F, FunD.bindsN (ps := ["self"]) F fun _ _ _ _ _ _ us hl => match us, hl with | [_], _ => rfl⟩
  m_Tongue_init := by
    obtain ⟨fd, F⟩ := c.def_ 54
    exact ⟨_, fd, He.meth_ok (c.fact 54), fun_of F, FunD.bindsN (ps := ["self", "names"]) F fun _ _ _ _ _ _ us hl => match us, hl with | [_, _], _ => rfl⟩
  m_Puzzle_init := by
    obtain ⟨fd, F⟩ := c.def_ 55
    exact ⟨_, fd, He.meth_ok (c.fact 55), fun_of F, FunD.bindsN (ps := ["self", "text"]) F fun _ _ _ _ _ _ us hl => match us, hl with | [_, _], _ => rfl⟩
  m_Run_init := by
    obtain ⟨fd, F⟩ := c.def_ 56
    exact ⟨_, fd, He.meth_ok (c.fact 56), fun_of F, FunD.bindsN (ps := ["self", "program", "given"]) F fun _ _ _ _ _ _ us hl => match us, hl with | [_, _, _], _ => rfl⟩
  m_Run_advance := by
    obtain ⟨fd, F⟩ := c.def_ 57
    exact ⟨_, fd, He.meth_ok (c.fact 57), fun_of F, FunD.bindsN (ps := ["self"]) F fun _ _ _ _ _ _ us hl => match us, hl with | [_], _ => rfl⟩
  m_Trial_init := by
    obtain ⟨fd, F⟩ := c.def_ 58
    exact ⟨_, fd, He.meth_ok (c.fact 58), fun_of F, FunD.bindsN (ps := ["self", "program", "puzzle", "given"]) F fun _ _ _ _ _ _ us hl => match us, hl with | [_, _, _, _], _ => rfl⟩
  m_Trial_tried := by
    obtain ⟨fd, F⟩ := c.def_ 59
    exact ⟨_, fd, He.meth_ok (c.fact 59), fun_of F, FunD.bindsN (ps := ["self"]) F fun _ _ _ _ _ _ us hl => match us, hl with | [_], _ => rfl⟩
  m_Throng_init := by
    obtain ⟨fd, F⟩ := c.def_ 60
    exact ⟨_, fd, He.meth_ok (c.fact 60), fun_of F, FunD.bindsN (ps := ["self", "tongue", "puzzle", "given"]) F fun _ _ _ _ _ _ us hl => match us, hl with | [_, _, _, _], _ => rfl⟩
  m_Throng_fill := by
    obtain ⟨fd, F⟩ := c.def_ 61
    exact ⟨_, fd, He.meth_ok (c.fact 61), fun_of F, FunD.bindsN (ps := ["self"]) F fun _ _ _ _ _ _ us hl => match us, hl with | [_], _ => rfl⟩
  m_Throng_tried := by
    obtain ⟨fd, F⟩ := c.def_ 62
    exact ⟨_, fd, He.meth_ok (c.fact 62), fun_of F, FunD.bindsN (ps := ["self"]) F fun _ _ _ _ _ _ us hl => match us, hl with | [_], _ => rfl⟩
  z_isinstance := He.free_ok X G (c.fact 63)
  z_int := He.free_ok X G (c.fact 64)
  z_bool := He.free_ok X G (c.fact 65)
  z_str := He.free_ok X G (c.fact 66)
  z_len := He.free_ok X G (c.fact 67)
  z_all := He.free_ok X G (c.fact 68)
  z_list := He.free_ok X G (c.fact 69)
  z_tuple := He.free_ok X G (c.fact 70)
  z_any := He.free_ok X G (c.fact 71)
  z_sorted := He.free_ok X G (c.fact 72)
  z_zip := He.free_ok X G (c.fact 73)
  z_sum := He.free_ok X G (c.fact 74)
  z_range := He.free_ok X G (c.fact 75)
  z_enumerate := He.free_ok X G (c.fact 76)
  z_super := He.free_ok X G (c.fact 77)
  z_abs := He.free_ok X G (c.fact 78)
  g_SIGNS := by
    obtain ⟨t, h⟩ := He.str_ok X G (c.fact 79)
    exact ⟨_, h, t, rfl⟩
  g_MOST_SIGNS := by
    obtain ⟨t, h⟩ := He.int_ok X G (c.fact 80)
    exact ⟨_, h, t, rfl⟩
  g_FIGURES := by
    obtain ⟨t, h⟩ := He.str_ok X G (c.fact 81)
    exact ⟨_, h, t, rfl⟩
  g_MOST_FIGURES := by
    obtain ⟨t, h⟩ := He.int_ok X G (c.fact 82)
    exact ⟨_, h, t, rfl⟩
  g_MOST_NAME := by
    obtain ⟨t, h⟩ := He.int_ok X G (c.fact 83)
    exact ⟨_, h, t, rfl⟩
  g_END_programs := by
    obtain ⟨t, h⟩ := He.str_ok X G (c.fact 84)
    exact ⟨_, h, t, rfl⟩
  g_MOST_WORDS_programs := by
    obtain ⟨t, h⟩ := He.int_ok X G (c.fact 85)
    exact ⟨_, h, t, rfl⟩
  g_MOST_ITEMS := by
    obtain ⟨t, h⟩ := He.int_ok X G (c.fact 86)
    exact ⟨_, h, t, rfl⟩
  g_MOST_PILE := by
    obtain ⟨t, h⟩ := He.int_ok X G (c.fact 87)
    exact ⟨_, h, t, rfl⟩
  g_MOST_NUMBER := by
    obtain ⟨t, h⟩ := He.int_ok X G (c.fact 88)
    exact ⟨_, h, t, rfl⟩
  g_NUMBER := by
    obtain ⟨t, h⟩ := He.str_ok X G (c.fact 89)
    exact ⟨_, h, t, rfl⟩
  g_TRUTH := by
    obtain ⟨t, h⟩ := He.str_ok X G (c.fact 90)
    exact ⟨_, h, t, rfl⟩
  g_ANSWER := by
    obtain ⟨t, h⟩ := He.str_ok X G (c.fact 91)
    exact ⟨_, h, t, rfl⟩
  g_GIVEN := by
    obtain ⟨t, h⟩ := He.str_ok X G (c.fact 92)
    exact ⟨_, h, t, rfl⟩
  g_MOST_BOX := by
    obtain ⟨t, h⟩ := He.int_ok X G (c.fact 93)
    exact ⟨_, h, t, rfl⟩
  g_END_runs := by
    obtain ⟨t, h⟩ := He.str_ok X G (c.fact 94)
    exact ⟨_, h, t, rfl⟩
  g_MOST_TICKS := by
    obtain ⟨t, h⟩ := He.int_ok X G (c.fact 95)
    exact ⟨_, h, t, rfl⟩
  g_MOST_STEP := by
    obtain ⟨t, h⟩ := He.int_ok X G (c.fact 96)
    exact ⟨_, h, t, rfl⟩
  g_MOST_DUE := by
    obtain ⟨t, h⟩ := He.int_ok X G (c.fact 97)
    exact ⟨_, h, t, rfl⟩
  g_SEVEN := ⟨_, He.glo_ok X G (c.fact 98), rfl⟩
  g_DEEDS := ⟨_, He.glo_ok X G (c.fact 99), rfl⟩
  cl_Scan := He.cls_ok (c.fact 100)
  v_Scan := ⟨_, He.glo_ok X G (c.fact 101), rfl⟩
  mk_Scan := He.mkr_ok (c.fact 102)
  n_Scan_words := He.noat_ok (c.fact 103)
  n_Scan_at := He.noat_ok (c.fact 104)
  cl_Tongue := He.cls_ok (c.fact 105)
  v_Tongue := ⟨_, He.glo_ok X G (c.fact 106), rfl⟩
  mk_Tongue := He.mkr_ok (c.fact 107)
  n_Tongue_names := He.noat_ok (c.fact 108)
  cl_Puzzle := He.cls_ok (c.fact 109)
  v_Puzzle := ⟨_, He.glo_ok X G (c.fact 110), rfl⟩
  mk_Puzzle := He.mkr_ok (c.fact 111)
  n_Puzzle_text := He.noat_ok (c.fact 112)
  n_Puzzle_check := He.noat_ok (c.fact 113)
  n_Puzzle_cost := He.noat_ok (c.fact 114)
  cl_Run := He.cls_ok (c.fact 115)
  v_Run := ⟨_, He.glo_ok X G (c.fact 116), rfl⟩
  mk_Run := He.mkr_ok (c.fact 117)
  n_Run_program := He.noat_ok (c.fact 118)
  n_Run_given := He.noat_ok (c.fact 119)
  n_Run_left := He.noat_ok (c.fact 120)
  n_Run_right := He.noat_ok (c.fact 121)
  n_Run_spot := He.noat_ok (c.fact 122)
  n_Run_steps := He.noat_ok (c.fact 123)
  n_Run_has_fallen := He.noat_ok (c.fact 124)
  cl_Found := He.cls_ok (c.fact 125)
  v_Found := ⟨_, He.glo_ok X G (c.fact 126), rfl⟩
  mk_Found := He.mkr_ok (c.fact 127)
  n_Found_word := He.noat_ok (c.fact 128)
  n_Found_parts := He.noat_ok (c.fact 129)
  n_Found_answer := He.noat_ok (c.fact 130)
  n_Found_program := He.noat_ok (c.fact 131)
  n_Found_step := He.noat_ok (c.fact 132)
  n_Found_tick := He.noat_ok (c.fact 133)
  cl_NotYet := He.cls_ok (c.fact 134)
  v_NotYet := ⟨_, He.glo_ok X G (c.fact 135), rfl⟩
  mk_NotYet := He.mkr_ok (c.fact 136)
  n_NotYet_word := He.noat_ok (c.fact 137)
  n_NotYet_parts := He.noat_ok (c.fact 138)
  n_NotYet_tick := He.noat_ok (c.fact 139)
  cl_Trial := He.cls_ok (c.fact 140)
  v_Trial := ⟨_, He.glo_ok X G (c.fact 141), rfl⟩
  mk_Trial := He.mkr_ok (c.fact 142)
  n_Trial_program := He.noat_ok (c.fact 143)
  n_Trial_puzzle := He.noat_ok (c.fact 144)
  n_Trial_running := He.noat_ok (c.fact 145)
  n_Trial_steps := He.noat_ok (c.fact 146)
  n_Trial_waits := He.noat_ok (c.fact 147)
  n_Trial_answer := He.noat_ok (c.fact 148)
  cl_Throng := He.cls_ok (c.fact 149)
  v_Throng := ⟨_, He.glo_ok X G (c.fact 150), rfl⟩
  mk_Throng := He.mkr_ok (c.fact 151)
  n_Throng_tongue := He.noat_ok (c.fact 152)
  n_Throng_puzzle := He.noat_ok (c.fact 153)
  n_Throng_given := He.noat_ok (c.fact 154)
  n_Throng_least := He.noat_ok (c.fact 155)
  n_Throng_due := He.noat_ok (c.fact 156)
  n_Throng_begun := He.noat_ok (c.fact 157)
  n_Throng_waiting := He.noat_ok (c.fact 158)
  v_Paper := ⟨_, He.glo_ok X G (c.fact 159), rfl⟩
  i_Tongue := ⟨He.cls_ok (c.fact 105), He.eqO_ok (c.fact 162), He.eqO_ok (c.fact 160), of_decide_eq_true (c.fact 161), of_decide_eq_true (c.fact 163), of_decide_eq_true (c.fact 164)⟩
  i_Puzzle := ⟨He.cls_ok (c.fact 109), He.eqO_ok (c.fact 165), He.eqO_ok (c.fact 160), of_decide_eq_true (c.fact 161), of_decide_eq_true (c.fact 166), of_decide_eq_true (c.fact 167)⟩
  i_Found := ⟨He.cls_ok (c.fact 125), He.eqO_ok (c.fact 168), He.eqO_ok (c.fact 160), of_decide_eq_true (c.fact 161), of_decide_eq_true (c.fact 169), of_decide_eq_true (c.fact 170)⟩
  i_NotYet := ⟨He.cls_ok (c.fact 134), He.eqO_ok (c.fact 171), He.eqO_ok (c.fact 160), of_decide_eq_true (c.fact 161), of_decide_eq_true (c.fact 172), of_decide_eq_true (c.fact 173)⟩
  i_NF := of_decide_eq_true (c.fact 174)
  i_NP := of_decide_eq_true (c.fact 175)
  seven := fun H => tupAB_ok (c.fact 176) H
  deeds := He.dicW_ok c.tab
  deed := by
    intro t ht
    simp only [List.mem_cons, List.not_mem_nil, or_false] at ht
    rcases ht with e | e | e | e | e
    · subst e; exact deedB_ok (c.fact 177)
    · subst e; exact deedB_ok (c.fact 178)
    · subst e; exact deedB_ok (c.fact 179)
    · subst e; exact deedB_ok (c.fact 180)
    · subst e; exact deedB_ok (c.fact 181)
  deed_no := fun x hx => keysB_ok (c.fact 182) hx
  cr_Tongue := ⟨c.fact 183, He.eqO_ok (c.fact 184)⟩
  words_val := ⟨wvB_ok (c.fact 185), rfl⟩
  words := fun H => tupAB_ok (c.fact 186) H
theorem law_def (X : K.In h) (G : h.Ns mainGlobals mg) (c : Says w K) : ∃ fd, FunD K "law" "law" (C8.fnArgs s_law) (C8.fnBody s_law) (C8.fnScope s_law) [] [] (He.ga K "law") fd ∧ mg "law" = some (.ref (He.ga K "law")) := by
  obtain ⟨fd, F⟩ := c.def_ 49
  exact ⟨fd, F, He.glo_ok X G (c.fact 49)⟩
end
end Dt
set_option Elab.async false
set_option linter.all false
set_option maxRecDepth 100000
set_option maxHeartbeats 4000000
namespace Dt
open PySem PySem.Spec L2
local macro_rules | `(tactic| walk_at "st") => `(tactic| (simp only [L2.start, List.map_cons, List.map_nil, List.length_cons, List.length_nil, List.replicate_succ, List.replicate_zero, List.cons_append, List.nil_append, Nat.zero_add, Nat.reduceAdd, Nat.reduceSub]))
local macro_rules | `(tactic| walk_at "r1") => `(tactic| with_reducible first
  | refine g_seq ?_
  | refine g_next ?_
  | refine g_asg ?_
  | refine g_ifS ?_
  | refine g_ret ?_
  | refine g_retN ?_
  | refine g_drop ?_
  | refine g_brk ?_
  | refine g_c ?_
  | refine g_op ?_
  | refine g_un ?_
  | refine g_I0 ?_
  | refine g_U ?_
  | refine g_eqI ?_
  | refine g_neI ?_
  | refine g_eqS ?_
  | refine g_neS ?_
  | refine g_test ?_
  | refine g_B ?_
  | refine g_bl ?_
  | refine g_if ?_
  | refine g_not ?_
  | refine g_and ?_
  | refine g_or ?_
  | refine g_andV ?_
  | refine g_orV ?_
  | refine g_notV ?_
  | refine g_blif ?_
  | refine g_chain ?_
  | refine g_nil ?_
  | refine g_cons ?_
  | refine g_cb ?_
  | refine g_call ?_
  | refine g_tup ?_
  | refine g_lst ?_
  | refine g_tfld ?_
  | refine g_dget ?_
  | refine g_mk ?_
  | refine g_lc2 ?_
  | refine g_gfld ?_
  | refine g_meth ?_
  | refine g_sfld ?_
  | refine g_din ?_
  | refine g_dput ?_
  | refine g_isN_int ?_
  | refine g_isN_str ?_
  | refine g_isN_ref ?_
  | refine g_isN_non ?_
  | refine g_nN_int ?_
  | refine g_nN_str ?_
  | refine g_nN_ref ?_
  | refine g_nN_non ?_
  | refine g_lc ?_
  | refine g_dc ?_
  | refine g_for ?_
  | refine g_iStr ?_
  | refine g_iList ?_
  | refine g_iTup ?_
  | refine g_iR1 ?_
  | refine g_iR2 ?_
  | refine g_iR3 ?_
  | refine g_iEnum ?_
  | refine g_iZip ?_
  | refine g_iZipA ?_
  | refine g_bm ?_
  | refine g_bm0 ?_
  | refine g_m1 ?_
  | refine g_sl ?_
  | refine g_poN ?_
  | refine g_poS ?_
  | refine g_poI ?_
  | refine g_yes ?_
  | refine g_gtup ?_
  | refine g_gcons ?_
  | refine g_gnil ?_
  | refine g_par ?_
  | refine g_isi_ii ?_
  | refine g_isi_ib ?_
  | refine g_isi_ss ?_
  | refine g_inC ?_
  | refine g_int1 ?_
  | refine g_int1b ?_
  | refine g_abs ?_
  | refine g_ltS ?_
  | refine iteT ?_
  | refine iteNT ?_
  | refine iteNF ?_
  | refine iteF ?_)
local macro_rules | `(tactic| walk_at "sd") => `(tactic| first | assumption | rfl | decide | omega)
local macro_rules | `(tactic| walk_at "hp") => `(tactic| first | assumption | exact upd_same | exact Same.get (by assumption) (by walk_at "hp") | exact Off.get (by assumption) (by walk_at "hp") (by walk_at "ne"))
local macro_rules | `(tactic| walk_at "ne") => `(tactic| first | assumption | (refine Ne.symm ?_; assumption) | exact ne_of_none (by walk_at "hp") (by assumption) | exact ne_none (by walk_at "hp") (by assumption) | exact ne_of (by walk_at "hp") (by walk_at "hp") (by intro z; cases z))
local macro_rules | `(tactic| walk_at "sq") => `(tactic| first | assumption | exact SqL.rd (by walk_at "hp") | exact SqT.rd (by walk_at "hp") | exact Same.seq (by assumption) (by walk_at "sq") | exact Same.seqT (by assumption) (by walk_at "sq"))
local macro_rules | `(tactic| walk_at "rI") => `(tactic| ((with_reducible refine g_I ?_ ?_); (focus (first | (refine Or.inl ⟨?_, ?_⟩ <;> (first | decide | omega)) | (refine Or.inr ⟨?_, ?_⟩ <;> (first | decide | omega)) | (show (0 : Int) < _; first | decide | omega | assumption) | (refine And.intro ?_ ?_ <;> (first | decide | omega | (refine And.intro ?_ ?_ <;> (first | decide | omega))))))))
local macro_rules | `(tactic| walk_at "r2") => `(tactic| first
  | ((with_reducible refine g_tvar ?_); (refine ⟨_, rfl, ?_⟩))
  | ((with_reducible refine g_name' (σ' := ?s) ?e ?h); (case e => (simp only [wipe, List.set_cons_zero, List.set_cons_succ]; first | done | rfl)))
  | (refine And.intro (show wipe _ _ = wipe _ _ from rfl) ?_)
  | walk_at "rI")
local macro_rules | `(tactic| walk_at "rd") => `(tactic| repeat (first | walk_at "r1" | walk_at "r2"))
local macro_rules | `(tactic| walk_at "gn") => `(tactic| (intro pA hA; generalize hG : upd _ _ _ = H2A; (have sA : Same _ H2A := hG ▸ Same.upd hA); (have lA : H2A pA = some _ := hG ▸ upd_same); clear hG))
local macro_rules | `(tactic| walk_at "mk") => `(tactic| (intro xM dxM h1M h2M hneM; generalize hG : upd (upd _ _ _) _ _ = HM; (have sM : Same _ HM := hG ▸ Same.updW (Same.upd h2M) h1M); (have lM : HM xM = some _ := hG ▸ upd_same); clear hG))
section
variable {P : Program} {w : World} {K : PySem.W.Frag} {mg : Str → Option Value} {base : Heap}
def sp_is_integer : Sp := fun vs H Q _ => ∃ i, vs = [.int i] ∧ Q (.bl true) H
theorem c_is_integer (T : TX w K mg) : C8.Cal P w K mg base 1 "is_integer" (sp_is_integer) [] := by
  obtain ⟨f, fd, F, b⟩ := T.d_is_integer
  have nd := sc_is_integer.nd
  refine C8.cal0 F b .nil sc_is_integer (fun vs H Q E h => ?_) (fun cdv A outer s H vs Q E hr h => ?_)
  · obtain ⟨i, rfl, _⟩ := h
    rfl
  · obtain ⟨i, rfl, q⟩ := h
    refine ⟨_, (pss_one (ps_ret (pe_and (pe_callB call_isi (by rfl) T.z_isinstance (by decide +kernel) (pa_cons (pv 0) (pa_cons (pe_ty (T := "int") (by rfl) T.z_int (by decide +kernel)) pa_nil))) (pe_one (pe_not (pe_callB call_isi (by rfl) T.z_isinstance (by decide +kernel) (pa_cons (pv 0) (pa_cons (pe_ty (T := "bool") (by rfl) T.z_bool (by decide +kernel)) pa_nil)))))))), ?_⟩
    walk_at "st"
    walk_at "rd"
    exact q
def sp_is_within : Sp := fun vs H Q _ => ∃ i lo hi, vs = [.int i, .int lo, .int hi] ∧ Q (.bl (decide (lo ≤ i) && decide (i ≤ hi))) H
theorem c_is_within (T : TX w K mg) : C8.Cal P w K mg base 2 "is_within" (sp_is_within) [] := by
  obtain ⟨f, fd, F, b⟩ := T.d_is_within
  have nd := sc_is_within.nd
  refine C8.cal0 F b .nil sc_is_within (fun vs H Q E h => ?_) (fun cdv A outer s H vs Q E hr h => ?_)
  · obtain ⟨i, lo, hi, rfl, _⟩ := h
    rfl
  · obtain ⟨i, lo, hi, rfl, q⟩ := h
    refine ⟨_, (pss_cons (ps_if (pt_not (pt_val (C8.pe_c (c_is_integer T) hr (by decide) (by rfl) (pa_cons (pv 0) pa_nil))))
      (pss_one (ps_ret pe_bl))
      pss_nil)
    (pss_one (ps_ret (pe_and (pe_or (pe_cmpR op_isN1 (pv 1) pe_non (nomark _)) (pe_one (pe_cmpR op_le (pv 1) (pv 0) (nomark _)))) (pe_one (pe_or (pe_cmpR op_isN1 (pv 2) pe_non (nomark _)) (pe_one (pe_cmpR op_le (pv 0) (pv 2) (nomark _))))))))), ?_⟩
    walk_at "st"
    walk_at "rd"
    refine ⟨i, rfl, ?_⟩
    walk_at "rd"
    refine ifD (fun h1 => ?_) (fun h1 => ?_)
    · walk_at "rd"
      rw [decide_eq_true h1, Bool.true_and] at q
      exact q
    · rw [decide_eq_false h1, Bool.false_and] at q
      exact q
def sp_need_number : Sp := fun vs H Q _ => ∃ i p lo hi, vs = [.int i, .str p, .int lo, .int hi] ∧ lo ≤ i ∧ i ≤ hi ∧ Q .non H
theorem c_need_number (T : TX w K mg) : C8.Cal P w K mg base 3 "need_number" (sp_need_number) [] := by
  obtain ⟨f, fd, F, b⟩ := T.d_need_number
  have nd := sc_need_number.nd
  refine C8.cal0 F b .nil sc_need_number (fun vs H Q E h => ?_) (fun cdv A outer s H vs Q E hr h => ?_)
  · obtain ⟨i, p, lo, hi, rfl, _⟩ := h
    rfl
  · obtain ⟨i, p, lo, hi, rfl, h1, h2, q⟩ := h
    refine ⟨_, (pss_one (ps_if (pt_not (pt_val (C8.pe_c (c_is_within T) hr (by decide) (by rfl) (pa_cons (pv 0) (pa_cons (pv 2) (pa_cons (pv 3) pa_nil))))))
      (pss_one ps_never)
      pss_nil)), ?_⟩
    walk_at "st"
    walk_at "rd"
    refine ⟨i, lo, hi, rfl, ?_⟩
    walk_at "rd"
    rw [show (decide (lo ≤ i) && decide (i ≤ hi)) = true by simp [h1, h2]]
    walk_at "rd"
    exact q
def sp_next_spot (K : PySem.W.Frag) : Sp := fun vs H Q _ => ∃ (a : Addr) (xs : List V) (i : Nat) (b : Bool), vs = [.ref a, .int i, .bl b] ∧ SqT K H a xs ∧ Q (.int (nextSpot xs.length i b)) H
theorem c_next_spot (T : TX w K mg) : C8.Cal P w K mg base 1 "next_spot" (sp_next_spot K) [] := by
  obtain ⟨f, fd, F, b⟩ := T.d_next_spot
  have nd := sc_next_spot.nd
  refine C8.cal0 F b .nil sc_next_spot (fun vs H Q E h => ?_) (fun cdv A outer s H vs Q E hr h => ?_)
  · obtain ⟨a, xs, i, b, rfl, _⟩ := h
    rfl
  · obtain ⟨a, xs, i, b, rfl, hx, q⟩ := h
    refine ⟨_, (pss_cons (ps_set (i := 3) nd rfl (Or.inl rfl) (pe_op op_add (pe_callB kc_len (by rfl) T.z_len (by decide +kernel) (pa_cons (pv 0) pa_nil)) pe_int))
    (pss_one (ps_ret (pe_ifExp (pt_not (pt_val (pv 2))) (pe_op op_mod (pe_op op_add (pv 1) pe_int) (pv 3)) (pe_op op_mod (pe_op op_add (pv 1) pe_int) (pv 3)))))), ?_⟩
    walk_at "st"
    walk_at "rd"
    refine g_lenT hx ?_
    walk_at "rd"
    cases b with
    | true =>
      walk_at "rd"
      exact q
    | false =>
      walk_at "rd"
      exact q
def sp_changed : Sp := fun vs H Q _ => ∃ (w : Str) (l r : Int), vs = [.str w, .int l, .int r] ∧ (-(2 ^ 64) < l ∧ l < 2 ^ 64) ∧ Q (.int (changedF w l r)) H
theorem c_changed (T : TX w K mg) : C8.Cal P w K mg base 1 "changed" (sp_changed) [] := by
  obtain ⟨f, fd, F, b⟩ := T.d_changed
  have nd := sc_changed.nd
  refine C8.cal0 F b .nil sc_changed (fun vs H Q E h => ?_) (fun cdv A outer s H vs Q E hr h => ?_)
  · obtain ⟨_, _, _, rfl, _⟩ := h
    rfl
  · obtain ⟨w, l, r, rfl, hl, q⟩ := h
    refine ⟨_, (pss_cons (ps_if (pt_cmpR op_eq (pv 0) pe_str (nomark _))
      (pss_one (ps_ret (pe_op op_add (pv 1) pe_int)))
      pss_nil)
    (pss_cons (ps_if (pt_cmpR op_eq (pv 0) pe_str (nomark _))
      (pss_one (ps_ret (pe_op op_sub (pv 1) pe_int)))
      pss_nil)
    (pss_cons (ps_if (pt_cmpR op_eq (pv 0) pe_str (nomark _))
      (pss_one (ps_ret (pe_op op_add (pv 1) (pv 2))))
      pss_nil)
    (pss_one (ps_ret (pe_ifExp (pt_cmpR op_eq (pv 0) pe_str (nomark _)) (pe_op op_mul (pv 1) (pv 2)) (pv 1))))))), ?_⟩
    unfold changedF at q
    walk_at "st"
    walk_at "rd"
    refine ifD (fun h1 => ?_) (fun h1 => ?_)
    · walk_at "rd"
      rw [if_pos h1] at q
      exact q
    rw [if_neg h1] at q
    walk_at "rd"
    refine ifD (fun h1 => ?_) (fun h1 => ?_)
    · walk_at "rd"
      rw [if_pos h1] at q
      exact q
    rw [if_neg h1] at q
    walk_at "rd"
    refine ifD (fun h1 => ?_) (fun h1 => ?_)
    · walk_at "rd"
      rw [if_pos h1] at q
      exact q
    rw [if_neg h1] at q
    walk_at "rd"
    refine ifD (fun h1 => ?_) (fun h1 => ?_)
    · walk_at "rd"
      rw [if_pos h1] at q
      exact q
    rw [if_neg h1] at q
    walk_at "rd"
    exact q
end
end Dt
set_option Elab.async false
set_option linter.all false
set_option maxRecDepth 100000
set_option maxHeartbeats 4000000
namespace Dt
open PySem PySem.Spec L2
local macro_rules | `(tactic| walk_at "st") => `(tactic| (simp only [L2.start, List.map_cons, List.map_nil, List.length_cons, List.length_nil, List.replicate_succ, List.replicate_zero, List.cons_append, List.nil_append, Nat.zero_add, Nat.reduceAdd, Nat.reduceSub]))
local macro_rules | `(tactic| walk_at "r1") => `(tactic| with_reducible first
  | refine g_seq ?_
  | refine g_next ?_
  | refine g_asg ?_
  | refine g_ifS ?_
  | refine g_ret ?_
  | refine g_retN ?_
  | refine g_drop ?_
  | refine g_brk ?_
  | refine g_c ?_
  | refine g_op ?_
  | refine g_un ?_
  | refine g_I0 ?_
  | refine g_U ?_
  | refine g_eqI ?_
  | refine g_neI ?_
  | refine g_eqS ?_
  | refine g_neS ?_
  | refine g_test ?_
  | refine g_B ?_
  | refine g_bl ?_
  | refine g_if ?_
  | refine g_not ?_
  | refine g_and ?_
  | refine g_or ?_
  | refine g_andV ?_
  | refine g_orV ?_
  | refine g_notV ?_
  | refine g_blif ?_
  | refine g_chain ?_
  | refine g_nil ?_
  | refine g_cons ?_
  | refine g_cb ?_
  | refine g_call ?_
  | refine g_tup ?_
  | refine g_lst ?_
  | refine g_tfld ?_
  | refine g_dget ?_
  | refine g_mk ?_
  | refine g_lc2 ?_
  | refine g_gfld ?_
  | refine g_meth ?_
  | refine g_sfld ?_
  | refine g_din ?_
  | refine g_dput ?_
  | refine g_isN_int ?_
  | refine g_isN_str ?_
  | refine g_isN_ref ?_
  | refine g_isN_non ?_
  | refine g_nN_int ?_
  | refine g_nN_str ?_
  | refine g_nN_ref ?_
  | refine g_nN_non ?_
  | refine g_lc ?_
  | refine g_dc ?_
  | refine g_for ?_
  | refine g_iStr ?_
  | refine g_iList ?_
  | refine g_iTup ?_
  | refine g_iR1 ?_
  | refine g_iR2 ?_
  | refine g_iR3 ?_
  | refine g_iEnum ?_
  | refine g_iZip ?_
  | refine g_iZipA ?_
  | refine g_bm ?_
  | refine g_bm0 ?_
  | refine g_m1 ?_
  | refine g_sl ?_
  | refine g_poN ?_
  | refine g_poS ?_
  | refine g_poI ?_
  | refine g_yes ?_
  | refine g_gtup ?_
  | refine g_gcons ?_
  | refine g_gnil ?_
  | refine g_par ?_
  | refine g_isi_ii ?_
  | refine g_isi_ib ?_
  | refine g_isi_ss ?_
  | refine g_inC ?_
  | refine g_int1 ?_
  | refine g_int1b ?_
  | refine g_abs ?_
  | refine g_ltS ?_
  | refine iteT ?_
  | refine iteNT ?_
  | refine iteNF ?_
  | refine iteF ?_)
local macro_rules | `(tactic| walk_at "sd") => `(tactic| first | assumption | rfl | decide | omega)
local macro_rules | `(tactic| walk_at "hp") => `(tactic| first | assumption | exact upd_same | exact Same.get (by assumption) (by walk_at "hp") | exact Off.get (by assumption) (by walk_at "hp") (by walk_at "ne"))
local macro_rules | `(tactic| walk_at "ne") => `(tactic| first | assumption | (refine Ne.symm ?_; assumption) | exact ne_of_none (by walk_at "hp") (by assumption) | exact ne_none (by walk_at "hp") (by assumption) | exact ne_of (by walk_at "hp") (by walk_at "hp") (by intro z; cases z))
local macro_rules | `(tactic| walk_at "sq") => `(tactic| first | assumption | exact SqL.rd (by walk_at "hp") | exact SqT.rd (by walk_at "hp") | exact Same.seq (by assumption) (by walk_at "sq") | exact Same.seqT (by assumption) (by walk_at "sq"))
local macro_rules | `(tactic| walk_at "rI") => `(tactic| ((with_reducible refine g_I ?_ ?_); (focus (first | (refine Or.inl ⟨?_, ?_⟩ <;> (first | decide | omega)) | (refine Or.inr ⟨?_, ?_⟩ <;> (first | decide | omega)) | (show (0 : Int) < _; first | decide | omega | assumption) | (refine And.intro ?_ ?_ <;> (first | decide | omega | (refine And.intro ?_ ?_ <;> (first | decide | omega))))))))
local macro_rules | `(tactic| walk_at "r2") => `(tactic| first
  | ((with_reducible refine g_tvar ?_); (refine ⟨_, rfl, ?_⟩))
  | ((with_reducible refine g_name' (σ' := ?s) ?e ?h); (case e => (simp only [wipe, List.set_cons_zero, List.set_cons_succ]; first | done | rfl)))
  | (refine And.intro (show wipe _ _ = wipe _ _ from rfl) ?_)
  | walk_at "rI")
local macro_rules | `(tactic| walk_at "rd") => `(tactic| repeat (first | walk_at "r1" | walk_at "r2"))
local macro_rules | `(tactic| walk_at "gn") => `(tactic| (intro pA hA; generalize hG : upd _ _ _ = H2A; (have sA : Same _ H2A := hG ▸ Same.upd hA); (have lA : H2A pA = some _ := hG ▸ upd_same); clear hG))
local macro_rules | `(tactic| walk_at "mk") => `(tactic| (intro xM dxM h1M h2M hneM; generalize hG : upd (upd _ _ _) _ _ = HM; (have sM : Same _ HM := hG ▸ Same.updW (Same.upd h2M) h1M); (have lM : HM xM = some _ := hG ▸ upd_same); clear hG))
section
variable {P : Program} {w : World} {K : PySem.W.Frag} {mg : Str → Option Value} {base : Heap}
def bin (s : Str) : Prop := ∀ c ∈ s.cps.toList, c = 48 ∨ c = 49
def sp_is_name : Sp := fun vs H Q _ => ∃ s : Str, vs = [.str s] ∧ 1 ≤ s.length ∧ s.length ≤ 60 ∧ bin s ∧ ∀ H', Same H H' → Q (.bl true) H'
theorem c_is_name (T : TX w K mg) : C8.Cal P w K mg base 1 "is_name" (sp_is_name) [] := by
  obtain ⟨f, fd, F, b⟩ := T.d_is_name
  have nd := sc_is_name.nd
  refine C8.cal0 F b .nil sc_is_name (fun vs H Q E h => ?_) (fun cdv A outer s H vs Q E hr h => ?_)
  · obtain ⟨s, rfl, _⟩ := h
    rfl
  · obtain ⟨s, rfl, h1, h60, hb, q⟩ := h
    refine ⟨_, (pss_one (ps_ret (pe_and (pe_callB call_isi (by rfl) T.z_isinstance (by decide +kernel) (pa_cons (pv 0) (pa_cons (pe_ty (T := "str") (by rfl) T.z_str (by decide +kernel)) pa_nil))) (pe_and (pe_chain op_le op_le pe_int (pe_callB kc_lenS (by rfl) T.z_len (by decide +kernel) (pa_cons (pv 0) pa_nil)) (C8.pe_gc (by rfl) T.g_MOST_SIGNS)) (pe_one (pe_callB (cr_all rfl) (by rfl) T.z_all (by decide +kernel) (pa_cons (pe_lc rfl nd (pi_str (pv 0)) (blkOk_by (own := [("sign", 1)]) (N := n_is_name) (sc := defScope s_is_name) (by decide +kernel)) (fun _ _ _ _ _ => (pg_name (i := 1) nd rfl (Or.inl rfl))) (fun _ _ _ _ _ => pts_nil) (fun _ _ _ _ _ => (pe_cmpR ko_inC (pv 1) (C8.pe_gc (by rfl) T.g_SIGNS) (by rfl)))) pa_nil))))))), ?_⟩
    walk_at "st"
    walk_at "rd"
    refine g_lenS (Nat.le_trans h60 (by decide)) ?_
    walk_at "rd"
    refine ifD_t (by omega) ?_
    walk_at "rd"
    refine ifD_t (by omega) ?_
    walk_at "rd"
    refine ⟨s, rfl, fun D nD => ?_⟩
    refine lc_it walk_str (PvL H D (fun c => some (V.bl (decide (c ∈ ("01" : Str).cps.toList)))) s.cps.toList) (pvl_start nD) (fun _ _ _ _ => True.intro) (fun i x H1 H2 hi p y => ?_) (fun H1 p => ?_)
    · obtain ⟨rfl, c, hc, rfl⟩ := y
      walk_at "rd"
      exact pvl_yes nD p (Same.refl _) (by rw [Array.getElem?_toList]; exact hc) rfl (by rw [Array.length_toList]; exact Nat.le_trans h60 (by decide))
    · obtain ⟨s1, l1⟩ := pvl_end (xs := s.cps.toList) (by rw [Array.length_toList]; exact p)
      rw [fm_map] at l1
      walk_at "rd"
      refine g_all (bs := s.cps.toList.map fun c => decide (c ∈ ("01" : Str).cps.toList)) (SqL.rd (by rw [l1, List.map_map]; rfl)) (b := true) ?_ (q _ s1)
      rw [List.all_map, List.all_eq_true]
      intro c hc
      refine decide_eq_true ?_
      rcases hb c hc with e | e <;> subst e <;> decide +kernel
def sp_is_short : Sp := fun vs H Q _ => ∃ s : Str, vs = [.str s] ∧ 1 ≤ s.length ∧ s.length ≤ 8 ∧ bin s ∧ ∀ H', Same H H' → Q (.bl true) H'
theorem c_is_short (T : TX w K mg) : C8.Cal P w K mg base 2 "is_short" (sp_is_short) [] := by
  obtain ⟨f, fd, F, b⟩ := T.d_is_short
  have nd := sc_is_short.nd
  refine C8.cal0 F b .nil sc_is_short (fun vs H Q E h => ?_) (fun cdv A outer s H vs Q E hr h => ?_)
  · obtain ⟨s, rfl, _⟩ := h
    rfl
  · obtain ⟨s, rfl, h1, h8, hb, q⟩ := h
    refine ⟨_, (pss_one (ps_ret (pe_and (C8.pe_c (c_is_name T) hr (by decide) (by rfl) (pa_cons (pv 0) pa_nil)) (pe_one (pe_cmpR op_le (pe_callB kc_lenS (by rfl) T.z_len (by decide +kernel) (pa_cons (pv 0) pa_nil)) (C8.pe_gc (by rfl) T.g_MOST_NAME) (nomark _)))))), ?_⟩
    walk_at "st"
    walk_at "rd"
    refine ⟨s, rfl, h1, by omega, hb, fun H1 s1 => ?_⟩
    walk_at "rd"
    refine g_lenS (Nat.le_trans h8 (by decide)) ?_
    walk_at "rd"
    rw [show decide ((s.length : Int) ≤ 8) = true from decide_eq_true (by omega)]
    exact q _ s1
end
end Dt
set_option Elab.async false
set_option linter.all false
set_option maxRecDepth 100000
set_option maxHeartbeats 4000000
/-! Tu: more of the toolkit. -/
namespace Dt
open PySem PySem.Spec L2
section
variable {P : Program} {w : World} {K : PySem.W.Frag} {mg : Str → Option Value} {base : Heap}
theorem mak1 {x qual : Str} {C : Addr} {st : Stmt} {f m0 : Addr} {fd : FuncData} {N ps : List Str} {k : Nat} {sp : Sp} (me : Meth K C "__init__" f) (M : Mk K C m0) (hm : ∃ u, mg x = some u ∧ RelV (.ref C) u) (F : C8.Fun K "__init__" qual st f fd) (b : Binds K fd ps []) (S : FnScope N ps (C8.fnScope st)) (len : ∀ vs H Q E, sp vs H Q E → vs.length = ps.length)
    (hbody : ∀ (cdv : Value) (A : Around) (outer : List Env) (s : Shared) (H : Hp) (vs : List V) (Q : VK) (E : XK), Room k (A.deeper (PyProof.Rows.envOfC qual (C8.fnScope st) s.heap.objs.size f cdv)) → sp vs H Q E →
      ∃ t, PSs (cxOf CX0 P w K mg base N qual (C8.fnScope st) f cdv A outer s H E).nox (C8.fnBody st) t ∧ t { nx := fun _ H' => Q .non H', rt := Q } (start N vs) H) : C8.Mak P w K mg base (k + 1) x C sp [] := by
  obtain ⟨u, hm, r⟩ := hm
  cases r
  have e : some (some (Value.ref m0)) = some (some (Value.ref f)) := M.init.symm.trans me.at_
  injection e with e
  injection e with e
  injection e with e
  subst e
  exact C8.mak0 M hm F b .nil S len hbody
end
section
variable {σ : St} {H : Hp} {Q : VK} {K : PySem.W.Frag} {x v : V} {p : Addr} {xs : List V} {b : Bool}
theorem g_inT (hx : SqT K H p xs) (f : flatV x = true) (fs : xs.all flatV = true) (e : inV x xs = b) (q : Q (.bl b) H) : rIn K false x (.ref p) H Q := ⟨p, xs, rfl, .inr hx, f, fs, by rw [e]; exact q⟩
theorem g_inL (hx : SqL K H p xs) (f : flatV x = true) (fs : xs.all flatV = true) (e : inV x xs = b) (q : Q (.bl b) H) : rIn K false x (.ref p) H Q := ⟨p, xs, rfl, .inl hx, f, fs, by rw [e]; exact q⟩
theorem g_ninT (hx : SqT K H p xs) (f : flatV x = true) (fs : xs.all flatV = true) (e : inV x xs = b) (q : Q (.bl (!b)) H) : rIn K true x (.ref p) H Q := ⟨p, xs, rfl, .inr hx, f, fs, by rw [e]; exact q⟩
theorem eqV_ss {a b : Str} : eqV (.str a) (.str b) = decide (a = b) := by
  show (a == b) = decide (a = b)
  by_cases e : a = b
  · subst e; simp
  · rw [decide_eq_false e]; exact beq_false_of_ne e
theorem inV_strs {a : Str} : ∀ {l : List Str}, inV (.str a) (l.map V.str) = decide (a ∈ l)
  | [] => rfl
  | b :: l => by
    have ih := inV_strs (a := a) (l := l)
    unfold inV at ih ⊢
    rw [List.map_cons, List.any_cons, ih, eqV_ss]
    by_cases e : b = a
    · simp [e]
    · have e' : ¬ a = b := fun h => e h.symm
      simp [e, e']
theorem flat_strs : ∀ {l : List Str}, (l.map V.str).all flatV = true
  | [] => rfl
  | b :: l => by rw [List.map_cons, List.all_cons, flat_strs]; rfl
end
/-! ### tuple targets -/
section
variable {X : Cx} {x y z : Str} {i j l k : Nat} {p p1 p2 p3 : Pos}
theorem pg_2 {K : PySem.W.Frag} (hK : X.K = K) (hc : X.calm = true) (hN : X.N.Nodup) (hi : X.N[i]? = some x) (hx : Loc X.env.scope x) (hf : X.fn x = true ∨ X.env.scope.names.lookup x = some .local)
    (hj : X.N[j]? = some y) (hy : Loc X.env.scope y) (hg : X.fn y = true ∨ X.env.scope.names.lookup y = some .local)
    (h1 : (assignEach [.Name x p1, .Name y p2] X.env).map (·.2) = assign (.Name x p1) X.env :: (assignEach [.Name y p2] X.env).map (·.2)) (h2 : (assignEach [.Name y p2] X.env).map (·.2) = assign (.Name y p2) X.env :: (assignEach [] X.env).map (·.2))
    (hn : (assignEach [.Name x p1, .Name y p2] X.env).length = 2) (hst : (assignEach [.Name x p1, .Name y p2] X.env).findIdx? (·.1) = none) :
    PG X (.Tuple [.Name x p1, .Name y p2] k p) (gTup K 2 (gCons (gName i) (gCons (gName j) gNil))) := by
  subst hK
  exact pg_tup hc (pgs_cons (pg_name hN hi hx hf) (pgs_cons (pg_name hN hj hy hg) pgs_nil h2) h1) hn hst
end
/-! ### readings within comprehensions: K told -/
section
variable {X : Cx} {K : PySem.W.Frag}
theorem kOp {r : PySem.W.Frag → R2} {f : Value → Value → Sem Value} (hK : X.K = K) (h : OpR X f (r X.K)) : OpR X f (r K) := hK ▸ h
theorem kCall {r : PySem.W.Frag → List V → Hp → VK → Prop} {f : Value} (hK : X.K = K) (h : CallR X f (r X.K)) : CallR X f (r K) := hK ▸ h
theorem kIx {r : PySem.W.Frag → R2} (hK : X.K = K) (h : IxR X (r X.K)) : IxR X (r K) := hK ▸ h
theorem pe_K {t : PySem.W.Frag → TE} {e : Expr} (hK : X.K = K) (h : PE X e (t X.K)) : PE X e (t K) := hK ▸ h
theorem pi_K {t : PySem.W.Frag → TI} {tg e : Expr} (hK : X.K = K) (h : PI X tg e (t X.K)) : PI X tg e (t K) := hK ▸ h
end
/-! ### tongues -/
/-- none begins with another -/
def Free (names : List Str) : Prop := names.Pairwise fun a b => ¬ a.cps.toList <+: b.cps.toList ∧ ¬ b.cps.toList <+: a.cps.toList
structure NamesOk (names : List Str) : Prop where
  len : names.length = 8
  lo : ∀ n ∈ names, 1 ≤ n.length
  hi : ∀ n ∈ names, n.length ≤ 8
  bi : ∀ n ∈ names, bin n
  free : Free names
  kraft : (names.map fun n => 2 ^ (8 - n.length)).sum ≤ 256
def TongueAt (K : PySem.W.Frag) (H : Hp) (t : Addr) (names : List Str) : Prop := ∃ dx nt, H t = some (.ins (He.ga K "Tongue") dx [("names", .ref nt)]) ∧ H nt = some (.tup (names.map V.str))
theorem TongueAt.same {K : PySem.W.Frag} {H H' : Hp} {t : Addr} {names : List Str} (e : Same H H') (h : TongueAt K H t names) : TongueAt K H' t names := by
  obtain ⟨dx, nt, h1, h2⟩ := h
  exact ⟨dx, nt, e _ _ h1, e _ _ h2⟩
theorem TongueAt.off {K : PySem.W.Frag} {H H' : Hp} {t l : Addr} {names : List Str} {xs : List V} (e : Off l H H') (hl : H l = some (.lst xs)) (h : TongueAt K H t names) : TongueAt K H' t names := by
  obtain ⟨dx, nt, h1, h2⟩ := h
  exact ⟨dx, nt, e _ _ h1 (ne_of h1 hl (by intro z; cases z)), e _ _ h2 (ne_of h2 hl (by intro z; cases z))⟩
theorem starts_pre {a b : Str} (h : PySem.Txt.startswith a b = true) : b.cps.toList <+: a.cps.toList := by
  unfold PySem.Txt.startswith at h
  rw [Bool.and_eq_true] at h
  have h2 := eq_of_beq h.2
  rw [← h2, Array.toList_extract]
  exact List.take_prefix _ _
theorem starts_iff {a b : Str} : PySem.Txt.startswith a b = true ↔ b.cps.toList <+: a.cps.toList := by
  refine ⟨starts_pre, fun h => ?_⟩
  unfold PySem.Txt.startswith
  rw [Bool.and_eq_true]
  have hl := h.length_le
  refine ⟨decide_eq_true (by simpa [Str.length] using hl), ?_⟩
  unfold PySem.Builtin.Str.subAt
  rw [beq_iff_eq]
  apply Array.ext'
  rw [Array.toList_extract]
  have e := List.prefix_iff_eq_take.mp h
  simp only [Nat.zero_add]
  rw [List.extract_eq_take_drop] <;> simp [Str.length]
  exact e.symm
/-! ### slices -/
theorem cutV_from {xs : List V} {k : Nat} : cutV xs (some (k : Int)) none = xs.drop k := by
  unfold cutV
  rw [HT.sIx_nat, HT.sIx_none, List.take_of_length_le (by rw [List.length_drop]; exact Nat.le_refl _)]
  by_cases h : k ≤ xs.length
  · rw [Nat.min_eq_left h]
  · rw [Nat.min_eq_right (by omega), List.drop_of_length_le (Nat.le_refl _), List.drop_of_length_le (by omega)]
theorem cutV_to {xs : List V} {k : Nat} : cutV xs none (some (k : Int)) = xs.take k := by
  unfold cutV
  rw [HT.sIx_nat, HT.sIx_none, Nat.sub_zero, List.drop_zero]
  by_cases h : k ≤ xs.length
  · rw [Nat.min_eq_left h]
  · rw [Nat.min_eq_right (by omega), List.take_of_length_le (Nat.le_refl _), List.take_of_length_le (by omega)]
theorem cutV_toN {xs : List V} {k : Nat} (hk : 0 < k) : cutV xs none (some (-(k : Int))) = xs.take (xs.length - k) := by
  unfold cutV
  rw [HT.sIx_none]
  have e : HT.sIx xs.length xs.length (some (-(k : Int))) = xs.length - k := by
    show (if (-(k : Int)) < 0 then ((-(k : Int)) + (xs.length : Int)).toNat else min (-(k : Int)).toNat xs.length) = _
    rw [if_pos (by omega)]
    omega
  rw [e, Nat.sub_zero, List.drop_zero]
theorem get_map {α β : Type} {f : α → β} {l : List α} {i : Nat} {y : β} (h : (l.map f)[i]? = some y) : ∃ x, l[i]? = some x ∧ f x = y := by
  rw [List.getElem?_map] at h
  exact Option.map_eq_some_iff.mp h
theorem g_fl {K : PySem.W.Frag} {H : Hp} {f : Str} {a C dx : Addr} {fs : List (Str × V)} {v : V} {QV : V → Prop} (ho : H a = some (.ins C dx fs)) (c : Cls K C) (nf : NoAttr K C f) (l : fs.lookup f = some v) (h : QV v) :
    ∃ a' C dx fs v', V.ref a = .ref a' ∧ H a' = some (.ins C dx fs) ∧ Cls K C ∧ NoAttr K C f ∧ fs.lookup f = some v' ∧ QV v' := ⟨a, C, dx, fs, v, rfl, ho, c, nf, l, h⟩
section
variable {σ : St} {H : Hp} {Q : VK} {td ty tv : TE} {D : Ends} {y v : V}
theorem g_dget (h : td σ H fun x H1 => ty σ H1 fun y H2 => ∃ a v, x = .ref a ∧ DGet H2 a y (some v) ∧ Q v H2) : tDGet td ty σ H Q := h
theorem g_din (h : ty σ H fun y H1 => td σ H1 fun x H2 => ∃ a o, x = .ref a ∧ DGet H2 a y o ∧ Q (.bl o.isSome) H2) : tDIn ty td σ H Q := h
theorem g_dput (h : tv σ H fun v H1 => td σ H1 fun x H2 => ty σ H2 fun y H3 => ∃ a H4, x = .ref a ∧ DPut H3 a y v H4 ∧ D.nx σ H4) : sDPut td ty tv D σ H := h
theorem g_dgK {a : Addr} {kvs : List (Key × V)} (k : Key) (ha : H a = some (.dK kvs)) (e : valV kvs k = some v) {QV : V → Prop} (h : QV v) : ∃ a' v', V.ref a = .ref a' ∧ DGet H a' (kV k) (some v') ∧ QV v' := ⟨a, v, rfl, .inl ⟨kvs, k, .inl ha, rfl, e.symm⟩, h⟩
theorem g_diK {a : Addr} {kvs : List (Key × V)} {o : Option V} (k : Key) (ha : H a = some (.dK kvs)) (e : valV kvs k = o) {QV : Option V → Prop} (h : QV o) : ∃ a' o', V.ref a = .ref a' ∧ DGet H a' (kV k) o' ∧ QV o' := ⟨a, o, rfl, .inl ⟨kvs, k, .inl ha, rfl, e.symm⟩, h⟩
theorem g_dpK {a : Addr} {kvs : List (Key × V)} (k : Key) (ha : H a = some (.dK kvs)) (hl : kvs.length < sizeLine) {QH : Hp → Prop} (h : QH (upd H a (.dK (putK kvs k v)))) : ∃ a' H4, V.ref a = .ref a' ∧ DPut H a' (kV k) v H4 ∧ QH H4 := ⟨a, _, rfl, .inl ⟨kvs, k, ha, rfl, hl, rfl⟩, h⟩
end
section
variable {σ : St} {H : Hp} {tv ta : TE} {D : Ends} {y v : V} {K : PySem.W.Frag} {f : Str}
theorem g_sfld (h : tv σ H fun y H1 => ta σ H1 fun x H2 => ∃ a C dx fs, x = .ref a ∧ H2 a = some (.ins C dx fs) ∧ Cls K C ∧ NoAttr K C f ∧ fs.length < 1000 ∧ D.nx σ (upd H2 a (.ins C dx (putF f y fs)))) : sFld K ta tv f D σ H := h
/-- self.f = y: fs2 the fields behind it -/
theorem g_sf {a C dx : Addr} {fs : List (Str × V)} (fs2 : List (Str × V)) {QH : Hp → Prop} (ho : H a = some (.ins C dx fs)) (c : Cls K C) (nf : NoAttr K C f) (l : fs.length < 1000) (e : putF f y fs = fs2) (h : ∀ H', Off a H H' → H' a = some (.ins C dx fs2) → QH H') :
    ∃ a' C dx fs, V.ref a = .ref a' ∧ H a' = some (.ins C dx fs) ∧ Cls K C ∧ NoAttr K C f ∧ fs.length < 1000 ∧ QH (upd H a' (.ins C dx (putF f y fs))) := by
  subst e
  exact ⟨a, C, dx, fs, rfl, ho, c, nf, l, h _ Off.upd upd_same⟩
end
theorem tyL {K : PySem.W.Frag} {H : Hp} {a : Addr} {xs : List V} (h : SqL K H a xs) : tyV K "list" (.ref a) H := .inl ⟨rfl, xs, h⟩
end Dt
set_option Elab.async false
set_option linter.all false
set_option maxRecDepth 100000
set_option maxHeartbeats 4000000
namespace Dt
open PySem PySem.Spec L2
local macro_rules | `(tactic| walk_at "st") => `(tactic| (simp only [L2.start, List.map_cons, List.map_nil, List.length_cons, List.length_nil, List.replicate_succ, List.replicate_zero, List.cons_append, List.nil_append, Nat.zero_add, Nat.reduceAdd, Nat.reduceSub]))
local macro_rules | `(tactic| walk_at "r1") => `(tactic| with_reducible first
  | refine g_seq ?_
  | refine g_next ?_
  | refine g_asg ?_
  | refine g_ifS ?_
  | refine g_ret ?_
  | refine g_retN ?_
  | refine g_drop ?_
  | refine g_brk ?_
  | refine g_c ?_
  | refine g_op ?_
  | refine g_un ?_
  | refine g_I0 ?_
  | refine g_U ?_
  | refine g_eqI ?_
  | refine g_neI ?_
  | refine g_eqS ?_
  | refine g_neS ?_
  | refine g_test ?_
  | refine g_B ?_
  | refine g_bl ?_
  | refine g_if ?_
  | refine g_not ?_
  | refine g_and ?_
  | refine g_or ?_
  | refine g_andV ?_
  | refine g_orV ?_
  | refine g_notV ?_
  | refine g_blif ?_
  | refine g_chain ?_
  | refine g_nil ?_
  | refine g_cons ?_
  | refine g_cb ?_
  | refine g_call ?_
  | refine g_tup ?_
  | refine g_lst ?_
  | refine g_tfld ?_
  | refine g_dget ?_
  | refine g_mk ?_
  | refine g_lc2 ?_
  | refine g_gfld ?_
  | refine g_meth ?_
  | refine g_sfld ?_
  | refine g_din ?_
  | refine g_dput ?_
  | refine g_isN_int ?_
  | refine g_isN_str ?_
  | refine g_isN_ref ?_
  | refine g_isN_non ?_
  | refine g_nN_int ?_
  | refine g_nN_str ?_
  | refine g_nN_ref ?_
  | refine g_nN_non ?_
  | refine g_lc ?_
  | refine g_dc ?_
  | refine g_for ?_
  | refine g_iStr ?_
  | refine g_iList ?_
  | refine g_iTup ?_
  | refine g_iR1 ?_
  | refine g_iR2 ?_
  | refine g_iR3 ?_
  | refine g_iEnum ?_
  | refine g_iZip ?_
  | refine g_iZipA ?_
  | refine g_bm ?_
  | refine g_bm0 ?_
  | refine g_m1 ?_
  | refine g_sl ?_
  | refine g_poN ?_
  | refine g_poS ?_
  | refine g_poI ?_
  | refine g_yes ?_
  | refine g_gtup ?_
  | refine g_gcons ?_
  | refine g_gnil ?_
  | refine g_par ?_
  | refine g_isi_ii ?_
  | refine g_isi_ib ?_
  | refine g_isi_ss ?_
  | refine g_inC ?_
  | refine g_int1 ?_
  | refine g_int1b ?_
  | refine g_abs ?_
  | refine g_ltS ?_
  | refine iteT ?_
  | refine iteNT ?_
  | refine iteNF ?_
  | refine iteF ?_)
local macro_rules | `(tactic| walk_at "sd") => `(tactic| first | assumption | rfl | decide | omega)
local macro_rules | `(tactic| walk_at "hp") => `(tactic| first | assumption | exact upd_same | exact Same.get (by assumption) (by walk_at "hp") | exact Off.get (by assumption) (by walk_at "hp") (by walk_at "ne"))
local macro_rules | `(tactic| walk_at "ne") => `(tactic| first | assumption | (refine Ne.symm ?_; assumption) | exact ne_of_none (by walk_at "hp") (by assumption) | exact ne_none (by walk_at "hp") (by assumption) | exact ne_of (by walk_at "hp") (by walk_at "hp") (by intro z; cases z))
local macro_rules | `(tactic| walk_at "sq") => `(tactic| first | assumption | exact SqL.rd (by walk_at "hp") | exact SqT.rd (by walk_at "hp") | exact Same.seq (by assumption) (by walk_at "sq") | exact Same.seqT (by assumption) (by walk_at "sq"))
local macro_rules | `(tactic| walk_at "rI") => `(tactic| ((with_reducible refine g_I ?_ ?_); (focus (first | (refine Or.inl ⟨?_, ?_⟩ <;> (first | decide | omega)) | (refine Or.inr ⟨?_, ?_⟩ <;> (first | decide | omega)) | (show (0 : Int) < _; first | decide | omega | assumption) | (refine And.intro ?_ ?_ <;> (first | decide | omega | (refine And.intro ?_ ?_ <;> (first | decide | omega))))))))
local macro_rules | `(tactic| walk_at "r2") => `(tactic| first
  | ((with_reducible refine g_tvar ?_); (refine ⟨_, rfl, ?_⟩))
  | ((with_reducible refine g_name' (σ' := ?s) ?e ?h); (case e => (simp only [wipe, List.set_cons_zero, List.set_cons_succ]; first | done | rfl)))
  | (refine And.intro (show wipe _ _ = wipe _ _ from rfl) ?_)
  | walk_at "rI")
local macro_rules | `(tactic| walk_at "rd") => `(tactic| repeat (first | walk_at "r1" | walk_at "r2"))
local macro_rules | `(tactic| walk_at "gn") => `(tactic| (intro pA hA; generalize hG : upd _ _ _ = H2A; (have sA : Same _ H2A := hG ▸ Same.upd hA); (have lA : H2A pA = some _ := hG ▸ upd_same); clear hG))
local macro_rules | `(tactic| walk_at "mk") => `(tactic| (intro xM dxM h1M h2M hneM; generalize hG : upd (upd _ _ _) _ _ = HM; (have sM : Same _ HM := hG ▸ Same.updW (Same.upd h2M) h1M); (have lM : HM xM = some _ := hG ▸ upd_same); clear hG))
section
variable {P : Program} {w : World} {K : PySem.W.Frag} {mg : Str → Option Value} {base : Heap}
theorem free_not {ys : List Str} (h : Free ys) {i : Nat} {x z : Str} (hx : ys[i]? = some x) (hz : ys[i + 1]? = some z) : PySem.Txt.startswith z x = false := by
  cases e : PySem.Txt.startswith z x with
  | false => rfl
  | true =>
    obtain ⟨h1, e1⟩ := List.getElem?_eq_some_iff.mp hx
    obtain ⟨h2, e2⟩ := List.getElem?_eq_some_iff.mp hz
    have q := (List.pairwise_iff_getElem.mp h) i (i + 1) h1 h2 (by omega)
    rw [e1, e2] at q
    exact absurd (starts_pre e) q.1
def sp_is_apart : PySem.W.Frag → Sp := fun K vs H Q _ => ∃ a xs, vs = [.ref a] ∧ SqL K H a (xs.map V.str) ∧ xs.length < 64 ∧ Free xs ∧ ∀ H', Same H H' → Q (.bl true) H'
theorem c_is_apart (T : TX w K mg) : C8.Cal P w K mg base 1 "is_apart" (sp_is_apart K) [] := by
  obtain ⟨f, fd, F, b⟩ := T.d_is_apart
  have nd := sc_is_apart.nd
  refine C8.cal0 F b .nil sc_is_apart (fun vs H Q E h => ?_) (fun cdv A outer s H vs Q E hr h => ?_)
  · obtain ⟨a, xs, rfl, _⟩ := h
    rfl
  · obtain ⟨a, xs, rfl, hx, h64, hf, q⟩ := h
    refine ⟨_, (pss_cons (ps_set (i := 1) nd rfl (Or.inl rfl) (pe_callB cr_sortedS (by rfl) T.z_sorted (by decide +kernel) (pa_cons (pv 0) pa_nil)))
    (pss_one (ps_ret (pe_not (pe_callB (cr_any rfl) (by rfl) T.z_any (by decide +kernel) (pa_cons (pe_lc rfl nd (pi_zip (by rfl) T.z_zip (pa_cons (pv 1) (pa_cons (pe_slice sl_list (pv 1) (po_some pe_int) po_none) pa_nil))) (blkOk_by (own := [("one", 2), ("other", 3)]) (N := n_is_apart) (sc := defScope s_is_apart) (by decide +kernel)) (fun _ _ _ _ _ => (pg_2 (K := K) (i := 2) (j := 3) rfl rfl nd rfl (Or.inl rfl) (by first | exact .inl rfl | exact .inr rfl) rfl (Or.inl rfl) (by first | exact .inl rfl | exact .inr rfl) rfl rfl rfl rfl)) (fun _ _ _ _ _ => pts_nil) (fun _ _ _ _ _ => (pe_m1 PySem.F.slot_str_startswith PySem.F.type_str_startswith mt_startswith (pv 3) (pv 2)))) pa_nil)))))), ?_⟩
    walk_at "st"
    walk_at "rd"
    refine ⟨a, xs, rfl, hx, h64, fun ys p pm so hp => ?_⟩
    have hfy : Free ys := List.Perm.pairwise pm.symm hf (fun h => ⟨h.2, h.1⟩)
    have hl : ys.length < 64 := by rw [pm.length_eq]; exact h64
    have s1 : Same H (upd H p (.lst (ys.map V.str))) := Same.upd hp
    generalize hG : upd H p (.lst (ys.map V.str)) = H1 at s1
    have l1 : H1 p = some (.lst (ys.map V.str)) := hG ▸ upd_same
    clear hG
    walk_at "rd"
    have hcut : cutV (ys.map V.str) (some 1) none = (ys.drop 1).map V.str := (cutV_from (k := 1)).trans List.map_drop.symm
    refine ⟨p, _, rfl, SqL.rd l1, fun p2 hp2 => ?_⟩
    rw [hcut]
    have s2 := Same.upd (o := .lst ((ys.drop 1).map V.str)) hp2
    generalize hG : upd H1 p2 (.lst ((ys.drop 1).map V.str)) = H2 at s2
    have l2 : H2 p2 = some (.lst ((ys.drop 1).map V.str)) := hG ▸ upd_same
    clear hG
    walk_at "rd"
    refine ⟨p, p2, _, _, rfl, SqL.rd (s2 _ _ l1), SqL.rd l2, fun D nD => ?_⟩
    refine lc_it (walk_zip (n := (ys.zip (ys.drop 1)).length) (by simp)) (PvL H2 D (fun c : Str × Str => some (V.bl false)) (ys.zip (ys.drop 1))) (pvl_start nD) (fun _ _ _ pv => ⟨SqL.rd (pv.1 _ _ (s2 _ _ l1)), SqL.rd (pv.1 _ _ l2)⟩) (fun i x H3 H4 hi pv y => ?_) (fun H3 pv => ?_)
    · obtain ⟨T, x, z, rfl, nT, rfl, hx1, hz1⟩ := y
      have s3 := Same.upd (o := .tup [x, z]) nT
      generalize hG : upd H3 T (.tup [x, z]) = H4 at s3
      have l3 : H4 T = some (.tup [x, z]) := hG ▸ upd_same
      clear hG
      obtain ⟨x, hx2, rfl⟩ := get_map hx1
      obtain ⟨z, hz3, rfl⟩ := get_map hz1
      walk_at "rd"
      refine ⟨T, _, rfl, SqT.rd l3, rfl, ?_⟩
      walk_at "rd"
      refine ⟨⟨_, rfl⟩, ?_⟩
      walk_at "rd"
      refine ⟨z, x, rfl, rfl, ?_⟩
      have hz2 : ys[i + 1]? = some z := by rw [List.getElem?_drop] at hz3; rw [Nat.add_comm]; exact hz3
      rw [free_not hfy hx2 hz2]
      exact pvl_yes nD pv s3 (x := (x, z)) (List.getElem?_zip_eq_some.mpr ⟨hx2, hz3⟩) rfl (by simp; rw [sizeLine_eq]; omega)
    · obtain ⟨s4, l4⟩ := pvl_end pv
      rw [fm_map] at l4
      walk_at "rd"
      refine g_any (bs := (ys.zip (ys.drop 1)).map fun _ => false) (SqL.rd (l4.trans (by rw [List.map_map]; rfl))) (b := false) (by rw [List.any_map]; exact List.any_eq_false.mpr (fun _ _ => by simp)) ?_
      walk_at "rd"
      exact q _ ((s1.trans s2).trans s4)
def sp_is_program : PySem.W.Frag → Sp := fun K vs H Q _ => ∃ a, ∃ ws : List Str, vs = [.ref a] ∧ H a = some (.tup (ws.map V.str)) ∧ ws.length ≤ 200 ∧ (∀ x ∈ ws, x ∈ W7) ∧ ∀ H', Same H H' → Q (.bl true) H'
theorem c_is_program (T : TX w K mg) : C8.Cal P w K mg base 1 "is_program" (sp_is_program K) [] := by
  obtain ⟨f, fd, F, b⟩ := T.d_is_program
  have nd := sc_is_program.nd
  refine C8.cal0 F b .nil sc_is_program (fun vs H Q E h => ?_) (fun cdv A outer s H vs Q E hr h => ?_)
  · obtain ⟨a, xs, rfl, _⟩ := h
    rfl
  · obtain ⟨a, ws, rfl, hx, h200, hw, q⟩ := h
    refine ⟨_, (pss_cons (ps_if (PW.pt (pw_or (pt_not (pt_val (pe_callB call_isiT (by rfl) T.z_isinstance (by decide +kernel) (pa_cons (pv 0) (pa_cons (pe_tup (pa_cons (pe_ty (T := "list") (by rfl) T.z_list (by decide +kernel)) (pa_cons (pe_ty (T := "tuple") (by rfl) T.z_tuple (by decide +kernel)) pa_nil))) pa_nil))))) (pw_or1 (pt_cmpR op_gt (pe_callB kc_len (by rfl) T.z_len (by decide +kernel) (pa_cons (pv 0) pa_nil)) (C8.pe_gc (by rfl) T.g_MOST_WORDS_programs) (nomark _)))))
      (pss_one (ps_ret pe_bl))
      pss_nil)
    (pss_one (ps_ret (pe_callB (cr_all rfl) (by rfl) T.z_all (by decide +kernel) (pa_cons (pe_lc rfl nd (pi_tup (pv 0)) (blkOk_by (own := [("each", 1)]) (N := n_is_program) (sc := defScope s_is_program) (by decide +kernel)) (fun _ _ _ _ _ => (pg_name (i := 1) nd rfl (Or.inl rfl))) (fun _ _ _ _ _ => pts_nil) (fun _ _ _ _ _ => (pe_and (pe_callB (kCall (K := K) (r := rIsi) rfl call_isi) (by rfl) T.z_isinstance (by decide +kernel) (pa_cons (pv 1) (pa_cons (pe_ty (T := "str") (by rfl) T.z_str (by decide +kernel)) pa_nil))) (pe_one (pe_cmpR (kOp (K := K) (r := fun K => rIn K false) rfl op_in_seq) (pv 1) (C8.pe_gc (by rfl) T.g_SEVEN) (by rfl)))))) pa_nil))))), ?_⟩
    walk_at "st"
    walk_at "rd"
    refine ⟨by decide, ?_⟩
    walk_at "gn"
    rename_i tp H1 s1 l1
    walk_at "rd"
    refine g_isiT (.base (.tup (s1 _ _ hx))) kitA_tup l1 ?_
    walk_at "rd"
    refine g_lenT (SqT.rd (s1 _ _ hx)) ?_
    walk_at "rd"
    refine ifD_f (by rw [List.length_map]; omega) ?_
    walk_at "rd"
    refine ⟨a, rfl, ⟨_, SqT.rd (s1 _ _ hx)⟩, fun D nD => ?_⟩
    refine lc_it walk_tup (PvL H1 D (fun x : Str => some (V.bl true)) ws) (pvl_start nD) (fun _ _ _ pv => SqT.rd (pv.1 _ _ (s1 _ _ hx))) (fun i x H3 H4 hi pv y => ?_) (fun H3 pv => ?_)
    · obtain ⟨rfl, hx1⟩ := y
      obtain ⟨x, hx2, rfl⟩ := get_map hx1
      walk_at "rd"
      refine g_inT (T.seven _) rfl (flat_strs (l := W7)) (b := true) ((inV_strs (l := W7)).trans (decide_eq_true (hw x (List.mem_of_getElem? hx2)))) ?_
      exact pvl_yes nD pv (Same.refl _) hx2 rfl (by rw [sizeLine_eq]; omega)
    · rw [List.length_map] at pv
      obtain ⟨s4, l4⟩ := pvl_end pv
      rw [fm_map] at l4
      refine g_all (bs := ws.map fun _ => true) (SqL.rd (l4.trans (by rw [List.map_map]; rfl))) (b := true) (by rw [List.all_map]; exact List.all_eq_true.mpr (fun _ _ => rfl)) ?_
      exact q _ (s1.trans s4)
def sp_need_tongue : PySem.W.Frag → Sp := fun K vs H Q _ => ∃ a names, vs = [.ref a, .str "tongue"] ∧ TongueAt K H a names ∧ Q .non H
theorem c_need_tongue (T : TX w K mg) : C8.Cal P w K mg base 1 "need_tongue" (sp_need_tongue K) [.str "tongue"] := by
  obtain ⟨f, fd, ds, F, b, dv⟩ := T.d_need_tongue
  have nd := sc_need_tongue.nd
  refine C8.cal0 F b dv sc_need_tongue (fun vs H Q E h => ?_) (fun cdv A outer s H vs Q E hr h => ?_)
  · obtain ⟨a, xs, rfl, _⟩ := h
    rfl
  · obtain ⟨a, ns, rfl, ⟨dx, nt, h1, h2⟩, q⟩ := h
    refine ⟨_, (pss_one (ps_if (pt_not (pt_val (pe_callB call_isi (by rfl) T.z_isinstance (by decide +kernel) (pa_cons (pv 0) (pa_cons (C8.pe_gc (by rfl) T.v_Tongue) pa_nil)))))
      (pss_one ps_never)
      pss_nil)), ?_⟩
    walk_at "st"
    walk_at "rd"
    refine g_isiIns h1 T.i_Tongue ?_
    walk_at "rd"
    exact q
def sp_need_program : PySem.W.Frag → Sp := fun K vs H Q _ => ∃ a, ∃ ws : List Str, vs = [.ref a, .str "program"] ∧ H a = some (.tup (ws.map V.str)) ∧ ws.length ≤ 200 ∧ (∀ x ∈ ws, x ∈ W7) ∧ ∀ H', Same H H' → Q (.ref a) H'
theorem c_need_program (T : TX w K mg) : C8.Cal P w K mg base 2 "need_program" (sp_need_program K) [.str "program"] := by
  obtain ⟨f, fd, ds, F, b, dv⟩ := T.d_need_program
  have nd := sc_need_program.nd
  refine C8.cal0 F b dv sc_need_program (fun vs H Q E h => ?_) (fun cdv A outer s H vs Q E hr h => ?_)
  · obtain ⟨a, xs, rfl, _⟩ := h
    rfl
  · obtain ⟨a, ws, rfl, hx, h200, hw, q⟩ := h
    refine ⟨_, (pss_cons (ps_if (pt_not (pt_val (C8.pe_c (c_is_program T) hr (by decide) (by rfl) (pa_cons (pv 0) pa_nil))))
      (pss_one ps_never)
      pss_nil)
    (pss_one (ps_ret (pe_callTy kc_tup (by rfl) T.z_tuple (by decide +kernel) (pa_cons (pv 0) pa_nil))))), ?_⟩
    walk_at "st"
    walk_at "rd"
    refine ⟨a, ws, rfl, hx, h200, hw, fun H' s1 => ?_⟩
    walk_at "rd"
    refine g_tupT (SqT.rd (s1 _ _ hx)) ?_
    exact q _ s1
end
end Dt
set_option Elab.async false
set_option linter.all false
set_option maxRecDepth 100000
set_option maxHeartbeats 4000000
namespace Dt
open PySem PySem.Spec L2
local macro_rules | `(tactic| walk_at "st") => `(tactic| (simp only [L2.start, List.map_cons, List.map_nil, List.length_cons, List.length_nil, List.replicate_succ, List.replicate_zero, List.cons_append, List.nil_append, Nat.zero_add, Nat.reduceAdd, Nat.reduceSub]))
local macro_rules | `(tactic| walk_at "r1") => `(tactic| with_reducible first
  | refine g_seq ?_
  | refine g_next ?_
  | refine g_asg ?_
  | refine g_ifS ?_
  | refine g_ret ?_
  | refine g_retN ?_
  | refine g_drop ?_
  | refine g_brk ?_
  | refine g_c ?_
  | refine g_op ?_
  | refine g_un ?_
  | refine g_I0 ?_
  | refine g_U ?_
  | refine g_eqI ?_
  | refine g_neI ?_
  | refine g_eqS ?_
  | refine g_neS ?_
  | refine g_test ?_
  | refine g_B ?_
  | refine g_bl ?_
  | refine g_if ?_
  | refine g_not ?_
  | refine g_and ?_
  | refine g_or ?_
  | refine g_andV ?_
  | refine g_orV ?_
  | refine g_notV ?_
  | refine g_blif ?_
  | refine g_chain ?_
  | refine g_nil ?_
  | refine g_cons ?_
  | refine g_cb ?_
  | refine g_call ?_
  | refine g_tup ?_
  | refine g_lst ?_
  | refine g_tfld ?_
  | refine g_dget ?_
  | refine g_mk ?_
  | refine g_lc2 ?_
  | refine g_gfld ?_
  | refine g_meth ?_
  | refine g_sfld ?_
  | refine g_din ?_
  | refine g_dput ?_
  | refine g_isN_int ?_
  | refine g_isN_str ?_
  | refine g_isN_ref ?_
  | refine g_isN_non ?_
  | refine g_nN_int ?_
  | refine g_nN_str ?_
  | refine g_nN_ref ?_
  | refine g_nN_non ?_
  | refine g_lc ?_
  | refine g_dc ?_
  | refine g_for ?_
  | refine g_iStr ?_
  | refine g_iList ?_
  | refine g_iTup ?_
  | refine g_iR1 ?_
  | refine g_iR2 ?_
  | refine g_iR3 ?_
  | refine g_iEnum ?_
  | refine g_iZip ?_
  | refine g_iZipA ?_
  | refine g_bm ?_
  | refine g_bm0 ?_
  | refine g_m1 ?_
  | refine g_sl ?_
  | refine g_poN ?_
  | refine g_poS ?_
  | refine g_poI ?_
  | refine g_yes ?_
  | refine g_gtup ?_
  | refine g_gcons ?_
  | refine g_gnil ?_
  | refine g_par ?_
  | refine g_isi_ii ?_
  | refine g_isi_ib ?_
  | refine g_isi_ss ?_
  | refine g_inC ?_
  | refine g_int1 ?_
  | refine g_int1b ?_
  | refine g_abs ?_
  | refine g_ltS ?_
  | refine iteT ?_
  | refine iteNT ?_
  | refine iteNF ?_
  | refine iteF ?_)
local macro_rules | `(tactic| walk_at "sd") => `(tactic| first | assumption | rfl | decide | omega)
local macro_rules | `(tactic| walk_at "hp") => `(tactic| first | assumption | exact upd_same | exact Same.get (by assumption) (by walk_at "hp") | exact Off.get (by assumption) (by walk_at "hp") (by walk_at "ne"))
local macro_rules | `(tactic| walk_at "ne") => `(tactic| first | assumption | (refine Ne.symm ?_; assumption) | exact ne_of_none (by walk_at "hp") (by assumption) | exact ne_none (by walk_at "hp") (by assumption) | exact ne_of (by walk_at "hp") (by walk_at "hp") (by intro z; cases z))
local macro_rules | `(tactic| walk_at "sq") => `(tactic| first | assumption | exact SqL.rd (by walk_at "hp") | exact SqT.rd (by walk_at "hp") | exact Same.seq (by assumption) (by walk_at "sq") | exact Same.seqT (by assumption) (by walk_at "sq"))
local macro_rules | `(tactic| walk_at "rI") => `(tactic| ((with_reducible refine g_I ?_ ?_); (focus (first | (refine Or.inl ⟨?_, ?_⟩ <;> (first | decide | omega)) | (refine Or.inr ⟨?_, ?_⟩ <;> (first | decide | omega)) | (show (0 : Int) < _; first | decide | omega | assumption) | (refine And.intro ?_ ?_ <;> (first | decide | omega | (refine And.intro ?_ ?_ <;> (first | decide | omega))))))))
local macro_rules | `(tactic| walk_at "r2") => `(tactic| first
  | ((with_reducible refine g_tvar ?_); (refine ⟨_, rfl, ?_⟩))
  | ((with_reducible refine g_name' (σ' := ?s) ?e ?h); (case e => (simp only [wipe, List.set_cons_zero, List.set_cons_succ]; first | done | rfl)))
  | (refine And.intro (show wipe _ _ = wipe _ _ from rfl) ?_)
  | walk_at "rI")
local macro_rules | `(tactic| walk_at "rd") => `(tactic| repeat (first | walk_at "r1" | walk_at "r2"))
local macro_rules | `(tactic| walk_at "gn") => `(tactic| (intro pA hA; generalize hG : upd _ _ _ = H2A; (have sA : Same _ H2A := hG ▸ Same.upd hA); (have lA : H2A pA = some _ := hG ▸ upd_same); clear hG))
local macro_rules | `(tactic| walk_at "mk") => `(tactic| (intro xM dxM h1M h2M hneM; generalize hG : upd (upd _ _ _) _ _ = HM; (have sM : Same _ HM := hG ▸ Same.updW (Same.upd h2M) h1M); (have lM : HM xM = some _ := hG ▸ upd_same); clear hG))
theorem valV_zip {w : Str} : ∀ {l : List (Str × Str)}, valV (l.map fun c => ((.inr c.1 : Key), V.int (c.2.length : Nat))) (.inr w) = (l.lookup w).map fun n => V.int (n.length : Nat)
  | [] => rfl
  | (a, n) :: l => by
    rw [List.map_cons]
    by_cases e : a = w
    · subst e
      rw [valV_pos rfl, List.lookup_cons, beq_self_eq_true]
      rfl
    · rw [valV_neg (fun z => e (Sum.inr.inj z)), valV_zip, List.lookup_cons, beq_false_of_ne (fun z => e z.symm)]
theorem lookup_zip {w : Str} : ∀ {ks vs : List Str}, w ∈ ks → ks.length = vs.length → ∃ n ∈ vs, (ks.zip vs).lookup w = some n
  | [], _, h, _ => by cases h
  | _ :: _, [], _, h => by cases h
  | k :: ks, v :: vs, h, hl => by
    rw [List.zip_cons_cons, List.lookup_cons]
    by_cases e : w = k
    · subst e
      exact ⟨v, .head _, by rw [beq_self_eq_true]⟩
    · rw [beq_false_of_ne e]
      obtain ⟨n, hn, q⟩ := lookup_zip (w := w) (ks := ks) (vs := vs) (by cases h with | head => exact absurd rfl e | tail _ h => exact h) (by simpa using hl)
      exact ⟨n, .tail _ hn, q⟩
theorem nameOf_get {names : List Str} (hl : names.length = 8) {w : Str} (hw : w ∈ W8) : (W8.zip names).lookup w = some (nameOf names w) ∧ nameOf names w ∈ names := by
  obtain ⟨n, hn, e⟩ := lookup_zip (vs := names) hw (by rw [hl]; rfl)
  unfold nameOf
  rw [e]
  exact ⟨rfl, hn⟩
theorem W78 {w : Str} (h : w ∈ W7) : w ∈ W8 := by
  have e : W8 = W7 ++ [("end" : Str)] := rfl
  rw [e]
  exact List.mem_append_left _ h
theorem end8 : ("end" : Str) ∈ W8 := by decide
theorem lenW_le {names : List Str} (h : NamesOk names) {w : Str} (hw : w ∈ W8) : 1 ≤ lenW names w ∧ lenW names w ≤ 8 := ⟨h.lo _ (nameOf_get h.len hw).2, h.hi _ (nameOf_get h.len hw).2⟩
theorem int_sum {l : List Nat} : (l.map fun n : Nat => (n : Int)).sum = ((l.sum : Nat) : Int) := by
  induction l with
  | nil => rfl
  | cons a l ih => rw [List.map_cons, List.sum_cons, ih, List.sum_cons]; omega
section
variable {P : Program} {w : World} {K : PySem.W.Frag} {mg : Str → Option Value} {base : Heap}
def sp_length_in : PySem.W.Frag → Sp := fun K vs H Q _ => ∃ t p, ∃ names ws : List Str, vs = [.ref t, .ref p] ∧ TongueAt K H t names ∧ NamesOk names ∧ H p = some (.tup (ws.map V.str)) ∧ ws.length ≤ 200 ∧ (∀ x ∈ ws, x ∈ W7) ∧ ∀ H', Same H H' → Q (.int (lenP names ws)) H'
theorem c_length_in (T : TX w K mg) : C8.Cal P w K mg base 1 "length_in" (sp_length_in K) [] := by
  obtain ⟨f, fd, F, b⟩ := T.d_length_in
  have nd := sc_length_in.nd
  refine C8.cal0 F b .nil sc_length_in (fun vs H Q E h => ?_) (fun cdv A outer s H vs Q E hr h => ?_)
  · obtain ⟨t, p, ns, ws, rfl, _⟩ := h
    rfl
  · obtain ⟨t, p, names, ws, rfl, ⟨dx, nt, ht, hn⟩, ok, hp, h200, hw, q⟩ := h
    have hu := hu_of hr
    refine ⟨_, (pss_cons (ps_set (i := 2) nd rfl (Or.inr rfl) (pe_dc rfl nd (RZ.pi_zipA (by rfl) T.z_zip (pa_cons (ClX.pe_cval (C8.pe_gc (by rfl) T.v_Tongue)) (pa_cons (pe_fld (pv 0) rfl) pa_nil))) (blkOk_by (own := [("word", 3), ("name", 4)]) (N := n_length_in) (sc := defScope s_length_in) (by decide +kernel)) (fun _ _ _ _ _ => (pg_2 (K := K) (i := 3) (j := 4) rfl rfl nd rfl (Or.inl rfl) (by first | exact .inl rfl | exact .inr rfl) rfl (Or.inl rfl) (by first | exact .inl rfl | exact .inr rfl) rfl rfl rfl rfl)) (fun _ _ _ _ _ => pts_nil) (fun _ _ _ _ _ => (pv 3)) (fun _ _ _ _ _ => (pe_callB kc_lenS (by rfl) T.z_len (by decide +kernel) (pa_cons (pv 4) pa_nil)))))
    (pss_one (ps_ret (pe_op op_add (pe_callB (cr_sum rfl) (by rfl) T.z_sum (by decide +kernel) (pa_cons (pe_lc rfl nd (pi_tup (pv 1)) (blkOk_by (own := [("word", 3)]) (N := n_length_in) (sc := defScope s_length_in) (by decide +kernel)) (fun _ _ _ _ _ => (pg_name (i := 3) nd rfl (Or.inl rfl))) (fun _ _ _ _ _ => pts_nil) (fun _ _ _ _ _ => (pe_dget hu (pv 2) (pv 3) (fun _ _ => rfl)))) pa_nil)) (pe_dget hu (pv 2) (C8.pe_gc (by rfl) T.g_END_programs) (fun _ _ => rfl)))))), ?_⟩
    walk_at "st"
    walk_at "rd"
    refine ⟨_, _, _, _, rfl, T.cr_Tongue, T.words_val, ?_⟩
    walk_at "rd"
    refine g_fl (v := .ref nt) ht T.cl_Tongue T.n_Tongue_names (by kernel_rfl) ?_
    walk_at "rd"
    refine ⟨_, nt, _, _, rfl, .inr ⟨T.words H, SqT.rd hn, fun D nD => ?_⟩⟩
    refine dc_it (walk_zipT (n := (W8.zip names).length) (by simp)) (PvD H D ((W8.zip names).map fun c => ((.inr c.1 : Key), V.int (c.2.length : Nat)))) (pvd_start nD) (fun _ _ _ pv => ⟨T.words _, SqT.rd (pv.1 _ _ hn)⟩) (fun i x H3 H4 hi pv y => ?_) (fun H3 pv => ?_)
    · obtain ⟨T1, x, z, rfl, nT, rfl, hx1, hz1⟩ := y
      have s3 := Same.upd (o := .tup [x, z]) nT
      generalize hG : upd H3 T1 (.tup [x, z]) = H4 at s3
      have l3 : H4 T1 = some (.tup [x, z]) := hG ▸ upd_same
      clear hG
      obtain ⟨x, hx2, rfl⟩ := get_map hx1
      obtain ⟨z, hz2, rfl⟩ := get_map hz1
      walk_at "rd"
      refine ⟨T1, _, rfl, SqT.rd l3, rfl, ?_⟩
      walk_at "rd"
      have hz8 := ok.hi z (List.mem_of_getElem? hz2)
      refine g_lenS (by rw [sizeLine_eq]; omega) ?_
      refine pvd_yes (k := .inr x) nD pv s3 (by rw [List.getElem?_map, List.getElem?_zip_eq_some (z := (x, z)) |>.mpr ⟨hx2, hz2⟩]; rfl) ?_ (by rw [List.length_map, List.length_zip, ok.len]; decide)
      have e1 : ((W8.zip names).map fun c => ((.inr c.1 : Key), V.int (c.2.length : Nat))).map (·.1) = W8.map Sum.inr := by
        rw [List.map_map]
        show (W8.zip names).map (fun c => (Sum.inr c.1 : Key)) = _
        rw [show (fun c : Str × Str => (Sum.inr c.1 : Key)) = Sum.inr ∘ Prod.fst from rfl, ← List.map_map, List.map_fst_zip (by rw [ok.len]; decide)]
      rw [e1]
      decide +kernel
    · have l4 := pv.2
      have s4 := pv.1
      rw [List.take_of_length_le (by rw [List.length_map]; exact Nat.le_refl _)] at l4
      walk_at "rd"
      refine ⟨p, rfl, ⟨_, SqT.rd (s4 _ _ hp)⟩, fun D2 nD2 => ?_⟩
      refine lc_it walk_tup (PvL H3 D2 (fun x : Str => some (V.int (lenW names x : Nat))) ws) (pvl_start nD2) (fun _ _ _ pv => SqT.rd (pv.1 _ _ (s4 _ _ hp))) (fun i x H5 H6 hi pv y => ?_) (fun H5 pv => ?_)
      · obtain ⟨rfl, hx1⟩ := y
        obtain ⟨x, hx2, rfl⟩ := get_map hx1
        walk_at "rd"
        have hx8 := W78 (hw x (List.mem_of_getElem? hx2))
        refine g_dgK (.inr x) (pv.1 _ _ l4) (v := .int (lenW names x : Nat)) (by rw [valV_zip, (nameOf_get ok.len hx8).1]; rfl) ?_
        · exact pvl_yes nD2 pv (Same.refl _) hx2 rfl (by rw [sizeLine_eq]; omega)
      · rw [List.length_map] at pv
        obtain ⟨s5, l5⟩ := pvl_end pv
        rw [fm_map] at l5
        walk_at "rd"
        refine g_sum (ns := ws.map fun x => (lenW names x : Int)) (SqL.rd (l5.trans (by rw [List.map_map]; rfl))) rfl ?_
        walk_at "rd"
        refine g_dgK (.inr "end") (s5 _ _ l4) (v := .int (lenW names "end" : Nat)) (by rw [valV_zip, (nameOf_get ok.len end8).1]; rfl) ?_
        · have e2 : (ws.map fun x => (lenW names x : Int)).sum + (lenW names "end" : Nat) = ((lenP names ws : Nat) : Int) := by
            unfold lenP
            rw [show (ws.map fun x => (lenW names x : Int)) = (ws.map (lenW names)).map (fun n : Nat => (n : Int)) by rw [List.map_map]; rfl, int_sum]
            omega
          walk_at "rd"
          rw [e2]
          exact q _ (s4.trans s5)
end
end Dt
set_option Elab.async false
set_option linter.all false
set_option maxRecDepth 100000
set_option maxHeartbeats 4000000
namespace Dt
open PySem PySem.Spec L2
local macro_rules | `(tactic| walk_at "st") => `(tactic| (simp only [L2.start, List.map_cons, List.map_nil, List.length_cons, List.length_nil, List.replicate_succ, List.replicate_zero, List.cons_append, List.nil_append, Nat.zero_add, Nat.reduceAdd, Nat.reduceSub]))
local macro_rules | `(tactic| walk_at "r1") => `(tactic| with_reducible first
  | refine g_seq ?_
  | refine g_next ?_
  | refine g_asg ?_
  | refine g_ifS ?_
  | refine g_ret ?_
  | refine g_retN ?_
  | refine g_drop ?_
  | refine g_brk ?_
  | refine g_c ?_
  | refine g_op ?_
  | refine g_un ?_
  | refine g_I0 ?_
  | refine g_U ?_
  | refine g_eqI ?_
  | refine g_neI ?_
  | refine g_eqS ?_
  | refine g_neS ?_
  | refine g_test ?_
  | refine g_B ?_
  | refine g_bl ?_
  | refine g_if ?_
  | refine g_not ?_
  | refine g_and ?_
  | refine g_or ?_
  | refine g_andV ?_
  | refine g_orV ?_
  | refine g_notV ?_
  | refine g_blif ?_
  | refine g_chain ?_
  | refine g_nil ?_
  | refine g_cons ?_
  | refine g_cb ?_
  | refine g_call ?_
  | refine g_tup ?_
  | refine g_lst ?_
  | refine g_tfld ?_
  | refine g_dget ?_
  | refine g_mk ?_
  | refine g_lc2 ?_
  | refine g_gfld ?_
  | refine g_meth ?_
  | refine g_sfld ?_
  | refine g_din ?_
  | refine g_dput ?_
  | refine g_isN_int ?_
  | refine g_isN_str ?_
  | refine g_isN_ref ?_
  | refine g_isN_non ?_
  | refine g_nN_int ?_
  | refine g_nN_str ?_
  | refine g_nN_ref ?_
  | refine g_nN_non ?_
  | refine g_lc ?_
  | refine g_dc ?_
  | refine g_for ?_
  | refine g_iStr ?_
  | refine g_iList ?_
  | refine g_iTup ?_
  | refine g_iR1 ?_
  | refine g_iR2 ?_
  | refine g_iR3 ?_
  | refine g_iEnum ?_
  | refine g_iZip ?_
  | refine g_iZipA ?_
  | refine g_bm ?_
  | refine g_bm0 ?_
  | refine g_m1 ?_
  | refine g_sl ?_
  | refine g_poN ?_
  | refine g_poS ?_
  | refine g_poI ?_
  | refine g_yes ?_
  | refine g_gtup ?_
  | refine g_gcons ?_
  | refine g_gnil ?_
  | refine g_par ?_
  | refine g_isi_ii ?_
  | refine g_isi_ib ?_
  | refine g_isi_ss ?_
  | refine g_inC ?_
  | refine g_int1 ?_
  | refine g_int1b ?_
  | refine g_abs ?_
  | refine g_ltS ?_
  | refine iteT ?_
  | refine iteNT ?_
  | refine iteNF ?_
  | refine iteF ?_)
local macro_rules | `(tactic| walk_at "sd") => `(tactic| first | assumption | rfl | decide | omega)
local macro_rules | `(tactic| walk_at "hp") => `(tactic| first | assumption | exact upd_same | exact Same.get (by assumption) (by walk_at "hp") | exact Off.get (by assumption) (by walk_at "hp") (by walk_at "ne"))
local macro_rules | `(tactic| walk_at "ne") => `(tactic| first | assumption | (refine Ne.symm ?_; assumption) | exact ne_of_none (by walk_at "hp") (by assumption) | exact ne_none (by walk_at "hp") (by assumption) | exact ne_of (by walk_at "hp") (by walk_at "hp") (by intro z; cases z))
local macro_rules | `(tactic| walk_at "sq") => `(tactic| first | assumption | exact SqL.rd (by walk_at "hp") | exact SqT.rd (by walk_at "hp") | exact Same.seq (by assumption) (by walk_at "sq") | exact Same.seqT (by assumption) (by walk_at "sq"))
local macro_rules | `(tactic| walk_at "rI") => `(tactic| ((with_reducible refine g_I ?_ ?_); (focus (first | (refine Or.inl ⟨?_, ?_⟩ <;> (first | decide | omega)) | (refine Or.inr ⟨?_, ?_⟩ <;> (first | decide | omega)) | (show (0 : Int) < _; first | decide | omega | assumption) | (refine And.intro ?_ ?_ <;> (first | decide | omega | (refine And.intro ?_ ?_ <;> (first | decide | omega))))))))
local macro_rules | `(tactic| walk_at "r2") => `(tactic| first
  | ((with_reducible refine g_tvar ?_); (refine ⟨_, rfl, ?_⟩))
  | ((with_reducible refine g_name' (σ' := ?s) ?e ?h); (case e => (simp only [wipe, List.set_cons_zero, List.set_cons_succ]; first | done | rfl)))
  | (refine And.intro (show wipe _ _ = wipe _ _ from rfl) ?_)
  | walk_at "rI")
local macro_rules | `(tactic| walk_at "rd") => `(tactic| repeat (first | walk_at "r1" | walk_at "r2"))
local macro_rules | `(tactic| walk_at "gn") => `(tactic| (intro pA hA; generalize hG : upd _ _ _ = H2A; (have sA : Same _ H2A := hG ▸ Same.upd hA); (have lA : H2A pA = some _ := hG ▸ upd_same); clear hG))
local macro_rules | `(tactic| walk_at "mk") => `(tactic| (intro xM dxM h1M h2M hneM; generalize hG : upd (upd _ _ _) _ _ = HM; (have sM : Same _ HM := hG ▸ Same.updW (Same.upd h2M) h1M); (have lM : HM xM = some _ := hG ▸ upd_same); clear hG))
section
variable {P : Program} {w : World} {K : PySem.W.Frag} {mg : Str → Option Value} {base : Heap}
def sp_Tongue_init : PySem.W.Frag → Sp := fun K vs H Q _ => ∃ a l dx, ∃ names : List Str, vs = [.ref a, .ref l] ∧ H a = some (.ins (He.ga K "Tongue") dx []) ∧ H l = some (.lst (names.map V.str)) ∧ NamesOk names ∧ ∀ H', Off a H H' → TongueAt K H' a names → Q .non H'
theorem k_Tongue (T : TX w K mg) : C8.Mak P w K mg base 3 "Tongue" (He.ga K "Tongue") (sp_Tongue_init K) [] := by
  obtain ⟨f, fd, me, F, b⟩ := T.m_Tongue_init
  have nd := sc_Tongue_init.nd
  refine mak1 me (T.mk_Tongue) T.v_Tongue F b sc_Tongue_init (fun vs H Q E h => ?_) (fun cdv A outer s H vs Q E hr h => ?_)
  · obtain ⟨a, l, dx, ns, rfl, _⟩ := h
    rfl
  · obtain ⟨a, l, dx, names, rfl, ha, hl, ok, q⟩ := h
    have len := ok.len
    refine ⟨_, (pss_cons (ps_if (PW.pt (pw_or (pt_not (pt_val (pe_callB call_isiT (by rfl) T.z_isinstance (by decide +kernel) (pa_cons (pv 1) (pa_cons (pe_tup (pa_cons (pe_ty (T := "list") (by rfl) T.z_list (by decide +kernel)) (pa_cons (pe_ty (T := "tuple") (by rfl) T.z_tuple (by decide +kernel)) pa_nil))) pa_nil))))) (pw_or1 (pt_cmpR op_ne (pe_callB kc_len (by rfl) T.z_len (by decide +kernel) (pa_cons (pv 1) pa_nil)) (pe_callB kc_len (by rfl) T.z_len (by decide +kernel) (pa_cons (ClX.pe_cval (C8.pe_gc (by rfl) T.v_Tongue)) pa_nil)) (nomark _)))))
      (pss_one ps_never)
      pss_nil)
    (pss_cons (ps_if (PW.pt (pw_or (pt_not (pt_val (pe_callB (cr_all rfl) (by rfl) T.z_all (by decide +kernel) (pa_cons (pe_lc rfl nd (pi_list (pv 1)) (blkOk_by (own := [("each", 2)]) (N := n_Tongue_init) (sc := defScope s_Tongue_init) (by decide +kernel)) (fun _ _ _ _ _ => (pg_name (i := 2) nd rfl (Or.inl rfl))) (fun _ _ _ _ _ => pts_nil) (fun _ _ _ _ _ => (C8.pe_c (c_is_short T) hr (by decide) (by rfl) (pa_cons (pv 2) pa_nil)))) pa_nil)))) (pw_or1 (pt_not (pt_val (C8.pe_c (c_is_apart T) hr (by decide) (by rfl) (pa_cons (pv 1) pa_nil)))))))
      (pss_one ps_never)
      pss_nil)
    (pss_one (ps_fld (pv 0) (pe_callTy kc_tup (by rfl) T.z_tuple (by decide +kernel) (pa_cons (pv 1) pa_nil)) rfl)))), ?_⟩
    walk_at "st"
    walk_at "rd"
    refine ⟨by decide, ?_⟩
    walk_at "gn"
    rename_i tp H1 s1 l1
    walk_at "rd"
    refine g_isiT (.base (.lst (s1 _ _ hl))) kitA_list l1 ?_
    walk_at "rd"
    refine g_lenL (SqL.rd (s1 _ _ hl)) ?_
    walk_at "rd"
    refine ⟨_, _, _, _, rfl, T.cr_Tongue, T.words_val, ?_⟩
    walk_at "rd"
    refine g_lenT (T.words _) ?_
    rw [List.length_map, List.length_map, len]
    walk_at "rd"
    refine ifN_f rfl ?_
    walk_at "rd"
    refine ⟨l, rfl, ⟨_, SqL.rd (s1 _ _ hl)⟩, fun D nD => ?_⟩
    refine lc_it walk_list (PvL H1 D (fun x : Str => some (V.bl true)) names) (pvl_start nD) (fun _ _ _ pv => SqL.rd (pv.1 _ _ (s1 _ _ hl))) (fun i x H3 H4 hi pv y => ?_) (fun H3 pv => ?_)
    · obtain ⟨rfl, hx1⟩ := y
      obtain ⟨x, hx2, rfl⟩ := get_map hx1
      have hm := List.mem_of_getElem? hx2
      walk_at "rd"
      refine ⟨x, rfl, ok.lo x hm, ok.hi x hm, ok.bi x hm, fun H5 s5 => ?_⟩
      exact pvl_yes nD pv s5 hx2 rfl (by rw [sizeLine_eq, len]; decide)
    · rw [List.length_map] at pv
      obtain ⟨s4, l4⟩ := pvl_end pv
      rw [fm_map] at l4
      walk_at "rd"
      refine g_all (bs := names.map fun _ => true) (SqL.rd (l4.trans (by rw [List.map_map]; rfl))) (b := true) (by rw [List.all_map]; exact List.all_eq_true.mpr (fun _ _ => rfl)) ?_
      walk_at "rd"
      refine ⟨l, names, rfl, SqL.rd (s4 _ _ (s1 _ _ hl)), by rw [len]; decide, ok.free, fun H5 s5 => ?_⟩
      walk_at "rd"
      have s6 : Same H H5 := (s1.trans s4).trans s5
      refine g_tupL (SqL.rd (s6 _ _ hl)) fun nt hnt => ?_
      have s7 := Same.upd (o := .tup (names.map V.str)) hnt
      generalize hG : upd H5 nt (.tup (names.map V.str)) = H7 at s7
      have l7 : H7 nt = some (.tup (names.map V.str)) := hG ▸ upd_same
      clear hG
      walk_at "rd"
      refine g_sf [("names", .ref nt)] (s7 _ _ (s6 _ _ ha)) T.cl_Tongue T.n_Tongue_names (by decide) (by kernel_rfl) fun H8 o8 l8 => ?_
      have hne : nt ≠ a := ne_none (s6 _ _ ha) hnt
      exact q _ (fun b o hb ne => o8 _ _ (s7 _ _ (s6 _ _ hb)) ne) ⟨dx, nt, l8, o8 _ _ l7 hne⟩
end
end Dt
set_option Elab.async false
set_option linter.all false
set_option maxRecDepth 100000
set_option maxHeartbeats 4000000
namespace Dt
open PySem PySem.Spec L2
local macro_rules | `(tactic| walk_at "st") => `(tactic| (simp only [L2.start, List.map_cons, List.map_nil, List.length_cons, List.length_nil, List.replicate_succ, List.replicate_zero, List.cons_append, List.nil_append, Nat.zero_add, Nat.reduceAdd, Nat.reduceSub]))
local macro_rules | `(tactic| walk_at "r1") => `(tactic| with_reducible first
  | refine g_seq ?_
  | refine g_next ?_
  | refine g_asg ?_
  | refine g_ifS ?_
  | refine g_ret ?_
  | refine g_retN ?_
  | refine g_drop ?_
  | refine g_brk ?_
  | refine g_c ?_
  | refine g_op ?_
  | refine g_un ?_
  | refine g_I0 ?_
  | refine g_U ?_
  | refine g_eqI ?_
  | refine g_neI ?_
  | refine g_eqS ?_
  | refine g_neS ?_
  | refine g_test ?_
  | refine g_B ?_
  | refine g_bl ?_
  | refine g_if ?_
  | refine g_not ?_
  | refine g_and ?_
  | refine g_or ?_
  | refine g_andV ?_
  | refine g_orV ?_
  | refine g_notV ?_
  | refine g_blif ?_
  | refine g_chain ?_
  | refine g_nil ?_
  | refine g_cons ?_
  | refine g_cb ?_
  | refine g_call ?_
  | refine g_tup ?_
  | refine g_lst ?_
  | refine g_tfld ?_
  | refine g_dget ?_
  | refine g_mk ?_
  | refine g_lc2 ?_
  | refine g_gfld ?_
  | refine g_meth ?_
  | refine g_sfld ?_
  | refine g_din ?_
  | refine g_dput ?_
  | refine g_isN_int ?_
  | refine g_isN_str ?_
  | refine g_isN_ref ?_
  | refine g_isN_non ?_
  | refine g_nN_int ?_
  | refine g_nN_str ?_
  | refine g_nN_ref ?_
  | refine g_nN_non ?_
  | refine g_lc ?_
  | refine g_dc ?_
  | refine g_for ?_
  | refine g_iStr ?_
  | refine g_iList ?_
  | refine g_iTup ?_
  | refine g_iR1 ?_
  | refine g_iR2 ?_
  | refine g_iR3 ?_
  | refine g_iEnum ?_
  | refine g_iZip ?_
  | refine g_iZipA ?_
  | refine g_bm ?_
  | refine g_bm0 ?_
  | refine g_m1 ?_
  | refine g_sl ?_
  | refine g_poN ?_
  | refine g_poS ?_
  | refine g_poI ?_
  | refine g_yes ?_
  | refine g_gtup ?_
  | refine g_gcons ?_
  | refine g_gnil ?_
  | refine g_par ?_
  | refine g_isi_ii ?_
  | refine g_isi_ib ?_
  | refine g_isi_ss ?_
  | refine g_inC ?_
  | refine g_int1 ?_
  | refine g_int1b ?_
  | refine g_abs ?_
  | refine g_ltS ?_
  | refine iteT ?_
  | refine iteNT ?_
  | refine iteNF ?_
  | refine iteF ?_)
local macro_rules | `(tactic| walk_at "sd") => `(tactic| first | assumption | rfl | decide | omega)
local macro_rules | `(tactic| walk_at "hp") => `(tactic| first | assumption | exact upd_same | exact Same.get (by assumption) (by walk_at "hp") | exact Off.get (by assumption) (by walk_at "hp") (by walk_at "ne"))
local macro_rules | `(tactic| walk_at "ne") => `(tactic| first | assumption | (refine Ne.symm ?_; assumption) | exact ne_of_none (by walk_at "hp") (by assumption) | exact ne_none (by walk_at "hp") (by assumption) | exact ne_of (by walk_at "hp") (by walk_at "hp") (by intro z; cases z))
local macro_rules | `(tactic| walk_at "sq") => `(tactic| first | assumption | exact SqL.rd (by walk_at "hp") | exact SqT.rd (by walk_at "hp") | exact Same.seq (by assumption) (by walk_at "sq") | exact Same.seqT (by assumption) (by walk_at "sq"))
local macro_rules | `(tactic| walk_at "rI") => `(tactic| ((with_reducible refine g_I ?_ ?_); (focus (first | (refine Or.inl ⟨?_, ?_⟩ <;> (first | decide | omega)) | (refine Or.inr ⟨?_, ?_⟩ <;> (first | decide | omega)) | (show (0 : Int) < _; first | decide | omega | assumption) | (refine And.intro ?_ ?_ <;> (first | decide | omega | (refine And.intro ?_ ?_ <;> (first | decide | omega))))))))
local macro_rules | `(tactic| walk_at "r2") => `(tactic| first
  | ((with_reducible refine g_tvar ?_); (refine ⟨_, rfl, ?_⟩))
  | ((with_reducible refine g_name' (σ' := ?s) ?e ?h); (case e => (simp only [wipe, List.set_cons_zero, List.set_cons_succ]; first | done | rfl)))
  | (refine And.intro (show wipe _ _ = wipe _ _ from rfl) ?_)
  | walk_at "rI")
local macro_rules | `(tactic| walk_at "rd") => `(tactic| repeat (first | walk_at "r1" | walk_at "r2"))
local macro_rules | `(tactic| walk_at "gn") => `(tactic| (intro pA hA; generalize hG : upd _ _ _ = H2A; (have sA : Same _ H2A := hG ▸ Same.upd hA); (have lA : H2A pA = some _ := hG ▸ upd_same); clear hG))
local macro_rules | `(tactic| walk_at "mk") => `(tactic| (intro xM dxM h1M h2M hneM; generalize hG : upd (upd _ _ _) _ _ = HM; (have sM : Same _ HM := hG ▸ Same.updW (Same.upd h2M) h1M); (have lM : HM xM = some _ := hG ▸ upd_same); clear hG))
theorem fm_if {α β : Type} {p : α → Bool} {f : α → β} : ∀ {xs : List α}, xs.filterMap (fun x => if p x = true then some (f x) else none) = (xs.filter p).map f
  | [] => rfl
  | x :: xs => by
    rw [List.filterMap_cons, List.filter_cons]
    by_cases h : p x = true
    · rw [if_pos h, if_pos h, List.map_cons, fm_if]
    · rw [if_neg h, if_neg h, fm_if]
theorem names_split {names : List Str} (h : names.length = 8) : names = names.take 7 ++ [names.getD 7 Str.empty] := by
  match names, h with
  | [a, b, c, d, e, f, g, i], _ => rfl
section
variable {P : Program} {w : World} {K : PySem.W.Frag} {mg : Str → Option Value} {base : Heap}
abbrev natsV (tb : List Nat) : List V := tb.map fun n : Nat => V.int (n : Int)
def sp_many_next : PySem.W.Frag → Sp := fun K vs H Q _ => ∃ t b, ∃ (names : List Str) (tb : List Nat), vs = [.ref t, .ref b] ∧ TongueAt K H t names ∧ NamesOk names ∧ H b = some (.lst (natsV tb)) ∧ ∀ H', Same H H' → Q (.int (mNext names tb : Nat)) H'
theorem c_many_next (T : TX w K mg) : C8.Cal P w K mg base 1 "many_next" (sp_many_next K) [] := by
  obtain ⟨f, fd, F, b⟩ := T.d_many_next
  have nd := sc_many_next.nd
  refine C8.cal0 F b .nil sc_many_next (fun vs H Q E h => ?_) (fun cdv A outer s H vs Q E hr h => ?_)
  · obtain ⟨t, p, ns, ws, rfl, _⟩ := h
    rfl
  · obtain ⟨t, b, names, tb, rfl, ⟨dx, nt, ht, hn⟩, ok, hb, q⟩ := h
    refine ⟨_, (pss_cons (ps_asg (pe_tup (pa_cons (pe_lc rfl nd (pi_tup (pe_fld (pv 0) rfl)) (blkOk_by (own := [("name", 6)]) (N := n_many_next) (sc := defScope s_many_next) (by decide +kernel)) (fun _ _ _ _ _ => (pg_name (i := 6) nd rfl (Or.inl rfl))) (fun _ _ _ _ _ => pts_nil) (fun _ _ _ _ _ => (pe_callB kc_lenS (by rfl) T.z_len (by decide +kernel) (pa_cons (pv 6) pa_nil)))) (pa_cons (pe_callB kc_len (by rfl) T.z_len (by decide +kernel) (pa_cons (pv 1) pa_nil)) pa_nil))) (pg_2 (K := K) (i := 3) (j := 4) rfl rfl nd rfl (Or.inl rfl) (by first | exact .inl rfl | exact .inr rfl) rfl (Or.inr rfl) (by first | exact .inl rfl | exact .inr rfl) rfl rfl rfl rfl))
    (pss_cons (ps_setLc (i := 2) rfl nd rfl rfl (sw_true rfl rfl rfl (by decide +kernel)) (pi_list (pe_slice sl_list (pv 3) po_none (po_some (pe_un un_neg pe_int)))) (blkOk_by (own := [("size", 5)]) (N := n_many_next) (sc := defScope s_many_next) (by decide +kernel)) (fun _ _ _ _ _ => (pg_name (i := 5) nd rfl (Or.inl rfl))) (fun _ _ _ _ _ => (pts_one (pt_cmpR op_le (pv 5) (pv 4) (nomark _)))) (fun _ _ _ _ _ => (pe_ix (kIx (K := K) (r := rIxL) rfl ix_list) (pv 1) (pe_op op_sub (pv 4) (pv 5)) (fun _ _ => rfl))))
    (pss_one (ps_ret (pe_op op_add (pe_callB (cr_sum rfl) (by rfl) T.z_sum (by decide +kernel) (pa_cons (pv 2) pa_nil)) (pe_callTy kc_int (by rfl) T.z_int (by decide +kernel) (pa_cons (pe_cmpR op_eq (pv 4) (pe_ix ix_list (pv 3) (pe_un un_neg pe_int) (fun _ _ => rfl)) (nomark _)) pa_nil))))))), ?_⟩
    walk_at "st"
    walk_at "rd"
    refine g_fl (v := .ref nt) ht T.cl_Tongue T.n_Tongue_names (by kernel_rfl) ?_
    walk_at "rd"
    refine ⟨nt, rfl, ⟨_, SqT.rd hn⟩, fun D nD => ?_⟩
    refine lc_it walk_tup (PvL H D (fun x : Str => some (V.int (x.length : Nat))) names) (pvl_start nD) (fun _ _ _ pv => SqT.rd (pv.1 _ _ hn)) (fun i x H3 H4 hi pv y => ?_) (fun H3 pv => ?_)
    · obtain ⟨rfl, hx1⟩ := y
      obtain ⟨x, hx2, rfl⟩ := get_map hx1
      have hx8 := ok.hi x (List.mem_of_getElem? hx2)
      walk_at "rd"
      refine g_lenS (by rw [sizeLine_eq]; omega) ?_
      exact pvl_yes nD pv (Same.refl _) hx2 rfl (by rw [sizeLine_eq, ok.len]; decide)
    · rw [List.length_map] at pv
      obtain ⟨s4, l4⟩ := pvl_end pv
      rw [fm_map] at l4
      walk_at "rd"
      refine g_lenL (SqL.rd (s4 _ _ hb)) ?_
      walk_at "rd"
      refine ⟨show (2 : Nat) ≤ sizeLine by decide, ?_⟩
      walk_at "gn"
      rename_i tp htp H5 s5 l5
      walk_at "rd"
      refine ⟨tp, _, rfl, SqT.rd l5, rfl, ?_⟩
      walk_at "rd"
      refine ⟨D, _, rfl, SqL.rd (s5 _ _ l4), fun p hp => ?_⟩
      have hc : cutV (names.map fun x => V.int (x.length : Nat)) none (some (-1)) = (names.take 7).map fun x => V.int (x.length : Nat) := by
        refine (cutV_toN (k := 1) (by decide)).trans ?_
        rw [List.length_map, ok.len, List.map_take]
      rw [hc]
      have s6 := Same.upd (o := .lst ((names.take 7).map fun x => V.int (x.length : Nat))) hp
      generalize hG : upd H5 p (.lst ((names.take 7).map fun x => V.int (x.length : Nat))) = H6 at s6
      have l6 : H6 p = some (.lst ((names.take 7).map fun x => V.int (x.length : Nat))) := hG ▸ upd_same
      clear hG
      have s06 := (s4.trans s5).trans s6
      walk_at "rd"
      refine ⟨p, rfl, ⟨_, SqL.rd l6⟩, fun D2 nD2 => ?_⟩
      refine lc_it walk_list (PvL H6 D2 (fun x : Str => if decide (x.length ≤ tb.length) = true then some (V.int (tb.getD (tb.length - x.length) 0 : Nat)) else none) (names.take 7)) (pvl_start nD2) (fun _ _ _ pv => SqL.rd (pv.1 _ _ l6)) (fun i x H7 H8 hi pv y => ?_) (fun H7 pv => ?_)
      · obtain ⟨rfl, hx1⟩ := y
        obtain ⟨x, hx2, rfl⟩ := get_map hx1
        have hx8 := ok.lo x (List.mem_of_mem_take (List.mem_of_getElem? hx2))
        walk_at "rd"
        refine ifD (fun hle => ?_) (fun hle => ?_)
        · walk_at "rd"
          have hle2 : x.length ≤ tb.length := by simpa using hle
          have hlt : tb.length - x.length < tb.length := by omega
          refine g_ixL (SqL.rd (pv.1 _ _ (s06 _ _ hb))) (v := V.int (tb.getD (tb.length - x.length) 0 : Nat)) ?_ ?_
          · rw [show (((natsV tb).length : Nat) : Int) - (x.length : Nat) = ((tb.length - x.length : Nat) : Int) by rw [List.length_map]; omega]
            refine atI_nat ?_
            rw [List.getElem?_map, List.getD_eq_getElem?_getD, List.getElem?_eq_getElem hlt]
            rfl
          · exact pvl_yes nD2 pv (Same.refl _) hx2 (by rw [if_pos (decide_eq_true hle2)]) (by rw [sizeLine_eq, List.length_take]; omega)
        · refine pvl_no pv (Same.refl _) hx2 ?_
          have hle2 : ¬ x.length ≤ tb.length := by simpa using hle
          rw [if_neg (by simpa using hle2)]
      · rw [List.length_map] at pv
        obtain ⟨s7, l7⟩ := pvl_end pv
        rw [fm_if] at l7
        walk_at "rd"
        refine g_sum (ns := ((names.take 7).filter fun n => decide (n.length ≤ tb.length)).map fun n => ((tb.getD (tb.length - n.length) 0 : Nat) : Int)) (SqL.rd (l7.trans (by rw [List.map_map]; rfl))) rfl ?_
        walk_at "rd"
        refine g_ixL (SqL.rd (s7 _ _ (s6 _ _ (s5 _ _ l4)))) (v := V.int ((names.getD 7 Str.empty).length : Nat)) ?_ ?_
        · have e := names_split ok.len
          have e2 : (names.map fun x => V.int (x.length : Nat)) = ((names.take 7).map fun x => V.int (x.length : Nat)) ++ [V.int ((names.getD 7 Str.empty).length : Nat)] := by
            conv => lhs; rw [e]
            rw [List.map_append]
            rfl
          rw [e2]
          exact atI_last _ _
        · walk_at "rd"
          have e3 : (((names.take 7).filter fun n => decide (n.length ≤ tb.length)).map fun n => ((tb.getD (tb.length - n.length) 0 : Nat) : Int)).sum + (if decide ((((natsV tb).length : Nat) : Int) = ((names.getD 7 Str.empty).length : Nat)) = true then 1 else 0) = ((mNext names tb : Nat) : Int) := by
            unfold mNext
            rw [show (((names.take 7).filter fun n => decide (n.length ≤ tb.length)).map fun n => ((tb.getD (tb.length - n.length) 0 : Nat) : Int)) = (((names.take 7).filter fun n => decide (n.length ≤ tb.length)).map fun n => tb.getD (tb.length - n.length) 0).map (fun n : Nat => (n : Int)) by rw [List.map_map]; rfl, int_sum]
            rw [List.length_map]
            by_cases h : tb.length = (names.getD 7 Str.empty).length
            · rw [if_pos h, if_pos (decide_eq_true (by omega))]; omega
            · rw [if_neg h, if_neg (fun z => h (by have z2 := of_decide_eq_true z; omega))]; omega
          rw [e3]
          exact q _ (s06.trans s7)
end
end Dt
set_option Elab.async false
set_option linter.all false
set_option maxRecDepth 100000
set_option maxHeartbeats 4000000
/-! R1: choices_of: sorted(zip(tuple, tuple)). -/
namespace Dt
open PySem PySem.Spec L2
section
variable {P : Program} {w : World} {K : PySem.W.Frag} {mg : Str → Option Value} {base : Heap}
/-- objects at the addresses, one for each -/
def Objs {α : Type} (H : Hp) (R : Hp → Addr → α → Prop) (as : List Addr) (xs : List α) : Prop := as.length = xs.length ∧ ∀ (i : Nat) (a : Addr) (x : α), as[i]? = some a → xs[i]? = some x → R H a x
def PairAt (H : Hp) (a : Addr) (c : Str × Str) : Prop := H a = some (.tup [.str c.1, .str c.2])
/-- a list of pairs -/
def ChAt (H : Hp) (c : Addr) (ch : Ch) : Prop := ∃ as : List Addr, H c = some (.lst (as.map V.ref)) ∧ Objs H PairAt as ch
theorem Objs.same {α : Type} {H H' : Hp} {R : Hp → Addr → α → Prop} {as : List Addr} {xs : List α} (hr : ∀ a x, R H a x → R H' a x) (h : Objs H R as xs) : Objs H' R as xs := ⟨h.1, fun i a x e1 e2 => hr a x (h.2 i a x e1 e2)⟩
theorem ChAt.same {H H' : Hp} {c : Addr} {ch : Ch} (e : Same H H') (h : ChAt H c ch) : ChAt H' c ch := by
  obtain ⟨as, h1, h2⟩ := h
  exact ⟨as, e _ _ h1, h2.same fun a x q => e _ _ q⟩
theorem ChAt.off {H H' : Hp} {c l : Addr} {ch : Ch} (e : Off l H H') (n : c ≠ l) (hl : ∀ xs, H l ≠ some (.tup xs)) (h : ChAt H c ch) : ChAt H' c ch := by
  obtain ⟨as, h1, h2⟩ := h
  exact ⟨as, e _ _ h1 n, h2.same fun a x q => e _ _ q (fun z => hl _ (z ▸ q))⟩
/-- the pairs (name, word) by the names' order -/
def chF (names : List Str) : Ch := (names.zip W8).mergeSort fun a b => decide (a.1.cps.toList ≤ b.1.cps.toList)
theorem chF_perm {names : List Str} : (chF names).Perm (names.zip W8) := List.mergeSort_perm _ _
def sp_choices_of : PySem.W.Frag → Sp := fun K vs H Q _ => ∃ t, ∃ names : List Str, vs = [.ref t] ∧ TongueAt K H t names ∧ NamesOk names ∧ ∀ c H', Same H H' → ChAt H' c (chF names) → H c = none → Q (.ref c) H'
end
end Dt
set_option Elab.async false
set_option linter.all false
set_option maxRecDepth 100000
set_option maxHeartbeats 4000000
/-! Z1: sorted(zip(tuple, tuple)), the raw part: the tuples that zip hands out are kept. -/
namespace Dt.Z
open PySem PySem.W PySem.Calls PyProof.Rows PyProof.V PySem.Spec RZ
/-- a zip whose last tuple T is out -/
abbrev IsZipO (h : Heap) (z TI TO T : Addr) (f : Bool) : Prop :=
  h.get? z = some { cls := .type "zip", dict := none, data := .fields #[rawInt T, .bool f, .bool false, .ref TI, .ref TO], slots := #[] }
section
variable {prog : Program} {w : World} {A : Around} {E : Value → Shared → Prop} {s : Shared}
variable {z TI TO i1 i2 l1 l2 T : Addr}
theorem zipO_next_item {k1 k2 : Nat} {xs ys : Array Value} {x y : Value} {f : Bool} {oT : Obj} {Q : Value → Shared → Prop} (D : ZipApart z TI TO i1 i2 l1 l2)
    (hz : IsZipO s.heap z TI TO T f) (hTI : IsPair s.heap TI (.ref i1) (.ref i2)) (hT : s.heap.get? T = some oT)
    (h1 : s.heap.IsTupleIter i1 l1 k1) (h2 : s.heap.IsTupleIter i2 l2 k2) (hl1 : s.heap.IsTuple l1 xs) (hl2 : s.heap.IsTuple l2 ys) (hx : xs[k1]? = some x) (hy : ys[k2]? = some y)
    (hQ : ∀ h', IsZipO h' z TI TO T true → h'.IsTupleIter i1 l1 (k1 + 1) → h'.IsTupleIter i2 l2 (k2 + 1) → IsPair h' s.heap.objs.size x y → h'.objs.size = s.heap.objs.size + 1 →
      (∀ c o, c ≠ z → c ≠ i1 → c ≠ i2 → s.heap.get? c = some o → h'.get? c = some o) → Q (.ref s.heap.objs.size) { s with heap := h' }) :
    wpAny (model prog w) A (Builtin.«zip.__next__» ⟨[.ref z], []⟩) (fun fin s' => ∃ v, fin = .done (.ret v) ∧ Q v s') E s := by
  show wpAny _ _ (field (.ref z) 2 >>= _) _ _ _
  refine wpAny_bind (wpAny_field hz rfl (x := .bool false) rfl ?_)
  show wpAny _ _ (field (.ref z) 3 >>= _) _ _ _
  refine wpAny_bind (wpAny_field hz rfl (x := .ref TI) rfl ?_)
  refine wpAny_bind (wpAny_seqItems hTI rfl ?_)
  show wpAny _ _ (Builtin.SmallTypes.ownedTupleIsFree (.ref z) >>= _) _ _ _
  refine wpAny_bind (wpAny_mono (Q := fun b s' => b = false ∧ ∃ h₁, s' = { s with heap := h₁ } ∧ IsZipO h₁ z TI TO T true ∧ Heap.SameBut z s.heap h₁) (E := E) ?_ ?_ fun _ _ x => x)
  · unfold Builtin.SmallTypes.ownedTupleIsFree
    refine wpAny_bind (wpAny_field hz rfl (x := rawInt T) rfl ?_)
    show wpAny _ _ (loadIfAlive ((T : Int).toNat) >>= _) _ _ _
    rw [Int.toNat_natCast]
    refine wpAny_bind (kdx_alive hT ?_)
    simp only [Option.isNone_some, Bool.false_eq_true, if_false]
    refine wpAny_bind (wpAny_field hz rfl (x := .bool f) rfl ?_)
    cases f with
    | true =>
      rw [if_neg (show ¬ ((Value.bool true != Value.bool true) = true) from Bool.false_ne_true)]
      exact wpAny_pure ⟨rfl, s.heap, rfl, hz, Heap.SameBut.refl _ _⟩
    | false =>
      rw [if_pos (show (Value.bool false != Value.bool true) = true from rfl)]
      refine wpAny_bind (wpAny_setField_rec hz (by simp) fun h₃ he₃ hs₃ => ?_)
      exact wpAny_pure ⟨rfl, h₃, rfl, he₃, hs₃⟩
  · rintro b s' ⟨rfl, h₁, rfl, hz₁, hs₁⟩
    simp only [Bool.false_eq_true, if_false]
    refine wpAny_bind ?_
    simp only [← Array.forIn_toList, List.forIn_cons, List.forIn_nil]
    refine wpAny_bind (wpAny_bind (wpAny_holding ?_))
    show wpAny _ _ (Builtin.SmallTypes.nextOf (.ref i1) >>= _) _ _ _
    refine wpAny_bind (nextOf_tuple_item (h1.extBut hs₁.extBut D.i1z) (hl1.extBut hs₁.extBut D.l1z) hx fun h₂ h1₂ hs₂ => wpAny_pure ?_)
    refine wpAny_pure ?_
    refine wpAny_bind (wpAny_bind (wpAny_holding ?_))
    show wpAny _ _ (Builtin.SmallTypes.nextOf (.ref i2) >>= _) _ _ _
    refine wpAny_bind (nextOf_tuple_item ((h2.extBut hs₁.extBut D.i2z).extBut hs₂.extBut D.i12.symm) ((hl2.extBut hs₁.extBut D.l2z).extBut hs₂.extBut D.l2i1) hy fun h₃ h2₃ hs₃ => wpAny_pure ?_)
    refine wpAny_pure (wpAny_pure ?_)
    refine wpAny_bind (wpAny_newTuple (hsz := (show (2 : Nat) ≤ sizeLine by decide)) ?_)
    have hsz : h₃.objs.size = s.heap.objs.size := by rw [hs₃.1, hs₂.1, hs₁.1]
    refine wpAny_pure ⟨_, rfl, ?_⟩
    show Q (.ref h₃.objs.size) { s with heap := h₃.push { cls := .type "tuple", data := .seq #[x, y] } }
    rw [hsz]
    have hz₃ : IsZipO h₃ z TI TO T true := hs₃.extBut _ _ D.i2z.symm (hs₂.extBut _ _ D.i1z.symm hz₁)
    have up : ∀ c o, h₃.get? c = some o → (h₃.push { cls := .type "tuple", data := .seq #[x, y] }).get? c = some o := fun c o e => Heap.get?_push_of_some _ e
    refine hQ _ (up _ _ hz₃) ((h1₂.extBut hs₃.extBut D.i12).at fun o e => up _ o e) (h2₃.at fun o e => up _ o e) ?_ (by rw [Heap.size_push, hsz]) fun c o c1 c2 c3 e => up _ _ (hs₃.extBut _ _ c3 (hs₂.extBut _ _ c2 (hs₁.extBut _ _ c1 e)))
    rw [← hsz]
    exact Heap.get?_push_size _ rfl
theorem zipO_next_end {k1 : Nat} {xs : Array Value} {f : Bool} {oT : Obj} {Q : Fin → Shared → Prop} (hh : A.handled = none) (D : ZipApart z TI TO i1 i2 l1 l2)
    (hz : IsZipO s.heap z TI TO T f) (hTI : IsPair s.heap TI (.ref i1) (.ref i2)) (hT : s.heap.get? T = some oT)
    (h1 : s.heap.IsTupleIter i1 l1 k1) (hl1 : s.heap.IsTuple l1 xs) (hend : xs[k1]? = none)
    (hE : ∀ h' e, (∀ c o, c ≠ z → c ≠ i1 → c ≠ i2 → s.heap.get? c = some o → h'.get? c = some o) → (∃ o, h'.get? e = some o ∧ o.cls = .type "StopIteration") → E (.ref e) { s with heap := h' }) :
    wpAny (model prog w) A (Builtin.«zip.__next__» ⟨[.ref z], []⟩) Q E s := by
  show wpAny _ _ (field (.ref z) 2 >>= _) _ _ _
  refine wpAny_bind (wpAny_field hz rfl (x := .bool false) rfl ?_)
  show wpAny _ _ (field (.ref z) 3 >>= _) _ _ _
  refine wpAny_bind (wpAny_field hz rfl (x := .ref TI) rfl ?_)
  refine wpAny_bind (wpAny_seqItems hTI rfl ?_)
  show wpAny _ _ (Builtin.SmallTypes.ownedTupleIsFree (.ref z) >>= _) _ _ _
  refine wpAny_bind (wpAny_mono (Q := fun b s' => b = false ∧ ∃ h₁, s' = { s with heap := h₁ } ∧ IsZipO h₁ z TI TO T true ∧ Heap.SameBut z s.heap h₁) (E := E) ?_ ?_ fun _ _ x => x)
  · unfold Builtin.SmallTypes.ownedTupleIsFree
    refine wpAny_bind (wpAny_field hz rfl (x := rawInt T) rfl ?_)
    show wpAny _ _ (loadIfAlive ((T : Int).toNat) >>= _) _ _ _
    rw [Int.toNat_natCast]
    refine wpAny_bind (kdx_alive hT ?_)
    simp only [Option.isNone_some, Bool.false_eq_true, if_false]
    refine wpAny_bind (wpAny_field hz rfl (x := .bool f) rfl ?_)
    cases f with
    | true =>
      rw [if_neg (show ¬ ((Value.bool true != Value.bool true) = true) from Bool.false_ne_true)]
      exact wpAny_pure ⟨rfl, s.heap, rfl, hz, Heap.SameBut.refl _ _⟩
    | false =>
      rw [if_pos (show (Value.bool false != Value.bool true) = true from rfl)]
      refine wpAny_bind (wpAny_setField_rec hz (by simp) fun h₃ he₃ hs₃ => ?_)
      exact wpAny_pure ⟨rfl, h₃, rfl, he₃, hs₃⟩
  · rintro b s' ⟨rfl, h₁, rfl, hz₁, hs₁⟩
    simp only [Bool.false_eq_true, if_false]
    refine wpAny_bind ?_
    simp only [← Array.forIn_toList, List.forIn_cons, List.forIn_nil]
    refine wpAny_bind (wpAny_bind (wpAny_holding ?_))
    show wpAny _ _ (Builtin.SmallTypes.nextOf (.ref i1) >>= _) _ _ _
    refine wpAny_bind (nextOf_tuple_end hh (h1.extBut hs₁.extBut D.i1z) (hl1.extBut hs₁.extBut D.l1z) hend fun h₂ e hs₂ he => ?_)
    exact hE h₂ e (fun c o c1 c2 c3 x => hs₂ _ _ c2 (hs₁.extBut _ _ c1 x)) he
theorem pyNext_zipO_item {k1 k2 : Nat} {xs ys : Array Value} {x y : Value} {f : Bool} {oT : Obj} {Q : Option Value → Shared → Prop} (D : ZipApart z TI TO i1 i2 l1 l2)
    (hz : IsZipO s.heap z TI TO T f) (hTI : IsPair s.heap TI (.ref i1) (.ref i2)) (hT : s.heap.get? T = some oT)
    (h1 : s.heap.IsTupleIter i1 l1 k1) (h2 : s.heap.IsTupleIter i2 l2 k2) (hl1 : s.heap.IsTuple l1 xs) (hl2 : s.heap.IsTuple l2 ys) (hx : xs[k1]? = some x) (hy : ys[k2]? = some y)
    (hQ : ∀ h', IsZipO h' z TI TO T true → h'.IsTupleIter i1 l1 (k1 + 1) → h'.IsTupleIter i2 l2 (k2 + 1) → IsPair h' s.heap.objs.size x y → h'.objs.size = s.heap.objs.size + 1 →
      (∀ c o, c ≠ z → c ≠ i1 → c ≠ i2 → s.heap.get? c = some o → h'.get? c = some o) → Q (some (.ref s.heap.objs.size)) { s with heap := h' }) :
    wpAny (model prog w) A (pyNext (.ref z)) Q E s := by
  have hTy : s.TypeIs (.ref z) "zip" := ⟨_, hz, rfl⟩
  unfold pyNext
  exact wpAny_bind (wpAny_attempt (wpAny_callSpecial?_slot (name := Str.ofString "__next__") hTy PySem.F.slot_zip_next
    (wpAny_call_entry PySem.F.slot_zip_next hTy PySem.F.entry_zip_next
      (zipO_next_item D hz hTI hT h1 h2 hl1 hl2 hx hy fun h' a1 a3 a4 a5 a6 a7 => wpAny_pure (hQ h' a1 a3 a4 a5 a6 a7)) (PySem.F.args_zip_next_1 _))))
theorem pyNext_zipO_end {k1 : Nat} {xs : Array Value} {f : Bool} {oT : Obj} {Q : Option Value → Shared → Prop} (hh : A.handled = none) (D : ZipApart z TI TO i1 i2 l1 l2)
    (hz : IsZipO s.heap z TI TO T f) (hTI : IsPair s.heap TI (.ref i1) (.ref i2)) (hT : s.heap.get? T = some oT)
    (h1 : s.heap.IsTupleIter i1 l1 k1) (hl1 : s.heap.IsTuple l1 xs) (hend : xs[k1]? = none)
    (hQ : ∀ h', (∀ c o, c ≠ z → c ≠ i1 → c ≠ i2 → s.heap.get? c = some o → h'.get? c = some o) → Q none { s with heap := h' }) : wpAny (model prog w) A (pyNext (.ref z)) Q E s := by
  have hTy : s.TypeIs (.ref z) "zip" := ⟨_, hz, rfl⟩
  unfold pyNext
  refine wpAny_bind (wpAny_attempt (wpAny_callSpecial?_slot (name := Str.ofString "__next__") hTy PySem.F.slot_zip_next
    (wpAny_call_entry PySem.F.slot_zip_next hTy PySem.F.entry_zip_next (zipO_next_end hh D hz hTI hT h1 hl1 hend fun h' e hk he => ?_) (PySem.F.args_zip_next_1 _))))
  obtain ⟨o, ho, hc⟩ := he
  refine wpAny_bind (wpAny_isInstance (T := "StopIteration") (b := true) ⟨o, ho, hc⟩ isSubtype_stop ?_)
  exact wpAny_pure (hQ _ hk)
/-- a zip of two tuples behind i draws, the draws kept -/
structure ZSt (h : Heap) (z TI TO i1 i2 l1 l2 S : Addr) (i : Nat) : Prop where
  st : (i = 0 ∧ IsZip h z TI TO .none ∧ ∃ a b, IsPair h TO a b) ∨ ∃ T f oT, IsZipO h z TI TO T f ∧ h.get? T = some oT ∧ T ≠ z ∧ T ≠ i1 ∧ T ≠ i2 ∧ T ≠ S
  ti : IsPair h TI (.ref i1) (.ref i2)
  p1 : h.IsTupleIter i1 l1 i
  p2 : h.IsTupleIter i2 l2 i
theorem ZSt.keep {h h' : Heap} {z TI TO i1 i2 l1 l2 S : Addr} {i : Nat} (x : ZSt h z TI TO i1 i2 l1 l2 S i) (hk : ∀ b o, b ≠ S → h.get? b = some o → h'.get? b = some o) (n1 : z ≠ S) (n2 : TI ≠ S) (n3 : TO ≠ S) (n4 : i1 ≠ S) (n5 : i2 ≠ S) : ZSt h' z TI TO i1 i2 l1 l2 S i where
  st := by
    rcases x.st with ⟨e, q, a, b, q2⟩ | ⟨T, f, oT, q, hT, r1, r2, r3, r4⟩
    · exact .inl ⟨e, hk _ _ n1 q, a, b, hk _ _ n3 q2⟩
    · exact .inr ⟨T, f, oT, hk _ _ n1 q, hk _ _ r4 hT, r1, r2, r3, r4⟩
  ti := hk _ _ n2 x.ti
  p1 := x.p1.at fun o e => hk _ o n4 e
  p2 := x.p2.at fun o e => hk _ o n5 e
theorem nxtZ {S : Addr} {i : Nat} {xs ys : Array Value} {x y : Value} {Q : Option Value → Shared → Prop} (D : ZipApart z TI TO i1 i2 l1 l2) (hst : ZSt s.heap z TI TO i1 i2 l1 l2 S i) (hS : S < s.heap.objs.size)
    (hl1 : s.heap.IsTuple l1 xs) (hl2 : s.heap.IsTuple l2 ys) (hx : xs[i]? = some x) (hy : ys[i]? = some y)
    (hQ : ∀ h', ZSt h' z TI TO i1 i2 l1 l2 S (i + 1) → h'.get? s.heap.objs.size = some { cls := .type "tuple", data := .seq #[x, y] } → h'.objs.size = s.heap.objs.size + 1 →
      (∀ b o, b ≠ z → b ≠ TO → b ≠ i1 → b ≠ i2 → s.heap.get? b = some o → h'.get? b = some o) → Q (some (.ref s.heap.objs.size)) { s with heap := h' }) :
    wpAny (model prog w) A (pyNext (.ref z)) Q E s := by
  have b1 : i1 < s.heap.objs.size := by obtain ⟨_, e, _⟩ := hst.p1; exact Heap.lt_size e
  have b2 : i2 < s.heap.objs.size := by obtain ⟨_, e, _⟩ := hst.p2; exact Heap.lt_size e
  rcases hst.st with ⟨rfl, hz, a, b, hTO⟩ | ⟨T, f, oT, hz, hT, r1, r2, r3, r4⟩
  · have bz := Heap.lt_size hz
    refine pyNext_zipT_item D hz hst.ti hTO hst.p1 hst.p2 hl1 hl2 hx hy fun h' a1 a2 a3 a4 a5 a6 a7 => hQ h' ⟨.inr ⟨_, false, _, a1, a5, Nat.ne_of_gt bz, Nat.ne_of_gt b1, Nat.ne_of_gt b2, Nat.ne_of_gt hS⟩, a7 _ _ D.TIz D.TITO D.TIi1 D.TIi2 hst.ti, a3, a4⟩ a5 a6 a7
  · refine pyNext_zipO_item D hz hst.ti hT hst.p1 hst.p2 hl1 hl2 hx hy fun h' a1 a3 a4 a5 a6 a7 => hQ h' ⟨.inr ⟨T, true, oT, a1, a7 _ _ r1 r2 r3 hT, r1, r2, r3, r4⟩, a7 _ _ D.TIz D.TIi1 D.TIi2 hst.ti, a3, a4⟩ a5 a6 fun b o c1 c2 c3 c4 e => a7 b o c1 c3 c4 e
theorem finZ {S : Addr} {i : Nat} {xs ys : Array Value} {Q : Option Value → Shared → Prop} (hh : A.handled = none) (D : ZipApart z TI TO i1 i2 l1 l2) (hst : ZSt s.heap z TI TO i1 i2 l1 l2 S i)
    (hl1 : s.heap.IsTuple l1 xs) (hl2 : s.heap.IsTuple l2 ys) (hend : xs[i]? = none)
    (hQ : ∀ h', (∀ b o, b ≠ z → b ≠ TO → b ≠ i1 → b ≠ i2 → s.heap.get? b = some o → h'.get? b = some o) → Q none { s with heap := h' }) : wpAny (model prog w) A (pyNext (.ref z)) Q E s := by
  rcases hst.st with ⟨rfl, hz, a, b, hTO⟩ | ⟨T, f, oT, hz, hT, r1, r2, r3, r4⟩
  · exact pyNext_zipT_end hh D hz hst.ti hTO hst.p1 hst.p2 hl1 hl2 (.inl hend) hQ
  · exact pyNext_zipO_end hh D hz hst.ti hT hst.p1 hl1 hend fun h' k => hQ h' fun b o c1 c2 c3 c4 e => k b o c1 c3 c4 e
end
theorem nolen_zip : typeLookup (.type "zip") "__len__" = pure none := by rw [typeLookup_type, builtinLookup_eq_fast]; kernel_rfl
theorem nohint_zip : typeLookup (.type "zip") "__length_hint__" = pure none := by rw [typeLookup_type, builtinLookup_eq_fast]; kernel_rfl
/-- the pairs that were drawn -/
structure MadeZ (xs ys : Array Value) (lo : Addr) (h : Heap) (as : List Addr) : Prop where
  rise : as.Pairwise (· < ·)
  above : ∀ a ∈ as, lo < a
  pairs : ∀ (j : Nat) (a : Addr), as[j]? = some a → ∃ x y, xs[j]? = some x ∧ ys[j]? = some y ∧ h.get? a = some { cls := .type "tuple", data := .seq #[x, y] }
theorem MadeZ.there {xs ys : Array Value} {lo : Addr} {h : Heap} {as : List Addr} (g : MadeZ xs ys lo h as) {a : Addr} (ha : a ∈ as) : a < h.objs.size := by
  obtain ⟨j, hj⟩ := List.mem_iff_getElem?.mp ha
  obtain ⟨_, _, _, _, e⟩ := g.pairs j a hj
  exact Heap.lt_size e
section
variable {prog : Program} {w : World} {A : Around} {E : Value → Shared → Prop} {s : Shared}
variable {z TI TO i1 i2 l1 l2 S : Addr} {xs ys : Array Value}
theorem loopZ {R : Result → Shared → Prop} (hh : A.handled = none) (D : ZipApart z TI TO i1 i2 l1 l2) (nz : z < S) (nTI : TI < S) (nTO : TO < S) (n1 : i1 < S) (n2 : i2 < S) (nl1 : l1 < S) (nl2 : l2 < S) (hxy : xs.size = ys.size) (hn : xs.size ≤ sizeLine) (res : Value) {h₁ : Heap}
    (hR : ∀ h' tk acc c as, (∀ b o, b ≠ S → b ≠ z → b ≠ TO → b ≠ i1 → b ≠ i2 → h₁.get? b = some o → h'.get? b = some o) → h'.get? S = some { cls := .type "list", dict := none, data := .seq acc c, slots := #[] } → as.length = xs.size → MadeZ xs ys S h' as →
      acc.toList = as.map Value.ref → R (.ok (.ret res)) { s with heap := h', toks := tk }) :
    ∀ (k i : Nat) (h : Heap) (tk c : Nat) (acc : Array Value) (as : List Addr), xs.size - i = k → i ≤ xs.size → ZSt h z TI TO i1 i2 l1 l2 S i → h.IsTuple l1 xs → h.IsTuple l2 ys → (∀ b o, b ≠ S → b ≠ z → b ≠ TO → b ≠ i1 → b ≠ i2 → h₁.get? b = some o → h.get? b = some o) →
      h.get? S = some { cls := .type "list", dict := none, data := .seq acc c, slots := #[] } → acc.toList = as.map Value.ref → as.length = i → MadeZ xs ys S h as →
      codeAny (model prog w) A (.builtin "list.extend.loop" ⟨[.ref S, .ref z, res], []⟩) R { s with heap := h, toks := tk } := by
  intro k
  induction k with
  | zero =>
    intro i h tk c acc as hk hi hst hl1 hl2 hkeep hS hacc hal hG
    refine codeAny_builtin PySem.F.entry_extend_loop ?_
    rw [Around.under_plainId PySem.F.plain_extend_loop _]
    show wpAny _ A.in1 (pyNext (.ref z) >>= _) _ _ _
    refine wpAny_bind (finZ (s := { s with heap := h, toks := tk }) (A := A.in1) hh D hst hl1 hl2 (Array.getElem?_eq_none (by omega)) fun h' he => ?_)
    refine wpAny_pure (hR h' tk acc c as (fun b o c0 c1 c2 c3 c4 e => he b o c1 c2 c3 c4 (hkeep b o c0 c1 c2 c3 c4 e)) (he S _ (Nat.ne_of_gt nz) (Nat.ne_of_gt nTO) (Nat.ne_of_gt n1) (Nat.ne_of_gt n2) hS) (by omega) ⟨hG.rise, hG.above, fun j a hj => ?_⟩ hacc)
    obtain ⟨x, y, e1, e2, e3⟩ := hG.pairs j a hj
    have hb := hG.above a (List.mem_of_getElem? hj)
    exact ⟨x, y, e1, e2, he a _ (Nat.ne_of_gt (Nat.lt_trans nz hb)) (Nat.ne_of_gt (Nat.lt_trans nTO hb)) (Nat.ne_of_gt (Nat.lt_trans n1 hb)) (Nat.ne_of_gt (Nat.lt_trans n2 hb)) e3⟩
  | succ k ih =>
    intro i h tk c acc as hk hi hst hl1 hl2 hkeep hS hacc hal hG
    have hlt : i < xs.size := by omega
    have hlt2 : i < ys.size := by omega
    have hsz : acc.size = i := by rw [← Array.length_toList, hacc, List.length_map, hal]
    refine codeAny_builtin PySem.F.entry_extend_loop ?_
    rw [Around.under_plainId PySem.F.plain_extend_loop _]
    show wpAny _ A.in1 (pyNext (.ref z) >>= _) _ _ _
    refine wpAny_bind (nxtZ (s := { s with heap := h, toks := tk }) (S := S) D hst (Heap.lt_size hS) hl1 hl2 (Array.getElem?_eq_getElem hlt) (Array.getElem?_eq_getElem hlt2) fun h' hst' ht hz hkp => ?_)
    dsimp only at ht hz hkp ⊢
    have hS' := hkp S _ (Nat.ne_of_gt nz) (Nat.ne_of_gt nTO) (Nat.ne_of_gt n1) (Nat.ne_of_gt n2) hS
    have up : ∀ b o, b ≠ S → h'.get? b = some o → (h'.update S (Obj.mapSeq (·.push (Value.ref h.objs.size)))).get? b = some o := fun b o hb e => (Heap.get?_update_other _ _ (Ne.symm hb)).trans e
    have hSl : S < h.objs.size := Heap.lt_size hS
    show wpAny _ A.in1 (updateSeq S (·.push (Value.ref h.objs.size)) >>= _) _ _ _
    refine wpAny_bind ?_
    refine wpAny_updateSeq hS' rfl (wpAny_pure ⟨plainId_quiet PySem.F.plain_extend_loop _, ih (i + 1) _ tk _ (acc.push (Value.ref h.objs.size)) (as ++ [h.objs.size]) (by omega) hlt (hst'.keep up (Nat.ne_of_lt nz) (Nat.ne_of_lt nTI) (Nat.ne_of_lt nTO) (Nat.ne_of_lt n1) (Nat.ne_of_lt n2))
      (hl1.at fun o e => up l1 o (Nat.ne_of_lt nl1) (hkp l1 o D.l1z D.l1TO D.l1i1 D.l1i2 e)) (hl2.at fun o e => up l2 o (Nat.ne_of_lt nl2) (hkp l2 o D.l2z D.l2TO D.l2i1 D.l2i2 e))
      (fun b o c0 c1 c2 c3 c4 e => up b o c0 (hkp b o c1 c2 c3 c4 (hkeep b o c0 c1 c2 c3 c4 e))) (Heap.get?_update_self _ hS' rfl) (by rw [Array.toList_push, hacc, List.map_append]; rfl) (by rw [List.length_append, hal]; rfl) ⟨?_, ?_, ?_⟩⟩) (by rw [hsz]; omega) (by show (acc.push (Value.ref h.objs.size)).size ≤ sizeLine + 1; rw [Array.size_push, hsz]; omega)
    · refine List.pairwise_append.mpr ⟨hG.rise, List.pairwise_singleton _ _, fun a ha b hb => ?_⟩
      rw [List.mem_singleton.mp hb]
      exact hG.there ha
    · intro a ha
      rcases List.mem_append.mp ha with ha | ha
      · exact hG.above a ha
      · rw [List.mem_singleton.mp ha]; exact hSl
    · intro j b hj
      rcases Nat.lt_trichotomy j as.length with h1 | h1 | h1
      · rw [List.getElem?_append_left h1] at hj
        obtain ⟨x, y, e1, e2, e3⟩ := hG.pairs j b hj
        have hb := hG.above b (List.mem_of_getElem? hj)
        exact ⟨x, y, e1, e2, up b _ (Nat.ne_of_gt hb) (hkp b _ (Nat.ne_of_gt (Nat.lt_trans nz hb)) (Nat.ne_of_gt (Nat.lt_trans nTO hb)) (Nat.ne_of_gt (Nat.lt_trans n1 hb)) (Nat.ne_of_gt (Nat.lt_trans n2 hb)) e3)⟩
      · subst h1
        have hb : h.objs.size = b := by simpa using hj
        subst hb
        exact ⟨_, _, Array.getElem?_eq_getElem (by omega), Array.getElem?_eq_getElem (by omega), up _ _ (Nat.ne_of_gt hSl) (by subst hal; exact ht)⟩
      · have hnone : (as ++ [h.objs.size])[j]? = none := List.getElem?_eq_none (by rw [List.length_append, List.length_singleton]; omega)
        rw [hnone] at hj; cases hj
theorem hintZ {Q : Bool → Shared → Prop} (hT : s.TypeIs (.ref z) "zip") (h : Q true s) : wpAny (model prog w) A (Builtin.List.listLengthHint (.ref z)) Q E s := by
  unfold Builtin.List.listLengthHint
  refine wpAny_bind (wpAny_specialOf hT nolen_zip ?_)
  show wpAny _ A (specialOf (Value.ref z) (Str.ofString "__length_hint__") >>= _) _ _ _
  refine wpAny_bind (wpAny_specialOf hT nohint_zip ?_)
  exact wpAny_pure h
end
end Dt.Z
set_option Elab.async false
set_option linter.all false
set_option maxRecDepth 100000
set_option maxHeartbeats 4000000
/-! Z2: sorted(zip(tuple, tuple)), up to the sort of the pairs. -/
namespace Dt.Z
open PySem PySem.W PySem.Calls PyProof.Rows PyProof.V PySem.Spec RZ
section
variable {prog : Program} {w : World} {A : Around} {E : Value → Shared → Prop} {s : Shared}
variable {z TI TO i1 i2 l1 l2 : Addr} {xs ys : Array Value}
theorem collectZ {R : List Value → Shared → Prop} (hh : A.handled = none) (D : ZipApart z TI TO i1 i2 l1 l2) (hz : IsZip s.heap z TI TO .none) (hTI : IsPair s.heap TI (.ref i1) (.ref i2)) (hTO : IsPair s.heap TO .none .none)
    (h1 : s.heap.IsTupleIter i1 l1 0) (h2 : s.heap.IsTupleIter i2 l2 0) (hl1 : s.heap.IsTuple l1 xs) (hl2 : s.heap.IsTuple l2 ys) (hxy : xs.size = ys.size) (hn : xs.size ≤ sizeLine)
    (h : ∀ (h' : Heap) (tk : Nat) (as : List Addr), (∀ b o, b ≠ z → b ≠ TO → b ≠ i1 → b ≠ i2 → s.heap.get? b = some o → h'.get? b = some o) → s.heap.objs.size < h'.objs.size → as.length = xs.size → MadeZ xs ys s.heap.objs.size h' as → R (as.map Value.ref) { s with heap := h', toks := tk }) :
    wpAny (model prog w) A (collect (.ref z)) R E s := by
  have bz := Heap.lt_size hz
  have bTI := Heap.lt_size hTI
  have bTO := Heap.lt_size hTO
  have b1 : i1 < s.heap.objs.size := by obtain ⟨_, e, _⟩ := h1; exact Heap.lt_size e
  have b2 : i2 < s.heap.objs.size := by obtain ⟨_, e, _⟩ := h2; exact Heap.lt_size e
  have bl1 : l1 < s.heap.objs.size := by obtain ⟨_, e, _⟩ := hl1; exact Heap.lt_size e
  have bl2 : l2 < s.heap.objs.size := by obtain ⟨_, e, _⟩ := hl2; exact Heap.lt_size e
  unfold collect
  refine wpAny_bind (wpAny_runValue (codeAny_builtin entry_proto_collect' ?_))
  rw [Around.under_plainId PySem.F.plain_proto_collect _]
  show wpAny _ A.in1 (newList [] >>= fun l => again (.builtin "list.__iadd__" ⟨[l, .ref z], []⟩)) _ _ s
  refine wpAny_bind (wpAny_newObj_type ?_)
  refine wpAny_pure ⟨plainId_quiet PySem.F.plain_list_iadd _, codeAny_builtin entry_list_iadd' ?_⟩
  rw [Around.under_plainId PySem.F.plain_list_iadd _]
  have up0 : ∀ b o, s.heap.get? b = some o → (s.heap.push { cls := .type "list", data := .seq ([] : List Value).toArray }).get? b = some o := fun b o e => Heap.get?_push_of_some _ e
  have hS₁ : (s.heap.push { cls := .type "list", data := .seq ([] : List Value).toArray }).get? s.heap.objs.size = some { cls := .type "list", data := .seq #[] } := Heap.get?_push_size _ rfl
  show wpAny _ A.in1 (Builtin.List.listExtendWith (.ref s.heap.objs.size) (.ref z) (.ref s.heap.objs.size)) _ _ _
  have hz₁ : IsZip (s.heap.push { cls := .type "list", data := .seq ([] : List Value).toArray }) z TI TO .none := up0 _ _ hz
  have hT₁ : Shared.TypeIs { s with heap := s.heap.push { cls := .type "list", data := .seq ([] : List Value).toArray } } (.ref z) "zip" := ⟨_, hz₁, rfl⟩
  unfold Builtin.List.listExtendWith
  refine wpAny_bind (wpAny_typeOf (T := "zip") hT₁ ?_)
  have e1 : Builtin.List.listSameRef (.ref s.heap.objs.size) (.ref z) = false := by simp [Builtin.List.listSameRef, Nat.ne_of_gt bz]
  have e2 : (Value.type "zip" == Value.type "list") = false := by decide
  have e3 : (Value.type "zip" == Value.type "tuple") = false := by decide
  simp only [e1, e2, e3, Bool.or_false, Bool.false_eq_true, if_false]
  refine wpAny_bind (wpAny_pyIter_zip hz₁ ?_)
  refine wpAny_bind (wpAny_holding (hintZ hT₁ ?_))
  rw [if_pos (by rw [Bool.true_or])]
  refine wpAny_bind (wpAny_rule ?_)
  refine wpAny_bind ?_
  show wpAny _ _ (updateSeq s.heap.objs.size (·.push .none) >>= fun _ => updateSeq s.heap.objs.size (·.pop)) _ _ _
  refine wpAny_bind (wpAny_updateSeq hS₁ rfl ?_)
  have hS₂ := Heap.get?_update_self (Obj.mapSeq (·.push Value.none)) hS₁ rfl
  refine wpAny_updateSeq (hz := by seq_fits) hS₂ rfl ?_
  have hS₃ := Heap.get?_update_self (Obj.mapSeq (·.pop)) hS₂ rfl
  have up : ∀ b o, b ≠ s.heap.objs.size → s.heap.get? b = some o → _ := fun b o hb e => (Heap.get?_update_other _ (Obj.mapSeq (·.pop)) (Ne.symm hb)).trans ((Heap.get?_update_other _ (Obj.mapSeq (·.push Value.none)) (Ne.symm hb)).trans (up0 b o e))
  refine wpAny_pure ⟨plainId_quiet PySem.F.plain_extend_loop _, ?_⟩
  refine loopZ (S := s.heap.objs.size) (s := s) (h₁ := s.heap) hh D bz bTI bTO b1 b2 bl1 bl2 hxy hn _ (fun h' tk acc c as hk hS' hl hG hacc => ?_) xs.size 0 _ _ _ #[] [] (Nat.sub_zero _) (Nat.zero_le _)
    ⟨.inl ⟨rfl, up _ _ (Nat.ne_of_lt bz) hz, _, _, up _ _ (Nat.ne_of_lt bTO) hTO⟩, up _ _ (Nat.ne_of_lt bTI) hTI, h1.at fun o e => up _ o (Nat.ne_of_lt b1) e, h2.at fun o e => up _ o (Nat.ne_of_lt b2) e⟩
    (hl1.at fun o e => up _ o (Nat.ne_of_lt bl1) e) (hl2.at fun o e => up _ o (Nat.ne_of_lt bl2) e) (fun b o c0 _ _ _ _ e => up b o c0 e) hS₃ rfl rfl ⟨List.Pairwise.nil, (fun _ ha => nomatch ha), (fun j a hj => by simp at hj)⟩
  show wpAny _ A (load s.heap.objs.size >>= _) _ _ _
  refine wpAny_bind (wpAny_load hS' ?_)
  refine wpAny_pure ?_
  show R acc.toList _
  rw [hacc]
  exact h h' tk as (fun b o c1 c2 c3 c4 e => hk b o (Nat.ne_of_lt (Heap.lt_size e)) c1 c2 c3 c4 e) (Heap.lt_size hS') hl hG
/-- sorted of a new zip, up to the sort of the pairs -/
theorem sortedZ {Q : Value → Shared → Prop} (hh : A.handled = none) (D : ZipApart z TI TO i1 i2 l1 l2) (hz : IsZip s.heap z TI TO .none) (hTI : IsPair s.heap TI (.ref i1) (.ref i2)) (hTO : IsPair s.heap TO .none .none)
    (h1 : s.heap.IsTupleIter i1 l1 0) (h2 : s.heap.IsTupleIter i2 l2 0) (hl1 : s.heap.IsTuple l1 xs) (hl2 : s.heap.IsTuple l2 ys) (hxy : xs.size = ys.size) (hn : xs.size ≤ sizeLine)
    (h : ∀ (h' : Heap) (tk : Nat) (as : List Addr), (∀ b o, b ≠ z → b ≠ TO → b ≠ i1 → b ≠ i2 → s.heap.get? b = some o → h'.get? b = some o) → s.heap.objs.size < h'.objs.size → as.length = xs.size → MadeZ xs ys s.heap.objs.size h' as →
      wpAny (model prog w) A.in1 (call (.builtin "list.sort") [.ref h'.objs.size]) (fun _ s' => Q (.ref h'.objs.size) s') E { s with heap := h'.push { cls := .type "list", data := .seq (as.map Value.ref).toArray }, toks := tk }) :
    wpAny (model prog w) A (call (.builtin "sorted") [.ref z]) Q E s := by
  refine call_function_entry kind_sorted plain_sorted entry_sorted (args_sorted1 _) ?_
  unfold Builtin.«sorted»
  refine wpAny_bind (m := checkCount "sorted" 1 1 _) (wpAny_pure ?_)
  refine wpAny_bind (collectZ (A := A.in1) hh D hz hTI hTO h1 h2 hl1 hl2 hxy hn fun h' tk as hk hlt hl hG => ?_)
  refine wpAny_bind (wpAny_newList ?_ (by rw [List.length_map, hl]; exact hn))
  have hg := h h' tk as hk hlt hl hG
  refine wpAny_bind (wpAny_holding (wpAny_mono hg (fun _ s' x => ?_) fun _ _ e => e))
  exact wpAny_pure ⟨_, rfl, x⟩
end
end Dt.Z
set_option Elab.async false
set_option linter.all false
set_option maxRecDepth 100000
set_option maxHeartbeats 4000000
/-! R1: choices_of: sorted(zip(tuple, tuple)). -/
namespace Dt
open PySem PySem.Spec L2
section
variable {P : Program} {w : World} {K : PySem.W.Frag} {mg : Str → Option Value} {base : Heap}
/-! ### the sort -/
abbrev encP (c : Str × Str) : PyData := .tuple [.str c.1, .str c.2]
theorem each_refs {α : Type} {R : Value → α → Prop} {f : Addr → α → Prop} (hR : ∀ v x, R v x → ∃ a, v = .ref a ∧ f a x) : ∀ {vs : List Value} {xs : List α}, PySem.W.EachIs R vs xs → ∃ as : List Addr, vs = as.map Value.ref ∧ as.length = xs.length ∧ ∀ (i : Nat) (a : Addr) (x : α), as[i]? = some a → xs[i]? = some x → f a x
  | _, _, .nil => ⟨[], rfl, rfl, fun i a x e => by simp at e⟩
  | _, _, .cons h t => by
    obtain ⟨a, rfl, ha⟩ := hR _ _ h
    obtain ⟨as, rfl, hl, hf⟩ := each_refs hR t
    refine ⟨a :: as, rfl, by rw [List.length_cons, List.length_cons, hl], fun i b x e1 e2 => ?_⟩
    cases i with
    | zero =>
      simp only [List.getElem?_cons_zero, Option.some.injEq] at e1 e2
      subst e1; subst e2
      exact ha
    | succ i =>
      rw [List.getElem?_cons_succ] at e1 e2
      exact hf i b x e1 e2
theorem each_of {α : Type} {R : Value → α → Prop} : ∀ {vs : List Value} {xs : List α}, vs.length = xs.length → (∀ (i : Nat) (v : Value) (x : α), vs[i]? = some v → xs[i]? = some x → R v x) → PySem.W.EachIs R vs xs
  | [], [], _, _ => .nil
  | v :: vs, x :: xs, hl, h => .cons (h 0 v x rfl rfl) (each_of (by simpa using hl) fun i a b e1 e2 => h (i + 1) a b (by rw [List.getElem?_cons_succ]; exact e1) (by rw [List.getElem?_cons_succ]; exact e2))
theorem Vals.back : ∀ {xs : List V} {us : List Value} {i : Nat} {u : Value}, Vals xs us → us[i]? = some u → ∃ x, xs[i]? = some x ∧ RelV x u
  | _, _, _, _, .nil, e => by simp at e
  | _, _, 0, _, .cons r _, e => by simp at e; subst e; exact ⟨_, rfl, r⟩
  | _, _, i + 1, u, .cons _ t, e => by
    simp only [List.getElem?_cons_succ] at e
    obtain ⟨x, h1, h2⟩ := Vals.back (i := i) t e
    exact ⟨x, (by rw [List.getElem?_cons_succ]; exact h1), h2⟩
def tSortZip (K : PySem.W.Frag) (ta : TA) : TE := fun σ H Q => ta σ H fun vs H1 => ∃ (a b : Addr) (xs ys : List Str), vs = [.ref a, .ref b] ∧ SqT K H1 a (xs.map V.str) ∧ SqT K H1 b (ys.map V.str) ∧ xs.length = ys.length ∧ xs.length ≤ 64 ∧
  ∀ c H', Same H1 H' → ChAt H' c ((xs.zip ys).mergeSort (PySem.W.dataLe false encP)) → H1 c = none → Q (.ref c) H'
theorem g_sortZip {K : PySem.W.Frag} {ta : TA} {σ : St} {H : Hp} {Q : VK} (h : ta σ H fun vs H1 => ∃ (a b : Addr) (xs ys : List Str), vs = [.ref a, .ref b] ∧ SqT K H1 a (xs.map V.str) ∧ SqT K H1 b (ys.map V.str) ∧ xs.length = ys.length ∧ xs.length ≤ 64 ∧
  ∀ c H', Same H1 H' → ChAt H' c ((xs.zip ys).mergeSort (PySem.W.dataLe false encP)) → H1 c = none → Q (.ref c) H') : tSortZip K ta σ H Q := h
open PyProof.Rows in
theorem pe_sortZip {X : Cx} {e e2 : Expr} {ta : TA} {p p2 q pos : Pos} (hg : Gl X "sorted") (hm : X.mg "sorted" = none) (hg2 : Gl X "zip") (hm2 : X.mg "zip" = none) (ha : PA X [e, e2] ta) (hu : X.A.units + 64 < cLine) (hc : X.calm = true := by rfl)
    (hs : starEach [e, e2] X.env = (false, eval e X.env) :: starEach [e2] X.env := by rfl) (hpl : (backTo q (starEach [e2] X.env)).any (·.1) = false := by rfl)
    (na : starEach [Expr.Call (.Name "zip" p2) [e, e2] [] q] X.env = (false, eval (Expr.Call (.Name "zip" p2) [e, e2] [] q) X.env) :: starEach [] X.env := by rfl) :
    PE X (.Call (.Name "sorted" p) [.Call (.Name "zip" p2) [e, e2] [] q] [] pos) (tSortZip X.K ta) := by
  refine ⟨fun pins s σ H Q I h => ?_⟩
  refine Call_ (ld_blt I hg hm PyProof.Rows.boot_sorted ?_)
  refine PyProof.Rows.callWith_builtin1 (PyProof.Rows.args_cons ?_ na) na rfl
  refine Call_ (ld_blt I hg2 hm2 PyProof.Rows.boot_zip (PyProof.Rows.callWith_type1 (thn (ha.run q pins s σ H _ I h) fun us s1 ⟨vs, H1, I1, r1, q1⟩ => ?_) hs hpl))
  obtain ⟨a, b, xs, ys, rfl, hqx, hqy, hxy, h64, q1⟩ := q1
  obtain ⟨u1, u2, rfl, ra, rb⟩ := vals2 r1
  cases ra
  cases rb
  obtain ⟨its, rv, p1, _⟩ := I1.tuple hqx
  obtain ⟨its2, rv2, p2, _⟩ := I1.tuple hqy
  have sl1 := rv.length
  have sl2 := rv2.length
  rw [List.length_map] at sl1 sl2
  obtain ⟨o1, ho1, _⟩ := id p1
  obtain ⟨o2, ho2, _⟩ := id p2
  refine RZ.call_zipT (show s1.heap.IsTuple a its.toArray from p1) (show s1.heap.IsTuple b its2.toArray from p2) fun h' hz hTI hTO hi1 hi2 hsz hk => ?_
  refine PyProof.Rows.args_nil ?_
  have l1' : h'.IsTuple a its.toArray := let ⟨o, ho, r⟩ := p1; ⟨o, hk _ _ ho, r⟩
  have l2' : h'.IsTuple b its2.toArray := let ⟨o, ho, r⟩ := p2; ⟨o, hk _ _ ho, r⟩
  refine Z.sortedZ (s := { s1 with heap := h' }) (I1.ok.hd hc) (PySem.W.ktu_apart s1.heap.objs.size a b (Heap.lt_size ho1) (Heap.lt_size ho2)) hz hTI hTO hi1 hi2 l1' l2' (by simp; omega) (by rw [List.size_toArray, sizeLine_eq]; omega) fun h'' tk as hk2 hlt hl hG => ?_
  have nd : as.Nodup := List.Pairwise.imp (fun h => Nat.ne_of_lt h) hG.rise
  have hl2 : as.length = xs.length := by rw [hl, List.size_toArray, ← sl1]
  have keep : ∀ b o, s1.heap.get? b = some o → h''.get? b = some o := fun b o e => by
    have hb : b < s1.heap.objs.size := Heap.lt_size e
    exact hk2 b o (Nat.ne_of_lt (Nat.lt_of_lt_of_le hb (Nat.le_add_right _ 4))) (Nat.ne_of_lt (Nat.lt_of_lt_of_le hb (Nat.le_add_right _ 3))) (Nat.ne_of_lt hb) (Nat.ne_of_lt (Nat.lt_of_lt_of_le hb (Nat.le_add_right _ 1))) (hk b o e)
  have fresh : ∀ c, s1.heap.objs.size ≤ c → H1 c = none := fun c hc => I1.hok.fresh hc
  -- the pairs
  have pr : ∀ (j : Nat) (c : Addr), as[j]? = some c → ∃ (x y : Str) (t u : Tok), xs[j]? = some x ∧ ys[j]? = some y ∧ h''.get? c = some { cls := .type "tuple", data := .seq #[Value.str x t, Value.str y u] } := by
    intro j c hj
    obtain ⟨x0, y0, e1, e2, e3⟩ := hG.pairs j c hj
    rw [List.getElem?_toArray] at e1 e2
    obtain ⟨v1, hv1, r1⟩ := Vals.back rv e1
    obtain ⟨v2, hv2, r2⟩ := Vals.back rv2 e2
    obtain ⟨x, hx, rfl⟩ := get_map hv1
    obtain ⟨y, hy, rfl⟩ := get_map hv2
    obtain ⟨t, rfl⟩ := r1
    obtain ⟨u, rfl⟩ := r2
    exact ⟨x, y, t, u, hx, hy, e3⟩
  -- the heap of the sort
  have hob : (h''.push { cls := .type "list", data := .seq (as.map Value.ref).toArray }).get? h''.objs.size = some (seqObj "list" (as.map Value.ref).toArray 0) := Heap.get?_push_size _ rfl
  have ne0 : ∀ b o, h''.get? b = some o → b ≠ h''.objs.size := fun b o e => Nat.ne_of_lt (Heap.lt_size e)
  have ka : ∀ b o, h''.get? b = some o → (h''.push { cls := .type "list", data := .seq (as.map Value.ref).toArray }).get? b = some o := fun b o e => Heap.get?_push_of_some _ e
  generalize hh2 : h''.push { cls := .type "list", data := .seq (as.map Value.ref).toArray } = h2 at hob ka ⊢
  have zl : (xs.zip ys).length = as.length := by rw [List.length_zip, hl2, hxy, Nat.min_self]
  have zat : ∀ (j : Nat) (c : Addr) (p : Str × Str), as[j]? = some c → (xs.zip ys)[j]? = some p → ∃ (t u : Tok), h''.get? c = some { cls := .type "tuple", data := .seq #[Value.str p.1 t, Value.str p.2 u] } := by
    intro j c p hj hp
    obtain ⟨x, y, t, u, hx, hy, e⟩ := pr j c hj
    obtain ⟨q1, q2⟩ := List.getElem?_zip_eq_some.mp hp
    rw [hx] at q1
    rw [hy] at q2
    cases q1
    cases q2
    exact ⟨t, u, e⟩
  have er : PySem.W.EachIs (fun v b => ∃ asq, Reads h2 v (encP b) asq ∧ h''.objs.size ∉ asq) (as.map Value.ref) (xs.zip ys) := by
    refine each_of (by rw [List.length_map, zl]) fun i v p e1 e2 => ?_
    obtain ⟨c, hc, rfl⟩ := get_map e1
    obtain ⟨t, u, e⟩ := zat i c p hc e2
    exact ⟨[] ++ ([] ++ []), .tuple (ka _ _ e) rfl rfl (.cons (.str _ _) (.cons (.str _ _) .nil)), by simp⟩
  have er1 : PySem.W.EachIs (fun v p => ∃ (j : Nat) (c : Addr), v = Value.ref c ∧ as[j]? = some c ∧ (xs.zip ys)[j]? = some p) (as.map Value.ref) (xs.zip ys) := by
    refine each_of (by rw [List.length_map, zl]) fun i v p e1 e2 => ?_
    obtain ⟨c, hc, rfl⟩ := get_map e1
    exact ⟨i, c, rfl, hc, e2⟩
  refine PySem.W.list_sort_data (s := { s1 with heap := h2, toks := tk }) (A := X.A.in1) hob er1 er (PySem.W.AllAlike.of fun b b' => rfl) (PySem.W.Sortable.tuples fun b => ⟨_, _, rfl⟩) (by rw [zl, hl2, sizeLine_eq]; omega) (fun b hb => ?_) fun out ho eo => ?_
  · show X.A.units + 1 + 1 + (encP b).depth < cLine
    have : (encP b).depth ≤ 1 := by simp [encP, PyData.depth, PyData.depthAll]
    omega
  · -- behind the sort
    show EP X pins σ Q (.ref h''.objs.size) { s1 with heap := sortedHeap h2 h''.objs.size (as.map Value.ref) out.toArray, toks := tk }
    obtain ⟨as2, hout, hl3, hf⟩ := each_refs (f := fun c p => ∃ j : Nat, as[j]? = some c ∧ (xs.zip ys)[j]? = some p) (fun v p h => by
      obtain ⟨j, c, rfl, h1, h2⟩ := h
      exact ⟨c, rfl, j, h1, h2⟩) eo
    subst hout
    have h0 : s1.heap.objs.size ≤ h''.objs.size := Nat.le_of_lt (Nat.lt_of_le_of_lt (by rw [hsz]; exact Nat.le_add_right _ 5) hlt)
    have kF : ∀ b o, b ≠ h''.objs.size → h2.get? b = some o → (sortedHeap h2 h''.objs.size (as.map Value.ref) (as2.map Value.ref).toArray).get? b = some o := fun b o hb e => (PyProof.Rows.sortedHeap_old hb (Heap.lt_size e)).trans e
    have kS : ∀ b o, s1.heap.get? b = some o → (sortedHeap h2 h''.objs.size (as.map Value.ref) (as2.map Value.ref).toArray).get? b = some o := fun b o e => kF b o (ne0 _ _ (keep b o e)) (ka b o (keep b o e))
    obtain ⟨eF, heF⟩ := PyProof.Rows.sortedHeap_at (vs := as.map Value.ref) (out := (as2.map Value.ref).toArray) hob
    have I2 : Inv X pins σ H1 { s1 with heap := sortedHeap h2 h''.objs.size (as.map Value.ref) (as2.map Value.ref).toArray, toks := tk } := I1.kept (t' := tk) kS
    have hn0 : H1 h''.objs.size = none := fresh _ h0
    have hlen : (as2.map V.ref).length ≤ sizeLine := by
      rw [List.length_map, hl3, List.length_mergeSort, zl, hl2, sizeLine_eq]
      omega
    have rvo : Vals (as2.map V.ref) (as2.map Value.ref) := vals_maps V.ref Value.ref as2 fun _ _ => rfl
    have I3 : Inv X pins σ (upd H1 h''.objs.size (.lst (as2.map V.ref))) { s1 with heap := sortedHeap h2 h''.objs.size (as.map Value.ref) (as2.map Value.ref).toArray, toks := tk } :=
      I2.take (h' := sortedHeap h2 h''.objs.size (as.map Value.ref) (as2.map Value.ref).toArray) (t' := tk) (fun b ob _ e => e) (I1.fpOk h0 hn0) ⟨hlen, as2.map Value.ref, eF, rvo, heF⟩
    obtain ⟨H2, I4, g, qt⟩ := L2.DX.takeT (P := fun b vs => ∃ (j : Nat) (x y : Str), as[j]? = some b ∧ xs[j]? = some x ∧ ys[j]? = some y ∧ vs = [.str x, .str y]) I1 as _ I3 nd fun c hc => by
      obtain ⟨j, hj⟩ := List.mem_iff_getElem?.mp hc
      obtain ⟨x, y, t, u, hx, hy, e⟩ := pr j c hj
      have hcl : s1.heap.objs.size ≤ c := Nat.le_trans (by rw [hsz]; exact Nat.le_add_right _ 5) (Nat.le_of_lt (hG.above c hc))
      refine ⟨hcl, by rw [upd_ne (ne0 _ _ e)]; exact fresh _ hcl, _, ⟨j, x, y, hj, hx, hy, rfl⟩, fun H3 => ⟨show (2 : Nat) ≤ sizeLine by decide, [Value.str x t, Value.str y u], .cons ⟨t, rfl⟩ (.cons ⟨u, rfl⟩ .nil), ⟨_, kF _ _ (ne0 _ _ e) (ka _ _ e), rfl, 0, rfl⟩⟩⟩
    have gr : Same H1 H2 := fun b o e => g b o (by rw [upd_ne (ne_of_none e hn0)]; exact e)
    refine ⟨.ref h''.objs.size, H2, I4, rfl, q1 _ H2 gr ⟨as2, g _ _ upd_same, hl3, fun i c p e1 e2 => ?_⟩ hn0⟩
    obtain ⟨j, j1, j2⟩ := hf i c p e1 e2
    obtain ⟨vs, ⟨j', x, y, k1, k2, k3, rfl⟩, hH⟩ := qt c (List.mem_of_getElem? j1)
    have ej : j = j' := (List.getElem?_inj (List.getElem?_eq_some_iff.mp j1).1 nd).mp (j1.trans k1.symm)
    subst ej
    obtain ⟨z1, z2⟩ := List.getElem?_zip_eq_some.mp j2
    rw [k2] at z1
    rw [k3] at z2
    cases z1
    cases z2
    exact hH
/-! ### the order of the pairs -/
theorem sorted_unique {α : Type} {le : α → α → Prop} : ∀ {l1 l2 : List α}, l1.Perm l2 → l1.Pairwise le → l2.Pairwise le → (∀ a ∈ l1, ∀ b ∈ l1, le a b → le b a → a = b) → l1 = l2
  | [], l2, p, _, _, _ => (List.Perm.nil_eq p)
  | a :: t, [], p, _, _, _ => absurd p.length_eq (by simp)
  | a :: t, b :: u, p, s1, s2, h => by
    have e : a = b := by
      have ha : a ∈ b :: u := p.mem_iff.mp (.head _)
      have hb : b ∈ a :: t := p.mem_iff.mpr (.head _)
      rcases List.mem_cons.mp ha with q | q
      · exact q
      · rcases List.mem_cons.mp hb with q2 | q2
        · exact q2.symm
        · exact h a (.head _) b (.tail _ q2) ((List.pairwise_cons.mp s1).1 b q2) ((List.pairwise_cons.mp s2).1 a q)
    subst e
    rw [sorted_unique (p.cons_inv) (List.pairwise_cons.mp s1).2 (List.pairwise_cons.mp s2).2 fun x hx y hy => h x (.tail _ hx) y (.tail _ hy)]
theorem strS_ext {a b : Str} (h : a.cps.toList = b.cps.toList) : a = b := by
  have q := Array.toList_inj.mp h
  cases a; cases b
  cases q
  rfl
theorem le_pair {c d : Str × Str} (h : PySem.W.dataLe false encP c d = true) (hcd : c.1 = d.1 → c = d) : c.1.cps.toList ≤ d.1.cps.toList := by
  rw [PySem.W.dataLe_eq] at h
  have h' : (!PySem.W.dataLt (encP d) (encP c)) = true := h
  rw [PySem.W.dataLt_pair rfl rfl] at h'
  by_cases e : c.1 = d.1
  · rw [e]
    exact List.le_refl _
  · have he : PyData.eqv (.str d.1) (.str c.1) = false := by
      simp only [PyData.eqv]
      exact beq_false_of_ne fun z => e z.symm
    rw [he, if_neg Bool.false_ne_true, PySem.W.dataLt_str] at h'
    have h2 : decide (d.1.cps.toList < c.1.cps.toList) = false := by simpa using h'
    exact List.not_lt.mp (of_decide_eq_false h2)
theorem sort_eq {l : List (Str × Str)} (hl : ∀ c ∈ l, ∀ d ∈ l, c.1 = d.1 → c = d) : l.mergeSort (PySem.W.dataLe false encP) = l.mergeSort (fun a b => decide (a.1.cps.toList ≤ b.1.cps.toList)) := by
  have tl : PySem.W.TotalLe (PySem.W.dataLe false encP) := PySem.W.sortLe_total _ _ _
  have p1 := List.mergeSort_perm l (PySem.W.dataLe false encP)
  have p2 := List.mergeSort_perm l (fun a b : Str × Str => decide (a.1.cps.toList ≤ b.1.cps.toList))
  have s1 : (l.mergeSort (PySem.W.dataLe false encP)).Pairwise fun a b => a.1.cps.toList ≤ b.1.cps.toList := by
    have h := List.pairwise_mergeSort (le := PySem.W.dataLe false encP) tl.trans (fun a b => by rw [Bool.or_eq_true]; exact tl.total a b) l
    refine List.Pairwise.imp_of_mem (fun {x y} hx hy q => le_pair q (hl x (p1.mem_iff.mp hx) y (p1.mem_iff.mp hy))) h
  have s2 : (l.mergeSort (fun a b : Str × Str => decide (a.1.cps.toList ≤ b.1.cps.toList))).Pairwise fun a b => a.1.cps.toList ≤ b.1.cps.toList := by
    have h := List.pairwise_mergeSort (le := fun a b : Str × Str => decide (a.1.cps.toList ≤ b.1.cps.toList))
      (fun a b c h1 h2 => decide_eq_true (List.le_trans (of_decide_eq_true h1) (of_decide_eq_true h2)))
      (fun a b => by
        rcases List.le_total a.1.cps.toList b.1.cps.toList with q | q
        · rw [decide_eq_true q]; rfl
        · rw [decide_eq_true q, Bool.or_true]) l
    exact h.imp fun q => of_decide_eq_true q
  exact sorted_unique (p1.trans p2.symm) s1 s2 fun a ha b hb h1 h2 => hl a (p1.mem_iff.mp ha) b (p1.mem_iff.mp hb) (strS_ext (List.le_antisymm h1 h2))
theorem zip_inj {names : List Str} (ok : NamesOk names) : ∀ c ∈ names.zip W8, ∀ d ∈ names.zip W8, c.1 = d.1 → c = d := by
  intro c hc d hd e
  obtain ⟨i, hi, rfl⟩ := List.mem_iff_getElem.mp hc
  obtain ⟨j, hj, rfl⟩ := List.mem_iff_getElem.mp hd
  rw [List.getElem_zip, List.getElem_zip] at e
  rw [List.length_zip] at hi hj
  have hp := List.pairwise_iff_getElem.mp ok.free
  rcases Nat.lt_trichotomy i j with q | q | q
  · have z := hp i j (by omega) (by omega) q
    have e' : names[i]'(by omega) = names[j]'(by omega) := e
    rw [e'] at z
    exact absurd (List.prefix_refl _) z.1
  · subst q; rfl
  · have z := hp j i (by omega) (by omega) q
    have e' : names[i]'(by omega) = names[j]'(by omega) := e
    rw [e'] at z
    exact absurd (List.prefix_refl _) z.1
local macro_rules | `(tactic| walk_at "st") => `(tactic| (simp only [L2.start, List.map_cons, List.map_nil, List.length_cons, List.length_nil, List.replicate_succ, List.replicate_zero, List.cons_append, List.nil_append, Nat.zero_add, Nat.reduceAdd, Nat.reduceSub]))
local macro_rules | `(tactic| walk_at "r1") => `(tactic| with_reducible first
  | refine g_seq ?_
  | refine g_next ?_
  | refine g_asg ?_
  | refine g_ifS ?_
  | refine g_ret ?_
  | refine g_retN ?_
  | refine g_drop ?_
  | refine g_brk ?_
  | refine g_c ?_
  | refine g_op ?_
  | refine g_un ?_
  | refine g_I0 ?_
  | refine g_U ?_
  | refine g_eqI ?_
  | refine g_neI ?_
  | refine g_eqS ?_
  | refine g_neS ?_
  | refine g_test ?_
  | refine g_B ?_
  | refine g_bl ?_
  | refine g_if ?_
  | refine g_not ?_
  | refine g_and ?_
  | refine g_or ?_
  | refine g_andV ?_
  | refine g_orV ?_
  | refine g_notV ?_
  | refine g_blif ?_
  | refine g_chain ?_
  | refine g_nil ?_
  | refine g_cons ?_
  | refine g_cb ?_
  | refine g_call ?_
  | refine g_tup ?_
  | refine g_lst ?_
  | refine g_tfld ?_
  | refine g_dget ?_
  | refine g_mk ?_
  | refine g_lc2 ?_
  | refine g_gfld ?_
  | refine g_meth ?_
  | refine g_sfld ?_
  | refine g_din ?_
  | refine g_dput ?_
  | refine g_isN_int ?_
  | refine g_isN_str ?_
  | refine g_isN_ref ?_
  | refine g_isN_non ?_
  | refine g_nN_int ?_
  | refine g_nN_str ?_
  | refine g_nN_ref ?_
  | refine g_nN_non ?_
  | refine g_lc ?_
  | refine g_dc ?_
  | refine g_for ?_
  | refine g_iStr ?_
  | refine g_iList ?_
  | refine g_iTup ?_
  | refine g_iR1 ?_
  | refine g_iR2 ?_
  | refine g_iR3 ?_
  | refine g_iEnum ?_
  | refine g_iZip ?_
  | refine g_iZipA ?_
  | refine g_bm ?_
  | refine g_bm0 ?_
  | refine g_m1 ?_
  | refine g_sl ?_
  | refine g_poN ?_
  | refine g_poS ?_
  | refine g_poI ?_
  | refine g_yes ?_
  | refine g_gtup ?_
  | refine g_gcons ?_
  | refine g_gnil ?_
  | refine g_par ?_
  | refine g_isi_ii ?_
  | refine g_isi_ib ?_
  | refine g_isi_ss ?_
  | refine g_inC ?_
  | refine g_int1 ?_
  | refine g_int1b ?_
  | refine g_abs ?_
  | refine g_ltS ?_
  | refine iteT ?_
  | refine iteNT ?_
  | refine iteNF ?_
  | refine iteF ?_)
local macro_rules | `(tactic| walk_at "sd") => `(tactic| first | assumption | rfl | decide | omega)
local macro_rules | `(tactic| walk_at "hp") => `(tactic| first | assumption | exact upd_same | exact Same.get (by assumption) (by walk_at "hp") | exact Off.get (by assumption) (by walk_at "hp") (by walk_at "ne"))
local macro_rules | `(tactic| walk_at "ne") => `(tactic| first | assumption | (refine Ne.symm ?_; assumption) | exact ne_of_none (by walk_at "hp") (by assumption) | exact ne_none (by walk_at "hp") (by assumption) | exact ne_of (by walk_at "hp") (by walk_at "hp") (by intro z; cases z))
local macro_rules | `(tactic| walk_at "sq") => `(tactic| first | assumption | exact SqL.rd (by walk_at "hp") | exact SqT.rd (by walk_at "hp") | exact Same.seq (by assumption) (by walk_at "sq") | exact Same.seqT (by assumption) (by walk_at "sq"))
local macro_rules | `(tactic| walk_at "rI") => `(tactic| ((with_reducible refine g_I ?_ ?_); (focus (first | (refine Or.inl ⟨?_, ?_⟩ <;> (first | decide | omega)) | (refine Or.inr ⟨?_, ?_⟩ <;> (first | decide | omega)) | (show (0 : Int) < _; first | decide | omega | assumption) | (refine And.intro ?_ ?_ <;> (first | decide | omega | (refine And.intro ?_ ?_ <;> (first | decide | omega))))))))
local macro_rules | `(tactic| walk_at "r2") => `(tactic| first
  | ((with_reducible refine g_tvar ?_); (refine ⟨_, rfl, ?_⟩))
  | ((with_reducible refine g_name' (σ' := ?s) ?e ?h); (case e => (simp only [wipe, List.set_cons_zero, List.set_cons_succ]; first | done | rfl)))
  | (refine And.intro (show wipe _ _ = wipe _ _ from rfl) ?_)
  | walk_at "rI")
local macro_rules | `(tactic| walk_at "rd") => `(tactic| repeat (first | walk_at "r1" | walk_at "r2"))
local macro_rules | `(tactic| walk_at "gn") => `(tactic| (intro pA hA; generalize hG : upd _ _ _ = H2A; (have sA : Same _ H2A := hG ▸ Same.upd hA); (have lA : H2A pA = some _ := hG ▸ upd_same); clear hG))
local macro_rules | `(tactic| walk_at "mk") => `(tactic| (intro xM dxM h1M h2M hneM; generalize hG : upd (upd _ _ _) _ _ = HM; (have sM : Same _ HM := hG ▸ Same.updW (Same.upd h2M) h1M); (have lM : HM xM = some _ := hG ▸ upd_same); clear hG))
theorem c_choices_of (T : TX w K mg) : C8.Cal P w K mg base 1 "choices_of" (sp_choices_of K) [] := by
  obtain ⟨f, fd, F, b⟩ := T.d_choices_of
  have nd := sc_choices_of.nd
  refine C8.cal0 F b .nil sc_choices_of (fun vs H Q E h => ?_) (fun cdv A outer s H vs Q E hr h => ?_)
  · obtain ⟨t, ns, rfl, _⟩ := h
    rfl
  · obtain ⟨t, names, rfl, ⟨dx, nt, ht, hn⟩, ok, q⟩ := h
    refine ⟨_, (pss_one (ps_ret (pe_sortZip (by rfl) T.z_sorted (by rfl) T.z_zip (pa_cons (pe_fld (pv 0) rfl) (pa_cons (ClX.pe_cval (C8.pe_gc (by rfl) T.v_Tongue)) pa_nil)) hr.units))), ?_⟩
    walk_at "st"
    walk_at "rd"
    refine g_sortZip ?_
    walk_at "rd"
    refine g_fl (v := .ref nt) ht T.cl_Tongue T.n_Tongue_names (by kernel_rfl) ?_
    walk_at "rd"
    refine ⟨_, _, _, _, rfl, T.cr_Tongue, T.words_val, ?_⟩
    walk_at "rd"
    refine ⟨nt, _, names, W8, rfl, SqT.rd hn, T.words H, by rw [ok.len]; rfl, by rw [ok.len]; decide, fun c H' s1 hc hnone => ?_⟩
    rw [sort_eq (zip_inj ok)] at hc
    exact q c H' s1 hc hnone
end
end Dt
set_option Elab.async false
set_option linter.all false
set_option maxRecDepth 100000
set_option maxHeartbeats 4000000
/-! R2: sorted(a list of pairs of an int and a text): a permutation. -/
namespace Dt
open PySem PySem.Spec L2
section
open PyProof.Rows
def PairIS (H : Hp) (a : Addr) (c : Int × Str) : Prop := H a = some (.tup [.int c.1, .str c.2])
def rSortP : List V → Hp → VK → Prop := fun vs H Q => ∃ (a : Addr) (as : List Addr) (cs : List (Int × Str)), vs = [.ref a] ∧ H a = some (.lst (as.map V.ref)) ∧ Objs H PairIS as cs ∧ as.length ≤ 64 ∧
  ∀ (as2 : List Addr) (p : Addr), as2.Perm as → H p = none → Q (.ref p) (upd H p (.lst (as2.map V.ref)))
theorem each_mapR {β : Type} (f : β → Value) : ∀ {vs : List Value} {bs : List β}, PySem.W.EachIs (fun v b => v = f b) vs bs → vs = bs.map f
  | _, _, .nil => rfl
  | _, _, .cons h t => by rw [h, each_mapR f t]; rfl
theorem vals_refs : ∀ {as : List Addr} {us : List Value}, Vals (as.map V.ref) us → us = as.map Value.ref
  | [], _, .nil => rfl
  | a :: as, _, .cons h t => by
    cases h
    rw [vals_refs t]
    rfl
theorem cr_sortP {X : Cx} (hu : X.A.units + 64 < cLine) : CallR X (.builtin "sorted") rSortP := by
  intro pins s σ H vs us Q I r h
  obtain ⟨a, as, cs, rfl, hs, ho, h64, q⟩ := h
  obtain ⟨its, rv, hl, _⟩ := I.list (.inl (.inl hs))
  rw [Vals.ref1 r]
  have hits := vals_refs rv
  subst hits
  have zl : (as.zip cs).length = as.length := by rw [List.length_zip, ← ho.1, Nat.min_self]
  have rd : ∀ (i : Nat) (c : Addr) (p : Int × Str), as[i]? = some c → cs[i]? = some p → Reads s.heap (.ref c) (.tuple [.int p.1, .str p.2]) ([] ++ ([] ++ [])) := by
    intro i c p h1 h2
    have hh := ho.2 i c p h1 h2
    obtain ⟨_, its2, rv2, o2, e2, c2, n2, d2⟩ := (show ObjOk X.prog X.w H s.heap c (.tup [.int p.1, .str p.2]) from I.hok c _ hh)
    obtain ⟨u1, u2, rfl, r1, r2⟩ := vals2 rv2
    obtain ⟨t1, rfl⟩ := r1
    obtain ⟨t2, rfl⟩ := r2
    exact .tuple e2 c2 d2 (.cons (.int _ _) (.cons (.str _ _) .nil))
  have zat : ∀ (i : Nat) (v : Value) (b : Addr × Int × Str), (as.map Value.ref)[i]? = some v → (as.zip cs)[i]? = some b → v = .ref b.1 ∧ as[i]? = some b.1 ∧ cs[i]? = some b.2 := by
    intro i v b h1 h2
    obtain ⟨z1, z2⟩ := List.getElem?_zip_eq_some.mp h2
    obtain ⟨c, hc, rfl⟩ := get_map h1
    have e : c = b.1 := Option.some.inj (hc.symm.trans z1)
    exact ⟨by rw [e], z1, z2⟩
  refine PySem.W.sorted_data (vs := as.map Value.ref) (bs := as.zip cs) (enc := fun b => .tuple [.int b.2.1, .str b.2.2]) (R := fun v b => v = Value.ref b.1) hl.isList
    (each_of (by rw [List.length_map, zl]) fun i v b h1 h2 => (zat i v b h1 h2).1)
    (each_of (by rw [List.length_map, zl]) fun i v b h1 h2 => by
      obtain ⟨e, z1, z2⟩ := zat i v b h1 h2
      rw [e]
      exact ⟨_, rd i b.1 b.2 z1 z2⟩)
    (PySem.W.AllAlike.of fun b b' => rfl) (PySem.W.Sortable.tuples fun b => ⟨_, _, rfl⟩) (by rw [zl, sizeLine_eq]; omega) (fun b _ => ?_) fun out hlo eo => ?_
  · have : (PyData.tuple [.int b.2.1, .str b.2.2]).depth ≤ 1 := by simp [PyData.depth, PyData.depthAll]
    omega
  · have hout := each_mapR (fun b : Addr × Int × Str => Value.ref b.1) eo
    generalize hm : (as.zip cs).mergeSort (PySem.W.dataLe false fun b => .tuple [.int b.2.1, .str b.2.2]) = ms at hout
    have hp : ms.Perm (as.zip cs) := by rw [← hm]; exact List.mergeSort_perm _ _
    have hp2 : (ms.map (·.1)).Perm as := by
      have e := hp.map (·.1)
      rw [List.map_fst_zip (by rw [ho.1]; exact Nat.le_refl _)] at e
      exact e
    have hout2 : out = (ms.map (·.1)).map Value.ref := by rw [hout, List.map_map]; rfl
    clear hout
    subst hout2
    obtain ⟨ep, he'⟩ := PyProof.Rows.sortedAll_at s.heap (as.map Value.ref) ((ms.map (·.1)).map Value.ref).toArray
    have hlen : ((ms.map (·.1)).map V.ref).length ≤ sizeLine := by rw [List.length_map, hp2.length_eq, sizeLine_eq]; omega
    exact ⟨.ref _, upd H (s.heap.objs.size + 1) (.lst ((ms.map (·.1)).map V.ref)), I.laid (t' := s.toks) (fun _ _ => PyProof.Rows.sortedAll_old) (Nat.le_succ _) ⟨hlen, (ms.map (·.1)).map Value.ref, ep, vals_maps V.ref Value.ref _ fun _ _ => rfl, he'⟩, rfl, q _ _ hp2 (I.hok.fresh (Nat.le_succ _))⟩
end
end Dt
set_option Elab.async false
set_option linter.all false
set_option maxRecDepth 100000
set_option maxHeartbeats 4000000
namespace Dt
open PySem PySem.Spec L2
local macro_rules | `(tactic| walk_at "st") => `(tactic| (simp only [L2.start, List.map_cons, List.map_nil, List.length_cons, List.length_nil, List.replicate_succ, List.replicate_zero, List.cons_append, List.nil_append, Nat.zero_add, Nat.reduceAdd, Nat.reduceSub]))
local macro_rules | `(tactic| walk_at "r1") => `(tactic| with_reducible first
  | refine g_seq ?_
  | refine g_next ?_
  | refine g_asg ?_
  | refine g_ifS ?_
  | refine g_ret ?_
  | refine g_retN ?_
  | refine g_drop ?_
  | refine g_brk ?_
  | refine g_c ?_
  | refine g_op ?_
  | refine g_un ?_
  | refine g_I0 ?_
  | refine g_U ?_
  | refine g_eqI ?_
  | refine g_neI ?_
  | refine g_eqS ?_
  | refine g_neS ?_
  | refine g_test ?_
  | refine g_B ?_
  | refine g_bl ?_
  | refine g_if ?_
  | refine g_not ?_
  | refine g_and ?_
  | refine g_or ?_
  | refine g_andV ?_
  | refine g_orV ?_
  | refine g_notV ?_
  | refine g_blif ?_
  | refine g_chain ?_
  | refine g_nil ?_
  | refine g_cons ?_
  | refine g_cb ?_
  | refine g_call ?_
  | refine g_tup ?_
  | refine g_lst ?_
  | refine g_tfld ?_
  | refine g_dget ?_
  | refine g_mk ?_
  | refine g_lc2 ?_
  | refine g_gfld ?_
  | refine g_meth ?_
  | refine g_sfld ?_
  | refine g_din ?_
  | refine g_dput ?_
  | refine g_isN_int ?_
  | refine g_isN_str ?_
  | refine g_isN_ref ?_
  | refine g_isN_non ?_
  | refine g_nN_int ?_
  | refine g_nN_str ?_
  | refine g_nN_ref ?_
  | refine g_nN_non ?_
  | refine g_lc ?_
  | refine g_dc ?_
  | refine g_for ?_
  | refine g_iStr ?_
  | refine g_iList ?_
  | refine g_iTup ?_
  | refine g_iR1 ?_
  | refine g_iR2 ?_
  | refine g_iR3 ?_
  | refine g_iEnum ?_
  | refine g_iZip ?_
  | refine g_iZipA ?_
  | refine g_bm ?_
  | refine g_bm0 ?_
  | refine g_m1 ?_
  | refine g_sl ?_
  | refine g_poN ?_
  | refine g_poS ?_
  | refine g_poI ?_
  | refine g_yes ?_
  | refine g_gtup ?_
  | refine g_gcons ?_
  | refine g_gnil ?_
  | refine g_par ?_
  | refine g_isi_ii ?_
  | refine g_isi_ib ?_
  | refine g_isi_ss ?_
  | refine g_inC ?_
  | refine g_int1 ?_
  | refine g_int1b ?_
  | refine g_abs ?_
  | refine g_ltS ?_
  | refine iteT ?_
  | refine iteNT ?_
  | refine iteNF ?_
  | refine iteF ?_)
local macro_rules | `(tactic| walk_at "sd") => `(tactic| first | assumption | rfl | decide | omega)
local macro_rules | `(tactic| walk_at "hp") => `(tactic| first | assumption | exact upd_same | exact Same.get (by assumption) (by walk_at "hp") | exact Off.get (by assumption) (by walk_at "hp") (by walk_at "ne"))
local macro_rules | `(tactic| walk_at "ne") => `(tactic| first | assumption | (refine Ne.symm ?_; assumption) | exact ne_of_none (by walk_at "hp") (by assumption) | exact ne_none (by walk_at "hp") (by assumption) | exact ne_of (by walk_at "hp") (by walk_at "hp") (by intro z; cases z))
local macro_rules | `(tactic| walk_at "sq") => `(tactic| first | assumption | exact SqL.rd (by walk_at "hp") | exact SqT.rd (by walk_at "hp") | exact Same.seq (by assumption) (by walk_at "sq") | exact Same.seqT (by assumption) (by walk_at "sq"))
local macro_rules | `(tactic| walk_at "rI") => `(tactic| ((with_reducible refine g_I ?_ ?_); (focus (first | (refine Or.inl ⟨?_, ?_⟩ <;> (first | decide | omega)) | (refine Or.inr ⟨?_, ?_⟩ <;> (first | decide | omega)) | (show (0 : Int) < _; first | decide | omega | assumption) | (refine And.intro ?_ ?_ <;> (first | decide | omega | (refine And.intro ?_ ?_ <;> (first | decide | omega))))))))
local macro_rules | `(tactic| walk_at "r2") => `(tactic| first
  | ((with_reducible refine g_tvar ?_); (refine ⟨_, rfl, ?_⟩))
  | ((with_reducible refine g_name' (σ' := ?s) ?e ?h); (case e => (simp only [wipe, List.set_cons_zero, List.set_cons_succ]; first | done | rfl)))
  | (refine And.intro (show wipe _ _ = wipe _ _ from rfl) ?_)
  | walk_at "rI")
local macro_rules | `(tactic| walk_at "rd") => `(tactic| repeat (first | walk_at "r1" | walk_at "r2"))
local macro_rules | `(tactic| walk_at "gn") => `(tactic| (intro pA hA; generalize hG : upd _ _ _ = H2A; (have sA : Same _ H2A := hG ▸ Same.upd hA); (have lA : H2A pA = some _ := hG ▸ upd_same); clear hG))
local macro_rules | `(tactic| walk_at "mk") => `(tactic| (intro xM dxM h1M h2M hneM; generalize hG : upd (upd _ _ _) _ _ = HM; (have sM : Same _ HM := hG ▸ Same.updW (Same.upd h2M) h1M); (have lM : HM xM = some _ := hG ▸ upd_same); clear hG))
theorem tblN_len {names : List Str} : ∀ n, (tblN names n).length = n
  | 0 => rfl
  | n + 1 => by
    show (tblN names n ++ [_]).length = _
    rw [List.length_append, tblN_len n]
    rfl
section
variable {P : Program} {w : World} {K : PySem.W.Frag} {mg : Str → Option Value} {base : Heap}
def sp_table_of : PySem.W.Frag → Sp := fun K vs H Q _ => ∃ t, ∃ (names : List Str) (m : Nat), vs = [.ref t, .int m] ∧ TongueAt K H t names ∧ NamesOk names ∧ m < 10000 ∧ ∀ l H', Same H H' → H' l = some (.lst (natsV (tblN names (m + 1)))) → H l = none → Q (.ref l) H'
theorem c_table_of (T : TX w K mg) : C8.Cal P w K mg base 2 "table_of" (sp_table_of K) [] := by
  obtain ⟨f, fd, F, b⟩ := T.d_table_of
  have nd := sc_table_of.nd
  refine C8.cal0 F b .nil sc_table_of (fun vs H Q E h => ?_) (fun cdv A outer s H vs Q E hr h => ?_)
  · obtain ⟨t, ns, m, rfl, _⟩ := h
    rfl
  · obtain ⟨t, names, m, rfl, tg, ok, hm, q⟩ := h
    refine ⟨_, (pss_cons (ps_set (i := 2) nd rfl (Or.inl rfl) (pe_lst pa_nil))
    (pss_cons (ps_for PassesOwn.never rfl (pi_range1 (by rfl) T.z_range (pa_cons (pe_op op_add (pv 1) pe_int) pa_nil)) (pg_name (i := 3) nd rfl (Or.inl rfl))
      (pss_one (ps_expr (pe_bm PySem.F.plainAttrs_list PySem.F.slot_list_append PySem.F.type_list_append mt_append (pv 2) (pa_cons (C8.pe_c (c_many_next T) hr (by decide) (by rfl) (pa_cons (pv 0) (pa_cons (pv 2) pa_nil))) pa_nil)))))
    (pss_one (ps_ret (pv 2))))), ?_⟩
    walk_at "st"
    walk_at "rd"
    refine ⟨show (0 : Nat) ≤ sizeLine by decide, ?_⟩
    intro l nl
    walk_at "rd"
    refine ⟨(m : Int) + 1, rfl, by omega, by omega, ?_⟩
    refine for_it walk_range (fun i σ H' => (∃ x, σ = [some (.ref t), some (.int m), some (.ref l), x]) ∧ Same H H' ∧ H' l = some (.lst (natsV (tblN names i)))) ⟨⟨_, rfl⟩, Same.upd nl, upd_same⟩ (fun _ _ _ _ _ => True.intro) (fun i x σ H1 H2 hi pv y => ?_) (fun σ H1 pv => ?_)
    · obtain ⟨⟨x0, rfl⟩, s1, l1⟩ := pv
      obtain ⟨rfl, rfl⟩ := y
      walk_at "rd"
      refine ⟨tyL (SqL.rd l1), ?_⟩
      walk_at "rd"
      refine ⟨t, l, names, _, rfl, tg.same s1, ok, l1, fun H3 s3 => ?_⟩
      walk_at "rd"
      refine ⟨l, _, _, rfl, rfl, s3 _ _ l1, ?_, ?_⟩
      · rw [List.length_map, tblN_len, sizeLine_eq]; omega
      · refine ⟨⟨_, rfl⟩, Same.updW (s1.trans s3) nl, ?_⟩
        rw [upd_same]
        show some (HO.lst _) = some (.lst (natsV (tblN names i ++ [_])))
        unfold natsV
        rw [List.map_append]
        rfl
    · obtain ⟨⟨x0, rfl⟩, s1, l1⟩ := pv
      walk_at "rd"
      refine q l _ s1 ?_ nl
      rw [l1, show ((m : Int) + 1).toNat = m + 1 by omega]
def sp_ways_of : PySem.W.Frag → Sp := fun K vs H Q _ => ∃ b, ∃ (n x : Str) (L : Nat) (tb : List Nat), vs = [.ref b, .str n, .str x, .int L] ∧ H b = some (.lst (natsV tb)) ∧ 1 ≤ n.length ∧ n.length ≤ 8 ∧ L ≤ tb.length ∧ Q (.int (ways tb n x L : Nat)) H
theorem c_ways_of (T : TX w K mg) : C8.Cal P w K mg base 1 "ways_of" (sp_ways_of K) [] := by
  obtain ⟨f, fd, F, b⟩ := T.d_ways_of
  have nd := sc_ways_of.nd
  refine C8.cal0 F b .nil sc_ways_of (fun vs H Q E h => ?_) (fun cdv A outer s H vs Q E hr h => ?_)
  · obtain ⟨b, n, x, L, tb, rfl, _⟩ := h
    rfl
  · obtain ⟨b, n, x, L, tb, rfl, hb, h1, h8, hL, q⟩ := h
    refine ⟨_, (pss_cons (ps_if (pt_cmpR op_eq (pv 2) (C8.pe_gc (by rfl) T.g_END_programs) (nomark _))
      (pss_one (ps_ret (pe_callTy kc_int (by rfl) T.z_int (by decide +kernel) (pa_cons (pe_cmpR op_eq (pe_callB kc_lenS (by rfl) T.z_len (by decide +kernel) (pa_cons (pv 1) pa_nil)) (pv 3) (nomark _)) pa_nil))))
      pss_nil)
    (pss_one (ps_ret (pe_ifExp (pt_cmpR op_le (pe_callB kc_lenS (by rfl) T.z_len (by decide +kernel) (pa_cons (pv 1) pa_nil)) (pv 3) (nomark _)) (pe_ix ix_list (pv 0) (pe_op op_sub (pv 3) (pe_callB kc_lenS (by rfl) T.z_len (by decide +kernel) (pa_cons (pv 1) pa_nil))) (fun _ _ => rfl)) pe_int)))), ?_⟩
    walk_at "st"
    walk_at "rd"
    unfold ways at q
    refine ifD (fun he => ?_) (fun he => ?_)
    · rw [if_pos he] at q
      walk_at "rd"
      refine g_lenS (by rw [sizeLine_eq]; omega) ?_
      walk_at "rd"
      by_cases e : n.length = L
      · rw [if_pos e] at q
        rw [if_pos (decide_eq_true (by omega))]
        exact q
      · rw [if_neg e] at q
        rw [if_neg (fun z => e (by have := of_decide_eq_true z; omega))]
        exact q
    · rw [if_neg he] at q
      walk_at "rd"
      refine g_lenS (by rw [sizeLine_eq]; omega) ?_
      walk_at "rd"
      refine ifD (fun hle => ?_) (fun hle => ?_)
      · rw [if_pos (by omega)] at q
        walk_at "rd"
        refine g_lenS (by rw [sizeLine_eq]; omega) ?_
        walk_at "rd"
        refine g_ixL (SqL.rd hb) ?_ q
        rw [show (L : Int) - (n.length : Nat) = ((L - n.length : Nat) : Int) by omega]
        refine atI_nat ?_
        have hlt : L - n.length < tb.length := by omega
        rw [List.getElem?_map, List.getD_eq_getElem?_getD, List.getElem?_eq_getElem hlt]
        rfl
      · rw [if_neg (by omega)] at q
        walk_at "rd"
        exact q
end
end Dt
set_option Elab.async false
set_option linter.all false
set_option maxRecDepth 100000
set_option maxHeartbeats 4000000
namespace Dt
open PySem PySem.Spec L2
local macro_rules | `(tactic| walk_at "st") => `(tactic| (simp only [L2.start, List.map_cons, List.map_nil, List.length_cons, List.length_nil, List.replicate_succ, List.replicate_zero, List.cons_append, List.nil_append, Nat.zero_add, Nat.reduceAdd, Nat.reduceSub]))
local macro_rules | `(tactic| walk_at "r1") => `(tactic| with_reducible first
  | refine g_seq ?_
  | refine g_next ?_
  | refine g_asg ?_
  | refine g_ifS ?_
  | refine g_ret ?_
  | refine g_retN ?_
  | refine g_drop ?_
  | refine g_brk ?_
  | refine g_c ?_
  | refine g_op ?_
  | refine g_un ?_
  | refine g_I0 ?_
  | refine g_U ?_
  | refine g_eqI ?_
  | refine g_neI ?_
  | refine g_eqS ?_
  | refine g_neS ?_
  | refine g_test ?_
  | refine g_B ?_
  | refine g_bl ?_
  | refine g_if ?_
  | refine g_not ?_
  | refine g_and ?_
  | refine g_or ?_
  | refine g_andV ?_
  | refine g_orV ?_
  | refine g_notV ?_
  | refine g_blif ?_
  | refine g_chain ?_
  | refine g_nil ?_
  | refine g_cons ?_
  | refine g_cb ?_
  | refine g_call ?_
  | refine g_tup ?_
  | refine g_lst ?_
  | refine g_tfld ?_
  | refine g_dget ?_
  | refine g_mk ?_
  | refine g_lc2 ?_
  | refine g_gfld ?_
  | refine g_meth ?_
  | refine g_sfld ?_
  | refine g_din ?_
  | refine g_dput ?_
  | refine g_isN_int ?_
  | refine g_isN_str ?_
  | refine g_isN_ref ?_
  | refine g_isN_non ?_
  | refine g_nN_int ?_
  | refine g_nN_str ?_
  | refine g_nN_ref ?_
  | refine g_nN_non ?_
  | refine g_lc ?_
  | refine g_dc ?_
  | refine g_for ?_
  | refine g_iStr ?_
  | refine g_iList ?_
  | refine g_iTup ?_
  | refine g_iR1 ?_
  | refine g_iR2 ?_
  | refine g_iR3 ?_
  | refine g_iEnum ?_
  | refine g_iZip ?_
  | refine g_iZipA ?_
  | refine g_bm ?_
  | refine g_bm0 ?_
  | refine g_m1 ?_
  | refine g_sl ?_
  | refine g_poN ?_
  | refine g_poS ?_
  | refine g_poI ?_
  | refine g_yes ?_
  | refine g_gtup ?_
  | refine g_gcons ?_
  | refine g_gnil ?_
  | refine g_par ?_
  | refine g_isi_ii ?_
  | refine g_isi_ib ?_
  | refine g_isi_ss ?_
  | refine g_inC ?_
  | refine g_int1 ?_
  | refine g_int1b ?_
  | refine g_abs ?_
  | refine g_ltS ?_
  | refine iteT ?_
  | refine iteNT ?_
  | refine iteNF ?_
  | refine iteF ?_)
local macro_rules | `(tactic| walk_at "sd") => `(tactic| first | assumption | rfl | decide | omega)
local macro_rules | `(tactic| walk_at "hp") => `(tactic| first | assumption | exact upd_same | exact Same.get (by assumption) (by walk_at "hp") | exact Off.get (by assumption) (by walk_at "hp") (by walk_at "ne"))
local macro_rules | `(tactic| walk_at "ne") => `(tactic| first | assumption | (refine Ne.symm ?_; assumption) | exact ne_of_none (by walk_at "hp") (by assumption) | exact ne_none (by walk_at "hp") (by assumption) | exact ne_of (by walk_at "hp") (by walk_at "hp") (by intro z; cases z))
local macro_rules | `(tactic| walk_at "sq") => `(tactic| first | assumption | exact SqL.rd (by walk_at "hp") | exact SqT.rd (by walk_at "hp") | exact Same.seq (by assumption) (by walk_at "sq") | exact Same.seqT (by assumption) (by walk_at "sq"))
local macro_rules | `(tactic| walk_at "rI") => `(tactic| ((with_reducible refine g_I ?_ ?_); (focus (first | (refine Or.inl ⟨?_, ?_⟩ <;> (first | decide | omega)) | (refine Or.inr ⟨?_, ?_⟩ <;> (first | decide | omega)) | (show (0 : Int) < _; first | decide | omega | assumption) | (refine And.intro ?_ ?_ <;> (first | decide | omega | (refine And.intro ?_ ?_ <;> (first | decide | omega))))))))
local macro_rules | `(tactic| walk_at "r2") => `(tactic| first
  | ((with_reducible refine g_tvar ?_); (refine ⟨_, rfl, ?_⟩))
  | ((with_reducible refine g_name' (σ' := ?s) ?e ?h); (case e => (simp only [wipe, List.set_cons_zero, List.set_cons_succ]; first | done | rfl)))
  | (refine And.intro (show wipe _ _ = wipe _ _ from rfl) ?_)
  | walk_at "rI")
local macro_rules | `(tactic| walk_at "rd") => `(tactic| repeat (first | walk_at "r1" | walk_at "r2"))
local macro_rules | `(tactic| walk_at "gn") => `(tactic| (intro pA hA; generalize hG : upd _ _ _ = H2A; (have sA : Same _ H2A := hG ▸ Same.upd hA); (have lA : H2A pA = some _ := hG ▸ upd_same); clear hG))
local macro_rules | `(tactic| walk_at "mk") => `(tactic| (intro xM dxM h1M h2M hneM; generalize hG : upd (upd _ _ _) _ _ = HM; (have sM : Same _ HM := hG ▸ Same.updW (Same.upd h2M) h1M); (have lM : HM xM = some _ := hG ▸ upd_same); clear hG))
theorem tw_take {α : Type} {p : α → Bool} : ∀ {l : List α} {j : Nat} {x : α}, l[j]? = some x → p x = false → (∀ y ∈ l.take j, p y = true) → l.takeWhile p = l.take j
  | [], _, _, h, _, _ => by simp at h
  | y :: l, 0, x, h, hp, _ => by
    have e : y = x := by simpa using h
    subst e
    simp [hp]
  | y :: l, j + 1, x, h, hp, ha => by
    have h2 : l[j]? = some x := by simpa using h
    rw [List.take_succ_cons] at ha ⊢
    rw [List.takeWhile_cons_of_pos (ha y (.head _)), tw_take h2 hp fun z hz => ha z (.tail _ hz)]
theorem lookup_mem {n w : Str} : ∀ {ks vs : List Str}, ks.Nodup → (n, w) ∈ vs.zip ks → (ks.zip vs).lookup w = some n
  | [], vs, _, h => by simp at h
  | _ :: _, [], _, h => by simp at h
  | k :: ks, v :: vs, hn, h => by
    rw [List.nodup_cons] at hn
    rw [List.zip_cons_cons, List.lookup_cons]
    rw [List.zip_cons_cons] at h
    by_cases e : w = k
    · subst e
      rw [beq_self_eq_true]
      rcases List.mem_cons.mp h with h | h
      · rw [(Prod.mk.inj h).1]
      · exact absurd (List.of_mem_zip h).2 hn.1
    · rw [beq_false_of_ne e]
      rcases List.mem_cons.mp h with h | h
      · exact absurd (Prod.mk.inj h).2 e
      · exact lookup_mem hn.2 h
theorem W8_nodup : W8.Nodup := by decide +kernel
theorem ch_name {names : List Str} {c : Str × Str} (h : c ∈ chF names) : c.1 = nameOf names c.2 ∧ c.2 ∈ W8 ∧ c.1 ∈ names := by
  have h2 := chF_perm.mem_iff.mp h
  obtain ⟨n, x⟩ := c
  refine ⟨?_, (List.of_mem_zip h2).2, (List.of_mem_zip h2).1⟩
  unfold nameOf
  rw [lookup_mem W8_nodup h2]
  rfl
theorem ch_has {names : List Str} (hl : names.length = 8) {x : Str} (hx : x ∈ W8) : ∃ c ∈ chF names, c.2 = x := by
  have e : (names.zip W8).map (·.2) = W8 := by
    rw [List.map_snd_zip (by rw [hl]; decide)]
  rw [← e] at hx
  obtain ⟨c, h1, h2⟩ := List.mem_map.mp hx
  exact ⟨c, chF_perm.mem_iff.mpr h1, h2⟩
theorem ch_len {names : List Str} (hl : names.length = 8) : (chF names).length = 8 := by
  rw [chF_perm.length_eq, List.length_zip, hl]
  rfl
theorem waysSum_succ {tb : List Nat} {L : Nat} {ch : Ch} {j : Nat} {c : Str × Str} (h : ch[j]? = some c) : waysSum tb L (ch.take (j + 1)) = waysSum tb L (ch.take j) + ways tb c.1 c.2 L := by
  unfold waysSum
  rw [take_succ' h, List.map_append, List.sum_append]
  simp
theorem lenP_cons {names ws : List Str} {x : Str} : lenP names (x :: ws) = lenW names x + lenP names ws := by
  unfold lenP
  rw [List.map_cons, List.sum_cons]
  omega
section
variable {P : Program} {w : World} {K : PySem.W.Frag} {mg : Str → Option Value} {base : Heap}
def sp_rank_of : PySem.W.Frag → Sp := fun K vs H Q _ => ∃ t b p, ∃ (names ws : List Str) (tb : List Nat), vs = [.ref t, .ref b, .ref p] ∧ TongueAt K H t names ∧ NamesOk names ∧ H b = some (.lst (natsV tb)) ∧ H p = some (.tup (ws.map V.str)) ∧ ws.length ≤ 200 ∧ (∀ x ∈ ws, x ∈ W7) ∧ lenP names ws ≤ tb.length ∧ ∀ H', Same H H' → Q (.int (rankF names (chF names) tb ws : Nat)) H'
theorem c_rank_of (T : TX w K mg) : C8.Cal P w K mg base 2 "rank_of" (sp_rank_of K) [] := by
  obtain ⟨f, fd, F, b⟩ := T.d_rank_of
  have nd := sc_rank_of.nd
  refine C8.cal0 F b .nil sc_rank_of (fun vs H Q E h => ?_) (fun cdv A outer s H vs Q E hr h => ?_)
  · obtain ⟨t, b, p, ns, ws, tb, rfl, _⟩ := h
    rfl
  · obtain ⟨t, b, p, names, ws, tb, rfl, tg, ok, hb, hp, h200, hw, hL, q⟩ := h
    refine ⟨_, (pss_cons (ps_par3 (i := 4) (j := 5) (l := 6) rfl nd rfl rfl rfl (by decide) (by decide) (by decide) rfl rfl rfl (pa_cons (C8.pe_c (c_choices_of T) hr (by decide) (by rfl) (pa_cons (pv 0) pa_nil)) (pa_cons (C8.pe_c (c_length_in T) hr (by decide) (by rfl) (pa_cons (pv 0) (pa_cons (pv 2) pa_nil))) (pa_cons pe_int pa_nil))) (by rfl))
    (pss_cons (ps_for PassesOwn.never rfl (pi_range1 (by rfl) T.z_range (pa_cons (pe_callB kc_len (by rfl) T.z_len (by decide +kernel) (pa_cons (pv 2) pa_nil)) pa_nil)) (pg_name (i := 3) nd rfl (Or.inl rfl))
      (pss_one (ps_for PassesOwn.never rfl (pi_list (pv 4)) (pg_2 (K := K) (i := 7) (j := 8) rfl rfl nd rfl (Or.inl rfl) (by first | exact .inl rfl | exact .inr rfl) rfl (Or.inl rfl) (by first | exact .inl rfl | exact .inr rfl) rfl rfl rfl rfl)
        (pss_cons (ps_if (pt_cmpR op_eq (pv 8) (pe_ix ix_tup (pv 2) (pv 3) (fun _ _ => rfl)) (nomark _))
          (pss_cons (ps_set (i := 5) nd rfl (Or.inl rfl) (pe_op op_sub (pv 5) (pe_callB kc_lenS (by rfl) T.z_len (by decide +kernel) (pa_cons (pv 7) pa_nil))))
          (pss_one ps_break))
          pss_nil)
        (pss_one (ps_set (i := 6) nd rfl (Or.inl rfl) (pe_op op_add (pv 6) (C8.pe_c (c_ways_of T) hr (by decide) (by rfl) (pa_cons (pv 1) (pa_cons (pv 7) (pa_cons (pv 8) (pa_cons (pv 5) pa_nil))))))))))))
    (pss_one (ps_ret (pv 6))))), ?_⟩
    walk_at "st"
    unfold tPar3
    walk_at "rd"
    refine ⟨t, names, rfl, tg, ok, fun c H1 s1 hch hcn => ?_⟩
    walk_at "rd"
    refine ⟨t, p, names, ws, rfl, tg.same s1, ok, s1 _ _ hp, h200, hw, fun H2 s2 => ?_⟩
    walk_at "rd"
    refine ⟨_, _, _, rfl, ?_⟩
    have s02 := s1.trans s2
    have hch2 := hch.same s2
    walk_at "rd"
    refine g_lenT (SqT.rd (s02 _ _ hp)) ?_
    refine ⟨_, rfl, by rw [List.length_map]; omega, by rw [List.length_map]; omega, ?_⟩
    rw [List.length_map, Int.toNat_natCast]
    refine for_it walk_range (fun i σ H' => (∃ x y z, ∃ r : Nat, σ = [some (.ref t), some (.ref b), some (.ref p), x, some (.ref c), some (.int (lenP names (ws.drop i) : Nat)), some (.int r), y, z] ∧ r + rankF names (chF names) tb (ws.drop i) = rankF names (chF names) tb ws) ∧ H' = H2) ⟨⟨_, _, _, 0, rfl, by rw [List.drop_zero]; omega⟩, rfl⟩ (fun _ _ _ _ _ => True.intro) (fun i x σ H3 H4 hi pv y => ?_) (fun σ H3 pv => ?_)
    · obtain ⟨⟨x0, y0, z0, r, rfl, hr0⟩, rfl⟩ := pv
      obtain ⟨rfl, rfl⟩ := y
      have hwi : ws[i]? = some ws[i] := List.getElem?_eq_getElem hi
      generalize ws[i] = x at hwi
      have hdrop : ws.drop i = x :: ws.drop (i + 1) := List.drop_eq_getElem?_toList_append.trans (by rw [hwi]; rfl)
      have hx7 : x ∈ W7 := hw x (List.mem_of_getElem? hwi)
      have hx8 := W78 hx7
      have hLi : lenP names (ws.drop i) ≤ tb.length := by
        refine Nat.le_trans ?_ hL
        unfold lenP
        refine Nat.add_le_add_right ?_ _
        conv => rhs; rw [← List.take_append_drop i ws]
        rw [List.map_append, List.sum_append]
        omega
      rw [hdrop] at hLi hr0 ⊢
      walk_at "rd"
      obtain ⟨as, hc1, hc2⟩ := hch2
      refine ⟨c, rfl, ⟨_, SqL.rd hc1⟩, ?_⟩
      refine for_it walk_list (fun j σ H' => (∃ y z, σ = [some (.ref t), some (.ref b), some (.ref p), some (.int (0 + (i : Int))), some (.ref c), some (.int (lenP names (x :: ws.drop (i + 1)) : Nat)), some (.int ((r + waysSum tb (lenP names (x :: ws.drop (i + 1))) ((chF names).take j) : Nat) : Int)), y, z]) ∧ (∀ y ∈ (chF names).take j, y.2 ≠ x) ∧ H' = H4) ⟨⟨_, _, rfl⟩, by simp, rfl⟩ (fun _ _ _ _ pv => by rw [pv.2.2]; exact SqL.rd hc1) (fun j v σ H5 H6 hj pv y => ?_) (fun σ H5 pv => ?_)
      · obtain ⟨⟨y0, z0, rfl⟩, hne, rfl⟩ := pv
        obtain ⟨rfl, hv⟩ := y
        obtain ⟨a, ha, rfl⟩ := get_map hv
        rw [List.length_map, hc2.1] at hj
        have hcj : (chF names)[j]? = some (chF names)[j] := List.getElem?_eq_getElem hj
        generalize (chF names)[j] = cj at hcj
        have hpa := hc2.2 j a cj ha hcj
        obtain ⟨e1, e2, e3⟩ := ch_name (List.mem_of_getElem? hcj)
        have n1 := ok.lo _ e3
        have n8 := ok.hi _ e3
        walk_at "rd"
        refine ⟨a, _, rfl, SqT.rd hpa, rfl, ?_⟩
        walk_at "rd"
        refine g_ixT (SqT.rd (s02 _ _ hp)) (v := .str x) ?_ ?_
        · rw [show (0 : Int) + (i : Int) = ((i : Nat) : Int) by omega]
          exact atI_nat (by rw [List.getElem?_map, hwi]; rfl)
        walk_at "rd"
        refine ifD (fun he => ?_) (fun he => ?_)
        · walk_at "rd"
          refine g_lenS (by rw [sizeLine_eq]; omega) ?_
          walk_at "rd"
          have hll : ((lenP names (x :: ws.drop (i + 1)) : Nat) : Int) - (cj.1.length : Nat) = ((lenP names (ws.drop (i + 1)) : Nat) : Int) := by
            rw [lenP_cons, e1, he]
            show (((nameOf names x).length + _ : Nat) : Int) - _ = _
            omega
          rw [hll]
          refine ⟨⟨_, _, _, r + waysSum tb (lenP names (x :: ws.drop (i + 1))) ((chF names).take j), rfl, ?_⟩, rfl⟩
          · rw [← hr0]
            show _ = r + (waysSum tb (lenP names (x :: ws.drop (i + 1))) (befo (chF names) x) + _)
            unfold befo
            rw [tw_take hcj (by rw [decide_eq_false_iff_not]; exact fun z => z he) (fun y hy => decide_eq_true (hne y hy))]
            omega
        · walk_at "rd"
          refine ⟨b, cj.1, cj.2, lenP names (x :: ws.drop (i + 1)), tb, rfl, s02 _ _ hb, n1, n8, hLi, ?_⟩
          walk_at "rd"
          rw [show ((r + waysSum tb (lenP names (x :: ws.drop (i + 1))) ((chF names).take j) : Nat) : Int) + ((ways tb cj.1 cj.2 (lenP names (x :: ws.drop (i + 1))) : Nat) : Int) = ((r + waysSum tb (lenP names (x :: ws.drop (i + 1))) ((chF names).take (j + 1)) : Nat) : Int) by rw [waysSum_succ hcj]; omega]
          refine ⟨⟨_, _, rfl⟩, ?_, rfl⟩
          · intro y hy
            rw [take_succ' hcj] at hy
            rcases List.mem_append.mp hy with hy | hy
            · exact hne y hy
            · rw [List.mem_singleton.mp hy]; exact he
      · exfalso
        obtain ⟨c0, h0, h1⟩ := ch_has ok.len hx8
        refine pv.2.1 c0 ?_ h1
        rw [List.length_map, hc2.1, List.take_length]
        exact h0
    · obtain ⟨⟨x0, y0, z0, r, rfl, hr0⟩, rfl⟩ := pv
      walk_at "rd"
      rw [List.drop_length] at hr0
      rw [show (r : Nat) = rankF names (chF names) tb ws by rw [← hr0]; rfl]
      exact q _ s02
end
end Dt
set_option Elab.async false
set_option linter.all false
set_option maxRecDepth 100000
set_option maxHeartbeats 4000000
namespace Dt
open PySem PySem.Spec L2
local macro_rules | `(tactic| walk_at "st") => `(tactic| (simp only [L2.start, List.map_cons, List.map_nil, List.length_cons, List.length_nil, List.replicate_succ, List.replicate_zero, List.cons_append, List.nil_append, Nat.zero_add, Nat.reduceAdd, Nat.reduceSub]))
local macro_rules | `(tactic| walk_at "r1") => `(tactic| with_reducible first
  | refine g_seq ?_
  | refine g_next ?_
  | refine g_asg ?_
  | refine g_ifS ?_
  | refine g_ret ?_
  | refine g_retN ?_
  | refine g_drop ?_
  | refine g_brk ?_
  | refine g_c ?_
  | refine g_op ?_
  | refine g_un ?_
  | refine g_I0 ?_
  | refine g_U ?_
  | refine g_eqI ?_
  | refine g_neI ?_
  | refine g_eqS ?_
  | refine g_neS ?_
  | refine g_test ?_
  | refine g_B ?_
  | refine g_bl ?_
  | refine g_if ?_
  | refine g_not ?_
  | refine g_and ?_
  | refine g_or ?_
  | refine g_andV ?_
  | refine g_orV ?_
  | refine g_notV ?_
  | refine g_blif ?_
  | refine g_chain ?_
  | refine g_nil ?_
  | refine g_cons ?_
  | refine g_cb ?_
  | refine g_call ?_
  | refine g_tup ?_
  | refine g_lst ?_
  | refine g_tfld ?_
  | refine g_dget ?_
  | refine g_mk ?_
  | refine g_lc2 ?_
  | refine g_gfld ?_
  | refine g_meth ?_
  | refine g_sfld ?_
  | refine g_din ?_
  | refine g_dput ?_
  | refine g_isN_int ?_
  | refine g_isN_str ?_
  | refine g_isN_ref ?_
  | refine g_isN_non ?_
  | refine g_nN_int ?_
  | refine g_nN_str ?_
  | refine g_nN_ref ?_
  | refine g_nN_non ?_
  | refine g_lc ?_
  | refine g_dc ?_
  | refine g_for ?_
  | refine g_iStr ?_
  | refine g_iList ?_
  | refine g_iTup ?_
  | refine g_iR1 ?_
  | refine g_iR2 ?_
  | refine g_iR3 ?_
  | refine g_iEnum ?_
  | refine g_iZip ?_
  | refine g_iZipA ?_
  | refine g_bm ?_
  | refine g_bm0 ?_
  | refine g_m1 ?_
  | refine g_sl ?_
  | refine g_poN ?_
  | refine g_poS ?_
  | refine g_poI ?_
  | refine g_yes ?_
  | refine g_gtup ?_
  | refine g_gcons ?_
  | refine g_gnil ?_
  | refine g_par ?_
  | refine g_isi_ii ?_
  | refine g_isi_ib ?_
  | refine g_isi_ss ?_
  | refine g_inC ?_
  | refine g_int1 ?_
  | refine g_int1b ?_
  | refine g_abs ?_
  | refine g_ltS ?_
  | refine iteT ?_
  | refine iteNT ?_
  | refine iteNF ?_
  | refine iteF ?_)
local macro_rules | `(tactic| walk_at "sd") => `(tactic| first | assumption | rfl | decide | omega)
local macro_rules | `(tactic| walk_at "hp") => `(tactic| first | assumption | exact upd_same | exact Same.get (by assumption) (by walk_at "hp") | exact Off.get (by assumption) (by walk_at "hp") (by walk_at "ne"))
local macro_rules | `(tactic| walk_at "ne") => `(tactic| first | assumption | (refine Ne.symm ?_; assumption) | exact ne_of_none (by walk_at "hp") (by assumption) | exact ne_none (by walk_at "hp") (by assumption) | exact ne_of (by walk_at "hp") (by walk_at "hp") (by intro z; cases z))
local macro_rules | `(tactic| walk_at "sq") => `(tactic| first | assumption | exact SqL.rd (by walk_at "hp") | exact SqT.rd (by walk_at "hp") | exact Same.seq (by assumption) (by walk_at "sq") | exact Same.seqT (by assumption) (by walk_at "sq"))
local macro_rules | `(tactic| walk_at "rI") => `(tactic| ((with_reducible refine g_I ?_ ?_); (focus (first | (refine Or.inl ⟨?_, ?_⟩ <;> (first | decide | omega)) | (refine Or.inr ⟨?_, ?_⟩ <;> (first | decide | omega)) | (show (0 : Int) < _; first | decide | omega | assumption) | (refine And.intro ?_ ?_ <;> (first | decide | omega | (refine And.intro ?_ ?_ <;> (first | decide | omega))))))))
local macro_rules | `(tactic| walk_at "r2") => `(tactic| first
  | ((with_reducible refine g_tvar ?_); (refine ⟨_, rfl, ?_⟩))
  | ((with_reducible refine g_name' (σ' := ?s) ?e ?h); (case e => (simp only [wipe, List.set_cons_zero, List.set_cons_succ]; first | done | rfl)))
  | (refine And.intro (show wipe _ _ = wipe _ _ from rfl) ?_)
  | walk_at "rI")
local macro_rules | `(tactic| walk_at "rd") => `(tactic| repeat (first | walk_at "r1" | walk_at "r2"))
local macro_rules | `(tactic| walk_at "gn") => `(tactic| (intro pA hA; generalize hG : upd _ _ _ = H2A; (have sA : Same _ H2A := hG ▸ Same.upd hA); (have lA : H2A pA = some _ := hG ▸ upd_same); clear hG))
local macro_rules | `(tactic| walk_at "mk") => `(tactic| (intro xM dxM h1M h2M hneM; generalize hG : upd (upd _ _ _) _ _ = HM; (have sM : Same _ HM := hG ▸ Same.updW (Same.upd h2M) h1M); (have lM : HM xM = some _ := hG ▸ upd_same); clear hG))
theorem g_while {σ : St} {H : Hp} {D : Ends} {c : TT} {tb : TS} (h : ∃ W : Nat → St → Hp → Prop, (∃ m, W m σ H) ∧ ∀ m σ H, W m σ H →
  c σ H fun b H1 => if b = true then ∃ N : St → Hp → Prop, (∀ σ' H', N σ' H' → ∃ m', m' < m ∧ W m' σ' H') ∧ tb { D with nx := N, ct := N, bk := D.nx } σ H1 else D.nx σ H1) : tWhile c tb D σ H := h
/-- one group of a row -/
def grpF (ch : Ch) (f L : Nat) (c : Str × Str) : List (List Str) := if c.2 = ("end" : Str) then (if c.1.length = L then [[]] else []) else if c.1.length ≤ L then (rowsF ch f (L - c.1.length)).map (c.2 :: ·) else []
theorem rowsF_eq {ch : Ch} {f L : Nat} : rowsF ch (f + 1) L = ch.flatMap (grpF ch f L) := rfl
theorem flatMap_same {α β : Type} {f g : α → List β} : ∀ {l : List α}, (∀ x ∈ l, f x = g x) → l.flatMap f = l.flatMap g
  | [], _ => rfl
  | a :: l, h => by
    rw [List.flatMap_cons, List.flatMap_cons, h a (.head _), flatMap_same fun x hx => h x (.tail _ hx)]
theorem rowsF_fuel {ch : Ch} (hp : ∀ c ∈ ch, 1 ≤ c.1.length) : ∀ (f g L : Nat), L < f → L < g → rowsF ch f L = rowsF ch g L
  | 0, _, _, h, _ => absurd h (Nat.not_lt_zero _)
  | _ + 1, 0, _, _, h => absurd h (Nat.not_lt_zero _)
  | f + 1, g + 1, L, hf, hg => by
    rw [rowsF_eq, rowsF_eq]
    refine flatMap_same fun c hc => ?_
    have h1 := hp c hc
    unfold grpF
    by_cases he : c.2 = ("end" : Str)
    · rw [if_pos he, if_pos he]
    · rw [if_neg he, if_neg he]
      by_cases hl : c.1.length ≤ L
      · rw [if_pos hl, if_pos hl, rowsF_fuel hp f g (L - c.1.length) (by omega) (by omega)]
      · rw [if_neg hl, if_neg hl]
/-- one group of the row of L -/
def grp (ch : Ch) (L : Nat) (c : Str × Str) : List (List Str) := if c.2 = ("end" : Str) then (if c.1.length = L then [[]] else []) else if c.1.length ≤ L then (rows ch (L - c.1.length)).map (c.2 :: ·) else []
theorem rows_eq {ch : Ch} (hp : ∀ c ∈ ch, 1 ≤ c.1.length) (L : Nat) : rows ch L = ch.flatMap (grp ch L) := by
  unfold rows
  rw [rowsF_eq]
  refine flatMap_same fun c hc => ?_
  have h1 := hp c hc
  unfold grpF grp rows
  by_cases he : c.2 = ("end" : Str)
  · rw [if_pos he, if_pos he]
  · rw [if_neg he, if_neg he]
    by_cases hl : c.1.length ≤ L
    · rw [if_pos hl, if_pos hl, rowsF_fuel hp L (L - c.1.length + 1) (L - c.1.length) (by omega) (by omega)]
    · rw [if_neg hl, if_neg hl]
theorem grp_len {ch : Ch} {tb : List Nat} {L : Nat} {c : Str × Str} (h1 : 1 ≤ c.1.length) (ht : ∀ i, i < L → tb.getD i 0 = (rows ch i).length) : (grp ch L c).length = ways tb c.1 c.2 L := by
  unfold grp ways
  by_cases he : c.2 = ("end" : Str)
  · rw [if_pos he, if_pos he]
    by_cases hl : c.1.length = L
    · rw [if_pos hl, if_pos hl]; rfl
    · rw [if_neg hl, if_neg hl]; rfl
  · rw [if_neg he, if_neg he]
    by_cases hl : c.1.length ≤ L
    · rw [if_pos hl, if_pos hl, List.length_map, ht _ (by omega)]
    · rw [if_neg hl, if_neg hl]; rfl
theorem flat_len {ch : Ch} {tb : List Nat} {L : Nat} (ht : ∀ i, i < L → tb.getD i 0 = (rows ch i).length) : ∀ (l : Ch), (∀ c ∈ l, 1 ≤ c.1.length) → (l.flatMap (grp ch L)).length = waysSum tb L l
  | [], _ => rfl
  | c :: l, h => by
    rw [List.flatMap_cons, List.length_append, flat_len ht l fun x hx => h x (.tail _ hx), grp_len (h c (.head _)) ht]
    unfold waysSum
    rw [List.map_cons, List.sum_cons]
/-- the r-th of the row lies in the j-th group -/
theorem rows_at {ch : Ch} {tb : List Nat} {L j r : Nat} {c : Str × Str} {p : List Str} (hp : ∀ c ∈ ch, 1 ≤ c.1.length) (ht : ∀ i, i < L → tb.getD i 0 = (rows ch i).length) (hc : ch[j]? = some c) (hr : r < ways tb c.1 c.2 L)
    (h : (rows ch L)[waysSum tb L (ch.take j) + r]? = some p) : (grp ch L c)[r]? = some p := by
  have e : ch = ch.take j ++ c :: ch.drop (j + 1) := by
    have e1 : ch.drop j = c :: ch.drop (j + 1) := List.drop_eq_getElem?_toList_append.trans (by rw [hc]; rfl)
    rw [← e1, List.take_append_drop]
  have hl := flat_len ht (ch.take j) fun x hx => hp x (List.mem_of_mem_take hx)
  have e2 : rows ch L = (ch.take j).flatMap (grp ch L) ++ (grp ch L c ++ (ch.drop (j + 1)).flatMap (grp ch L)) := by
    rw [rows_eq hp L]
    conv => lhs; arg 2; rw [e]
    rw [List.flatMap_append, List.flatMap_cons]
  rw [e2, List.getElem?_append_right (by rw [hl]; omega), hl, Nat.add_sub_cancel_left, List.getElem?_append_left (by rw [grp_len (hp c (List.mem_of_getElem? hc)) ht]; exact hr)] at h
  exact h
section
variable {P : Program} {w : World} {K : PySem.W.Frag} {mg : Str → Option Value} {base : Heap}
def sp_ranked : PySem.W.Frag → Sp := fun K vs H Q _ => ∃ t b, ∃ (names p : List Str) (tb : List Nat) (L r : Nat), vs = [.ref t, .ref b, .int L, .int r] ∧ TongueAt K H t names ∧ NamesOk names ∧ H b = some (.lst (natsV tb)) ∧ L ≤ 10000 ∧ L ≤ tb.length ∧ (∀ i, i < L → tb.getD i 0 = (rows (chF names) i).length) ∧ (rows (chF names) L)[r]? = some p ∧ ∀ a H', Same H H' → H' a = some (.tup (p.map V.str)) → Q (.ref a) H'
theorem c_ranked (T : TX w K mg) : C8.Cal P w K mg base 2 "ranked" (sp_ranked K) [] := by
  obtain ⟨f, fd, F, b⟩ := T.d_ranked
  have nd := sc_ranked.nd
  refine C8.cal0 F b .nil sc_ranked (fun vs H Q E h => ?_) (fun cdv A outer s H vs Q E hr h => ?_)
  · obtain ⟨t, b, ns, p, tb, L, r, rfl, _⟩ := h
    rfl
  · obtain ⟨t, b, names, p, tb, L, r, rfl, tg, ok, hb, hL, hLt, htb, hrw, q⟩ := h
    have hp1 : ∀ c ∈ chF names, 1 ≤ c.1.length := fun c hc => ok.lo _ (ch_name hc).2.2
    refine ⟨_, (pss_cons (ps_par (i := 4) (j := 5) rfl nd rfl rfl (by decide) rfl rfl (pa_cons (C8.pe_c (c_choices_of T) hr (by decide) (by rfl) (pa_cons (pv 0) pa_nil)) (pa_cons (pe_lst pa_nil) pa_nil)) (by rfl))
    (pss_one (ps_while PassesOwn.never (pt_val pe_bl)
      (pss_cons (ps_for PassesOwn.never rfl (pi_list (pv 4)) (pg_2 (K := K) (i := 6) (j := 7) rfl rfl nd rfl (Or.inl rfl) (by first | exact .inl rfl | exact .inr rfl) rfl (Or.inl rfl) (by first | exact .inl rfl | exact .inr rfl) rfl rfl rfl rfl)
        (pss_cons (ps_set (i := 8) nd rfl (Or.inl rfl) (C8.pe_c (c_ways_of T) hr (by decide) (by rfl) (pa_cons (pv 1) (pa_cons (pv 6) (pa_cons (pv 7) (pa_cons (pv 2) pa_nil))))))
        (pss_cons (ps_if (pt_cmpR op_lt (pv 3) (pv 8) (nomark _))
          (pss_one ps_break)
          pss_nil)
        (pss_one (ps_set (i := 3) nd rfl (Or.inl rfl) (pe_op op_sub (pv 3) (pv 8)))))))
      (pss_cons (ps_if (pt_cmpR op_eq (pv 7) (C8.pe_gc (by rfl) T.g_END_programs) (nomark _))
        (pss_one (ps_ret (pe_callTy kc_tup (by rfl) T.z_tuple (by decide +kernel) (pa_cons (pv 5) pa_nil))))
        pss_nil)
      (pss_cons (ps_expr (pe_bm PySem.F.plainAttrs_list PySem.F.slot_list_append PySem.F.type_list_append mt_append (pv 5) (pa_cons (pv 7) pa_nil)))
      (pss_one (ps_set (i := 2) nd rfl (Or.inl rfl) (pe_op op_sub (pv 2) (pe_callB kc_lenS (by rfl) T.z_len (by decide +kernel) (pa_cons (pv 6) pa_nil))))))))))), ?_⟩
    walk_at "st"
    walk_at "rd"
    refine ⟨t, names, rfl, tg, ok, fun c H1 s1 hch hcn => ?_⟩
    walk_at "rd"
    refine ⟨show (0 : Nat) ≤ sizeLine by decide, fun l nl => ?_⟩
    refine ⟨_, _, rfl, ?_⟩
    have s2 := Same.upd (o := .lst []) nl
    have l2 : upd H1 l (.lst []) l = some (.lst []) := upd_same
    generalize upd H1 l (.lst []) = H2 at s2 l2
    have hch2 := hch.same s2
    refine g_while ⟨fun m σ H' => ∃ x y z, ∃ (r' : Nat) (pre p2 : List Str), σ = [some (.ref t), some (.ref b), some (.int m), some (.int r'), some (.ref c), some (.ref l), x, y, z] ∧ Same H1 H' ∧ H' l = some (.lst (pre.map V.str)) ∧ pre ++ p2 = p ∧ (rows (chF names) m)[r']? = some p2 ∧ m ≤ L ∧ pre.length + m ≤ L, ⟨L, _, _, _, r, [], p, rfl, s2, l2, rfl, hrw, Nat.le_refl _, by simp⟩, fun m σ H3 hw => ?_⟩
    obtain ⟨x0, y0, z0, r', pre, p2, rfl, s3, l3, hpre, hr', hm, hpl⟩ := hw
    have hch3 := hch.same s3
    have htb' : ∀ i, i < m → tb.getD i 0 = (rows (chF names) i).length := fun i hi => htb i (by omega)
    walk_at "rd"
    refine ⟨fun σ H' => ∃ m', m' < m ∧ ∃ x y z, ∃ (r' : Nat) (pre p2 : List Str), σ = [some (.ref t), some (.ref b), some (.int m'), some (.int r'), some (.ref c), some (.ref l), x, y, z] ∧ Same H1 H' ∧ H' l = some (.lst (pre.map V.str)) ∧ pre ++ p2 = p ∧ (rows (chF names) m')[r']? = some p2 ∧ m' ≤ L ∧ pre.length + m' ≤ L, fun σ' H' h => h, ?_⟩
    walk_at "rd"
    obtain ⟨as, hc1, hc2⟩ := hch3
    refine ⟨c, rfl, ⟨_, SqL.rd hc1⟩, ?_⟩
    refine for_it walk_list (fun j σ H' => (∃ x y z, ∃ r2 : Nat, σ = [some (.ref t), some (.ref b), some (.int m), some (.int r2), some (.ref c), some (.ref l), x, y, z] ∧ r' = waysSum tb m ((chF names).take j) + r2) ∧ H' = H3) ⟨⟨_, _, _, r', rfl, by rw [List.take_zero]; simp [waysSum]⟩, rfl⟩ (fun _ _ _ _ pv => by rw [pv.2]; exact SqL.rd hc1) (fun j v σ H5 H6 hj pv y => ?_) (fun σ H5 pv => ?_)
    · obtain ⟨⟨x1, y1, z1, r2, rfl, hr2⟩, rfl⟩ := pv
      obtain ⟨rfl, hv⟩ := y
      obtain ⟨a, ha, rfl⟩ := get_map hv
      rw [List.length_map, hc2.1] at hj
      have hcj : (chF names)[j]? = some (chF names)[j] := List.getElem?_eq_getElem hj
      generalize (chF names)[j] = cj at hcj
      have hpa := hc2.2 j a cj ha hcj
      obtain ⟨e1, e2, e3⟩ := ch_name (List.mem_of_getElem? hcj)
      have n1 := ok.lo _ e3
      have n8 := ok.hi _ e3
      walk_at "rd"
      refine ⟨a, _, rfl, SqT.rd hpa, rfl, ?_⟩
      walk_at "rd"
      refine ⟨b, cj.1, cj.2, m, tb, rfl, s3 _ _ (s1 _ _ hb), n1, n8, by omega, ?_⟩
      walk_at "rd"
      refine ifD (fun hlt => ?_) (fun hge => ?_)
      · have hlt2 : r2 < ways tb cj.1 cj.2 m := by omega
        have hg := rows_at hp1 htb' hcj hlt2 (p := p2) (by rw [← hr2]; exact hr')
        unfold grp at hg
        walk_at "rd"
        refine ifD (fun he => ?_) (fun he => ?_)
        · rw [if_pos he] at hg
          have hp2 : p2 = [] := by
            by_cases hl : cj.1.length = m
            · rw [if_pos hl] at hg
              have := List.mem_of_getElem? hg
              simpa using this
            · rw [if_neg hl] at hg
              simp at hg
          subst hp2
          rw [List.append_nil] at hpre
          subst hpre
          walk_at "rd"
          refine g_tupL (SqL.rd l3) fun a2 ha2 => ?_
          exact q a2 _ ((s1.trans s3).trans (Same.upd ha2)) upd_same
        · rw [if_neg he] at hg
          have hle : cj.1.length ≤ m := by
            refine Decidable.byContradiction fun z => ?_
            rw [if_neg z] at hg
            simp at hg
          rw [if_pos hle] at hg
          obtain ⟨p3, hp3, hp4⟩ := get_map hg
          subst hp4
          walk_at "rd"
          refine ⟨tyL (SqL.rd l3), ?_⟩
          walk_at "rd"
          refine ⟨l, _, _, rfl, rfl, l3, by rw [List.length_map, sizeLine_eq]; omega, ?_⟩
          walk_at "rd"
          refine g_lenS (by rw [sizeLine_eq]; omega) ?_
          walk_at "rd"
          rw [show (m : Int) - (cj.1.length : Nat) = ((m - cj.1.length : Nat) : Int) by omega]
          walk_at "rd"
          refine ⟨m - cj.1.length, by omega, _, _, _, r2, pre ++ [cj.2], p3, rfl, Same.updW s3 nl, ?_, ?_, hp3, by omega, ?_⟩
          · rw [upd_same, List.map_append]
            rfl
          · rw [List.append_assoc, ← hpre]
            rfl
          · rw [List.length_append, List.length_singleton]
            omega
      · walk_at "rd"
        rw [show (r2 : Int) - ((ways tb cj.1 cj.2 m : Nat) : Int) = ((r2 - ways tb cj.1 cj.2 m : Nat) : Int) by omega]
        refine ⟨⟨_, _, _, r2 - ways tb cj.1 cj.2 m, rfl, ?_⟩, rfl⟩
        rw [waysSum_succ hcj]
        omega
    · exfalso
      obtain ⟨⟨x1, y1, z1, r2, rfl, hr2⟩, rfl⟩ := pv
      rw [List.length_map, hc2.1, List.take_length] at hr2
      have hl := flat_len htb' (chF names) hp1
      rw [← rows_eq hp1] at hl
      have := (List.getElem?_eq_some_iff.mp hr').1
      omega
end
end Dt
set_option Elab.async false
set_option linter.all false
set_option maxRecDepth 100000
set_option maxHeartbeats 4000000
namespace Dt
open PySem PySem.Spec L2
local macro_rules | `(tactic| walk_at "st") => `(tactic| (simp only [L2.start, List.map_cons, List.map_nil, List.length_cons, List.length_nil, List.replicate_succ, List.replicate_zero, List.cons_append, List.nil_append, Nat.zero_add, Nat.reduceAdd, Nat.reduceSub]))
local macro_rules | `(tactic| walk_at "r1") => `(tactic| with_reducible first
  | refine g_seq ?_
  | refine g_next ?_
  | refine g_asg ?_
  | refine g_ifS ?_
  | refine g_ret ?_
  | refine g_retN ?_
  | refine g_drop ?_
  | refine g_brk ?_
  | refine g_c ?_
  | refine g_op ?_
  | refine g_un ?_
  | refine g_I0 ?_
  | refine g_U ?_
  | refine g_eqI ?_
  | refine g_neI ?_
  | refine g_eqS ?_
  | refine g_neS ?_
  | refine g_test ?_
  | refine g_B ?_
  | refine g_bl ?_
  | refine g_if ?_
  | refine g_not ?_
  | refine g_and ?_
  | refine g_or ?_
  | refine g_andV ?_
  | refine g_orV ?_
  | refine g_notV ?_
  | refine g_blif ?_
  | refine g_chain ?_
  | refine g_nil ?_
  | refine g_cons ?_
  | refine g_cb ?_
  | refine g_call ?_
  | refine g_tup ?_
  | refine g_lst ?_
  | refine g_tfld ?_
  | refine g_dget ?_
  | refine g_mk ?_
  | refine g_lc2 ?_
  | refine g_gfld ?_
  | refine g_meth ?_
  | refine g_sfld ?_
  | refine g_din ?_
  | refine g_dput ?_
  | refine g_isN_int ?_
  | refine g_isN_str ?_
  | refine g_isN_ref ?_
  | refine g_isN_non ?_
  | refine g_nN_int ?_
  | refine g_nN_str ?_
  | refine g_nN_ref ?_
  | refine g_nN_non ?_
  | refine g_lc ?_
  | refine g_dc ?_
  | refine g_for ?_
  | refine g_iStr ?_
  | refine g_iList ?_
  | refine g_iTup ?_
  | refine g_iR1 ?_
  | refine g_iR2 ?_
  | refine g_iR3 ?_
  | refine g_iEnum ?_
  | refine g_iZip ?_
  | refine g_iZipA ?_
  | refine g_bm ?_
  | refine g_bm0 ?_
  | refine g_m1 ?_
  | refine g_sl ?_
  | refine g_poN ?_
  | refine g_poS ?_
  | refine g_poI ?_
  | refine g_yes ?_
  | refine g_gtup ?_
  | refine g_gcons ?_
  | refine g_gnil ?_
  | refine g_par ?_
  | refine g_isi_ii ?_
  | refine g_isi_ib ?_
  | refine g_isi_ss ?_
  | refine g_inC ?_
  | refine g_int1 ?_
  | refine g_int1b ?_
  | refine g_abs ?_
  | refine g_ltS ?_
  | refine iteT ?_
  | refine iteNT ?_
  | refine iteNF ?_
  | refine iteF ?_)
local macro_rules | `(tactic| walk_at "sd") => `(tactic| first | assumption | rfl | decide | omega)
local macro_rules | `(tactic| walk_at "hp") => `(tactic| first | assumption | exact upd_same | exact Same.get (by assumption) (by walk_at "hp") | exact Off.get (by assumption) (by walk_at "hp") (by walk_at "ne"))
local macro_rules | `(tactic| walk_at "ne") => `(tactic| first | assumption | (refine Ne.symm ?_; assumption) | exact ne_of_none (by walk_at "hp") (by assumption) | exact ne_none (by walk_at "hp") (by assumption) | exact ne_of (by walk_at "hp") (by walk_at "hp") (by intro z; cases z))
local macro_rules | `(tactic| walk_at "sq") => `(tactic| first | assumption | exact SqL.rd (by walk_at "hp") | exact SqT.rd (by walk_at "hp") | exact Same.seq (by assumption) (by walk_at "sq") | exact Same.seqT (by assumption) (by walk_at "sq"))
local macro_rules | `(tactic| walk_at "rI") => `(tactic| ((with_reducible refine g_I ?_ ?_); (focus (first | (refine Or.inl ⟨?_, ?_⟩ <;> (first | decide | omega)) | (refine Or.inr ⟨?_, ?_⟩ <;> (first | decide | omega)) | (show (0 : Int) < _; first | decide | omega | assumption) | (refine And.intro ?_ ?_ <;> (first | decide | omega | (refine And.intro ?_ ?_ <;> (first | decide | omega))))))))
local macro_rules | `(tactic| walk_at "r2") => `(tactic| first
  | ((with_reducible refine g_tvar ?_); (refine ⟨_, rfl, ?_⟩))
  | ((with_reducible refine g_name' (σ' := ?s) ?e ?h); (case e => (simp only [wipe, List.set_cons_zero, List.set_cons_succ]; first | done | rfl)))
  | (refine And.intro (show wipe _ _ = wipe _ _ from rfl) ?_)
  | walk_at "rI")
local macro_rules | `(tactic| walk_at "rd") => `(tactic| repeat (first | walk_at "r1" | walk_at "r2"))
local macro_rules | `(tactic| walk_at "gn") => `(tactic| (intro pA hA; generalize hG : upd _ _ _ = H2A; (have sA : Same _ H2A := hG ▸ Same.upd hA); (have lA : H2A pA = some _ := hG ▸ upd_same); clear hG))
local macro_rules | `(tactic| walk_at "mk") => `(tactic| (intro xM dxM h1M h2M hneM; generalize hG : upd (upd _ _ _) _ _ = HM; (have sM : Same _ HM := hG ▸ Same.updW (Same.upd h2M) h1M); (have lM : HM xM = some _ := hG ▸ upd_same); clear hG))
def TupAt (H : Hp) (a : Addr) (p : List Str) : Prop := H a = some (.tup (p.map V.str))
/-- a list of tuples of texts -/
def RowsAt (H : Hp) (l : Addr) (rs : List (List Str)) : Prop := ∃ as : List Addr, H l = some (.lst (as.map V.ref)) ∧ Objs H TupAt as rs
theorem RowsAt.same {H H' : Hp} {c : Addr} {ch : List (List Str)} (e : Same H H') (h : RowsAt H c ch) : RowsAt H' c ch := by
  obtain ⟨as, h1, h2⟩ := h
  exact ⟨as, e _ _ h1, h2.same fun a x q => e _ _ q⟩
theorem RowsAt.off {H H' : Hp} {c l : Addr} {ch : List (List Str)} {o : HO} (e : Off l H H') (hl : H l = some o) (n1 : ∀ xs, o ≠ .lst xs) (n2 : ∀ xs, o ≠ .tup xs) (h : RowsAt H c ch) : RowsAt H' c ch := by
  obtain ⟨as, h1, h2⟩ := h
  refine ⟨as, e _ _ h1 (fun z => ?_), h2.same fun a x q => e _ _ q (fun z => ?_)⟩
  · subst z; rw [h1] at hl; exact n1 _ (Option.some.inj hl).symm
  · subst z; unfold TupAt at q; rw [q] at hl; exact n2 _ (Option.some.inj hl).symm
theorem Objs.append {α : Type} {H : Hp} {R : Hp → Addr → α → Prop} {as bs : List Addr} {xs ys : List α} (h : Objs H R as xs) (g : Objs H R bs ys) : Objs H R (as ++ bs) (xs ++ ys) := by
  refine ⟨by rw [List.length_append, List.length_append, h.1, g.1], fun i a x e1 e2 => ?_⟩
  by_cases hi : i < as.length
  · rw [List.getElem?_append_left hi] at e1
    rw [List.getElem?_append_left (by rw [← h.1]; exact hi)] at e2
    exact h.2 i a x e1 e2
  · rw [List.getElem?_append_right (by omega)] at e1
    rw [List.getElem?_append_right (by rw [← h.1]; omega), ← h.1] at e2
    exact g.2 _ a x e1 e2
theorem Objs.nil {α : Type} {H : Hp} {R : Hp → Addr → α → Prop} : Objs H R [] [] := ⟨rfl, fun i a x e => by simp at e⟩
theorem Objs.one {α : Type} {H : Hp} {R : Hp → Addr → α → Prop} {a : Addr} {x : α} (h : R H a x) : Objs H R [a] [x] := ⟨rfl, fun i b y e1 e2 => by
  cases i with
  | zero =>
    have e1 : a = b := by simpa using e1
    have e2 : x = y := by simpa using e2
    subst e1 e2
    exact h
  | succ i => simp at e1⟩
theorem Objs.off {H H' : Hp} {l : Addr} {as : List Addr} {rs : List (List Str)} {xs : List V} (e : Off l H H') (hl : H l = some (.lst xs)) (h : Objs H TupAt as rs) : Objs H' TupAt as rs :=
  h.same fun a x q => e _ _ q (fun z => by subst z; unfold TupAt at q; rw [q] at hl; cases hl)
/-! ### how long a row is -/
theorem waysSum_le {ch : Ch} {tb : List Nat} {L : Nat} (h8 : ∀ c ∈ ch, c.1.length ≤ 8) (ht : ∀ i, i < L → tb.getD i 0 ≤ 2 ^ i) (h1 : ∀ c ∈ ch, 1 ≤ c.1.length) : waysSum tb L ch * 256 ≤ (ch.map fun c => 2 ^ (8 - c.1.length)).sum * 2 ^ L := by
  induction ch with
  | nil => exact Nat.zero_le _
  | cons c ch ih =>
    have ih2 := ih (fun x hx => h8 x (.tail _ hx)) (fun x hx => h1 x (.tail _ hx))
    have e : waysSum tb L (c :: ch) = ways tb c.1 c.2 L + waysSum tb L ch := by
      unfold waysSum
      rw [List.map_cons, List.sum_cons]
    rw [e, List.map_cons, List.sum_cons, Nat.add_mul, Nat.add_mul]
    refine Nat.add_le_add ?_ ih2
    have hc8 := h8 c (.head _)
    have hc1 := h1 c (.head _)
    have key : ∀ n, c.1.length ≤ L → n ≤ 2 ^ (L - c.1.length) → n * 256 ≤ 2 ^ (8 - c.1.length) * 2 ^ L := by
      intro n hl hn
      have e1 : 2 ^ (L - c.1.length) * 256 = 2 ^ (8 - c.1.length) * 2 ^ L := by
        rw [show (256 : Nat) = 2 ^ 8 from rfl, ← Nat.pow_add, ← Nat.pow_add]
        congr 1
        omega
      rw [← e1]
      exact Nat.mul_le_mul_right _ hn
    unfold ways
    by_cases he : c.2 = ("end" : Str)
    · rw [if_pos he]
      by_cases hl : c.1.length = L
      · rw [if_pos hl]
        exact key 1 (by omega) (Nat.one_le_two_pow)
      · rw [if_neg hl, Nat.zero_mul]
        exact Nat.zero_le _
    · rw [if_neg he]
      by_cases hl : c.1.length ≤ L
      · rw [if_pos hl]
        exact key _ hl (ht _ (by omega))
      · rw [if_neg hl, Nat.zero_mul]
        exact Nat.zero_le _
theorem ch_kraft {names : List Str} (ok : NamesOk names) : ((chF names).map fun c => 2 ^ (8 - c.1.length)).sum ≤ 256 := by
  have h1 : ((chF names).map fun c => 2 ^ (8 - c.1.length)).sum = ((names.zip W8).map fun c => 2 ^ (8 - c.1.length)).sum := (chF_perm.map _).sum_nat
  rw [h1]
  have e : ((names.zip W8).map fun c => 2 ^ (8 - c.1.length)) = names.map fun n => 2 ^ (8 - n.length) := by
    rw [show (fun c : Str × Str => 2 ^ (8 - c.1.length)) = (fun n : Str => 2 ^ (8 - n.length)) ∘ Prod.fst from rfl, ← List.map_map, List.map_fst_zip (by rw [ok.len]; decide)]
  rw [e]
  exact ok.kraft
theorem rows_le {names : List Str} (ok : NamesOk names) : ∀ L, (rows (chF names) L).length ≤ 2 ^ L := by
  intro L
  induction L using Nat.strongRecOn with
  | _ L ih =>
    have hp1 : ∀ c ∈ chF names, 1 ≤ c.1.length := fun c hc => ok.lo _ (ch_name hc).2.2
    have hp8 : ∀ c ∈ chF names, c.1.length ≤ 8 := fun c hc => ok.hi _ (ch_name hc).2.2
    have hg : ∀ i, i < L → ((List.range L).map fun i => (rows (chF names) i).length).getD i 0 = (rows (chF names) i).length := by
      intro i hi
      rw [List.getD_eq_getElem?_getD, List.getElem?_map, List.getElem?_range hi]
      rfl
    have e := flat_len hg (chF names) hp1
    rw [← rows_eq hp1] at e
    have k := waysSum_le (L := L) (tb := (List.range L).map fun i => (rows (chF names) i).length) hp8 (fun i hi => by rw [hg i hi]; exact ih i hi) hp1
    rw [← e] at k
    have k2 : ((chF names).map fun c => 2 ^ (8 - c.1.length)).sum * 2 ^ L ≤ 256 * 2 ^ L := Nat.mul_le_mul_right _ (ch_kraft ok)
    omega
theorem W8_cases {x : Str} (h : x ∈ W8) (he : x ≠ ("end" : Str)) : x ∈ W7 := by
  have h8 : x ∈ W7 ++ [("end" : Str)] := h
  rcases List.mem_append.mp h8 with h | h
  · exact h
  · exact absurd (List.mem_singleton.mp h) he
theorem ch_lenW {names : List Str} {c : Str × Str} (h : c ∈ chF names) : c.1.length = lenW names c.2 := by
  unfold lenW
  rw [← (ch_name h).1]
theorem rows_mem {names : List Str} (ok : NamesOk names) : ∀ {L : Nat} {p : List Str}, p ∈ rows (chF names) L → (∀ x ∈ p, x ∈ W7) ∧ lenP names p = L := by
  intro L
  induction L using Nat.strongRecOn with
  | _ L ih =>
    intro p hp
    have hp1 : ∀ c ∈ chF names, 1 ≤ c.1.length := fun c hc => ok.lo _ (ch_name hc).2.2
    rw [rows_eq hp1] at hp
    obtain ⟨c, hc, hg⟩ := List.mem_flatMap.mp hp
    have h1 := hp1 c hc
    unfold grp at hg
    by_cases he : c.2 = ("end" : Str)
    · rw [if_pos he] at hg
      by_cases hl : c.1.length = L
      · rw [if_pos hl] at hg
        have e := List.mem_singleton.mp hg
        subst e
        refine ⟨fun x hx => (nomatch hx), ?_⟩
        rw [ch_lenW hc, he] at hl
        unfold lenP
        simpa using hl
      · rw [if_neg hl] at hg
        cases hg
    · rw [if_neg he] at hg
      by_cases hl : c.1.length ≤ L
      · rw [if_pos hl] at hg
        obtain ⟨q, hq, rfl⟩ := List.mem_map.mp hg
        obtain ⟨i1, i2⟩ := ih _ (by omega) hq
        refine ⟨fun x hx => ?_, ?_⟩
        · rcases List.mem_cons.mp hx with rfl | hx
          · exact W8_cases (ch_name hc).2.1 he
          · exact i1 x hx
        · rw [lenP_cons, i2, ← ch_lenW hc]
          omega
      · rw [if_neg hl] at hg
        cases hg
theorem lenP_ge {names : List Str} (ok : NamesOk names) : ∀ {p : List Str}, (∀ x ∈ p, x ∈ W7) → p.length + 1 ≤ lenP names p
  | [], _ => by
    have := (lenW_le ok end8).1
    unfold lenP
    simpa using this
  | x :: p, h => by
    have h1 := (lenW_le ok (W78 (h x (.head _)))).1
    have h2 := lenP_ge ok (p := p) fun y hy => h y (.tail _ hy)
    rw [lenP_cons, List.length_cons]
    omega
theorem flat_le {ch : Ch} {L j : Nat} : ((ch.take j).flatMap (grp ch L)).length ≤ (ch.flatMap (grp ch L)).length := by
  have e : ch.flatMap (grp ch L) = (ch.take j).flatMap (grp ch L) ++ (ch.drop j).flatMap (grp ch L) := by
    rw [← List.flatMap_append, List.take_append_drop]
  rw [e, List.length_append]
  omega
theorem flat_succ {ch : Ch} {L j : Nat} {c : Str × Str} (h : ch[j]? = some c) : (ch.take (j + 1)).flatMap (grp ch L) = (ch.take j).flatMap (grp ch L) ++ grp ch L c := by
  rw [take_succ' h, List.flatMap_append]
  simp
section
variable {P : Program} {w : World} {K : PySem.W.Frag} {mg : Str → Option Value} {base : Heap}
def sp_row_at : PySem.W.Frag → Sp := fun K vs H Q _ => ∃ c d, ∃ (names : List Str) (L : Nat) (kvs : List (Key × V)), vs = [.ref c, .ref d, .int L] ∧ ChAt H c (chF names) ∧ NamesOk names ∧ H d = some (.dK kvs) ∧ L ≤ 23 ∧
  (∀ i : Nat, (∃ x ∈ W7, lenW names x ≤ L ∧ i = L - lenW names x) → ∃ a, valV kvs (.inl (i : Int)) = some (.ref a) ∧ RowsAt H a (rows (chF names) i)) ∧ ∀ l H', Same H H' → H l = none → RowsAt H' l (rows (chF names) L) → Q (.ref l) H'
theorem c_row_at (T : TX w K mg) : C8.Cal P w K mg base 1 "row_at" (sp_row_at K) [] := by
  obtain ⟨f, fd, F, b⟩ := T.d_row_at
  have nd := sc_row_at.nd
  refine C8.cal0 F b .nil sc_row_at (fun vs H Q E h => ?_) (fun cdv A outer s H vs Q E hr h => ?_)
  · obtain ⟨c, d, ns, L, kvs, rfl, _⟩ := h
    rfl
  · obtain ⟨c, d, names, L, kvs, rfl, hch, ok, hd, hL, hrows, q⟩ := h
    have hu := hu_of hr
    have hp1 : ∀ c ∈ chF names, 1 ≤ c.1.length := fun c hc => ok.lo _ (ch_name hc).2.2
    have hbig : (rows (chF names) L).length ≤ 8388608 := Nat.le_trans (rows_le ok L) (Nat.pow_le_pow_right (by decide) hL)
    rw [rows_eq hp1] at hbig
    refine ⟨_, (pss_cons (ps_set (i := 3) nd rfl (Or.inl rfl) (pe_lst pa_nil))
    (pss_cons (ps_for PassesOwn.never rfl (pi_list (pv 0)) (pg_2 (K := K) (i := 4) (j := 5) rfl rfl nd rfl (Or.inl rfl) (by first | exact .inl rfl | exact .inr rfl) rfl (Or.inr rfl) (by first | exact .inl rfl | exact .inr rfl) rfl rfl rfl rfl)
      (pss_cons (ps_if (PW.pt (pw_and (pt_cmpR op_eq (pv 5) (C8.pe_gc (by rfl) T.g_END_programs) (nomark _)) (pw_and1 (pt_cmpR op_eq (pe_callB kc_lenS (by rfl) T.z_len (by decide +kernel) (pa_cons (pv 4) pa_nil)) (pv 2) (nomark _)))))
        (pss_one (ps_expr (pe_bm PySem.F.plainAttrs_list PySem.F.slot_list_append PySem.F.type_list_append mt_append (pv 3) (pa_cons (pe_tup pa_nil) pa_nil))))
        pss_nil)
      (pss_one (ps_if (PW.pt (pw_and (pt_cmpR op_ne (pv 5) (C8.pe_gc (by rfl) T.g_END_programs) (nomark _)) (pw_and1 (pt_cmpR op_le (pe_callB kc_lenS (by rfl) T.z_len (by decide +kernel) (pa_cons (pv 4) pa_nil)) (pv 2) (nomark _)))))
        (pss_one (ps_expr (pe_bm PySem.F.plainAttrs_list PySem.F.slot_list_extend PySem.F.type_list_extend mt_extend (pv 3) (pa_cons (pe_lc rfl nd (pi_list (pe_dget hu (pv 1) (pe_op op_sub (pv 2) (pe_callB kc_lenS (by rfl) T.z_len (by decide +kernel) (pa_cons (pv 4) pa_nil))) (fun _ _ => rfl))) (blkOk_by (own := [("rest", 6)]) (N := n_row_at) (sc := defScope s_row_at) (by decide +kernel)) (fun _ _ _ _ _ => (pg_name (i := 6) nd rfl (Or.inl rfl))) (fun _ _ _ _ _ => pts_nil) (fun _ _ _ _ _ => (pe_op (kOp (K := K) (r := rCatA) rfl op_catA) (pe_tup (pa_cons (pv 5) pa_nil)) (pv 6)))) pa_nil))))
        pss_nil))))
    (pss_one (ps_ret (pv 3))))), ?_⟩
    walk_at "st"
    walk_at "rd"
    refine ⟨show (0 : Nat) ≤ sizeLine by decide, fun l nl => ?_⟩
    walk_at "rd"
    obtain ⟨as, hc1, hc2⟩ := hch
    refine ⟨c, rfl, ⟨_, SqL.rd (Same.upd nl _ _ hc1)⟩, ?_⟩
    refine for_it walk_list (fun j σ H' => (∃ x y z, σ = [some (.ref c), some (.ref d), some (.int L), some (.ref l), x, y, z]) ∧ Same H H' ∧ ∃ bs : List Addr, H' l = some (.lst (bs.map V.ref)) ∧ Objs H' TupAt bs (((chF names).take j).flatMap (grp (chF names) L))) ⟨⟨_, _, _, rfl⟩, Same.upd nl, [], upd_same, Objs.nil⟩ (fun _ _ _ _ pv => SqL.rd (pv.2.1 _ _ hc1)) (fun j v σ H1 H2 hj pv y => ?_) (fun σ H1 pv => ?_)
    · obtain ⟨⟨x1, y1, z1, rfl⟩, s1, bs, l1, ob⟩ := pv
      obtain ⟨rfl, hv⟩ := y
      obtain ⟨a, ha, rfl⟩ := get_map hv
      rw [List.length_map, hc2.1] at hj
      have hcj : (chF names)[j]? = some (chF names)[j] := List.getElem?_eq_getElem hj
      generalize (chF names)[j] = cj at hcj
      have hpa := s1 _ _ (hc2.2 j a cj ha hcj)
      obtain ⟨e1, e2, e3⟩ := ch_name (List.mem_of_getElem? hcj)
      have n1 := ok.lo _ e3
      have n8 := ok.hi _ e3
      have hfl := flat_succ (L := L) hcj
      have hle1 := Nat.le_trans (flat_le (ch := chF names) (L := L) (j := j + 1)) hbig
      rw [hfl] at hle1 ⊢
      rw [List.length_append] at hle1
      generalize hA : ((chF names).take j).flatMap (grp (chF names) L) = A at ob hle1 ⊢
      have hG : grp (chF names) L cj = if cj.2 = ("end" : Str) then (if cj.1.length = L then [[]] else []) else if cj.1.length ≤ L then (rows (chF names) (L - cj.1.length)).map (cj.2 :: ·) else [] := rfl
      generalize grp (chF names) L cj = G at hG hle1 ⊢
      have oL := ob.1
      walk_at "rd"
      refine ⟨a, _, rfl, SqT.rd hpa, rfl, ?_⟩
      walk_at "rd"
      by_cases he : cj.2 = ("end" : Str)
      · rw [if_pos he] at hG
        refine ifD_t he ?_
        walk_at "rd"
        refine g_lenS (by rw [sizeLine_eq]; omega) ?_
        walk_at "rd"
        by_cases hl : cj.1.length = L
        · rw [if_pos hl] at hG
          subst hG
          refine ifD_t (by omega) ?_
          walk_at "rd"
          refine ⟨tyL (SqL.rd l1), ?_⟩
          walk_at "rd"
          refine ⟨show (0 : Nat) ≤ sizeLine by decide, fun tp ntp => ?_⟩
          have s3 := Same.upd (o := .tup []) ntp
          have l3 : upd H2 tp (.tup []) tp = some (.tup []) := upd_same
          generalize upd H2 tp (.tup []) = H3 at s3 l3
          walk_at "rd"
          refine ⟨l, _, _, rfl, rfl, s3 _ _ l1, ?_, ?_⟩
          · rw [List.length_map, oL, sizeLine_eq]
            omega
          walk_at "rd"
          refine ifN_f he ?_
          refine ⟨⟨_, _, _, rfl⟩, Same.updW (s1.trans s3) nl, bs ++ [tp], ?_, ?_⟩
          · rw [upd_same, List.map_append]
            rfl
          · exact Objs.off (Off.upd (o := .lst (bs.map V.ref ++ [V.ref tp]))) (s3 _ _ l1) (Objs.append (ob.same fun a x q => s3 _ _ q) (Objs.one (x := ([] : List Str)) l3))
        · rw [if_neg hl] at hG
          subst hG
          refine ifD_f (by omega) ?_
          walk_at "rd"
          refine ifN_f he ?_
          refine ⟨⟨_, _, _, rfl⟩, s1, bs, l1, ?_⟩
          rw [List.append_nil]
          exact ob
      · rw [if_neg he] at hG
        refine ifD_f he ?_
        walk_at "rd"
        refine ifN_t he ?_
        walk_at "rd"
        refine g_lenS (by rw [sizeLine_eq]; omega) ?_
        walk_at "rd"
        by_cases hl : cj.1.length ≤ L
        · rw [if_pos hl] at hG
          have hx7 : cj.2 ∈ W7 := by
            have h8 : cj.2 ∈ W7 ++ [("end" : Str)] := e2
            rcases List.mem_append.mp h8 with h | h
            · exact h
            · exact absurd (List.mem_singleton.mp h) he
          have hln : lenW names cj.2 = cj.1.length := by unfold lenW; rw [← e1]
          obtain ⟨ra, hra, rat⟩ := hrows (L - cj.1.length) ⟨cj.2, hx7, by rw [hln]; exact hl, by rw [hln]⟩
          have rat2 := rat.same s1
          obtain ⟨rs, hrs1, hrs2⟩ := rat2
          subst hG
          rw [List.length_map] at hle1
          refine ifD_t (by omega) ?_
          walk_at "rd"
          refine ⟨tyL (SqL.rd l1), ?_⟩
          walk_at "rd"
          refine g_lenS (by rw [sizeLine_eq]; omega) ?_
          walk_at "rd"
          rw [show (L : Int) - (cj.1.length : Nat) = ((L - cj.1.length : Nat) : Int) by omega]
          refine g_dgK (.inl ((L - cj.1.length : Nat) : Int)) (s1 _ _ hd) hra ?_
          refine ⟨ra, rfl, ⟨_, SqL.rd hrs1⟩, fun D nD => ?_⟩
          refine lc_it walk_list (fun i H' => Same H2 H' ∧ ∃ es : List Addr, H' D = some (.lst (es.map V.ref)) ∧ Objs H' TupAt es (((rows (chF names) (L - cj.1.length)).take i).map (cj.2 :: ·))) ⟨Same.upd nD, [], upd_same, Objs.nil⟩ (fun _ _ _ pv => SqL.rd (pv.1 _ _ hrs1)) (fun i x H3 H4 hi pv y => ?_) (fun H3 pv => ?_)
          · obtain ⟨s3, es, l3, oe⟩ := pv
            obtain ⟨rfl, hx1⟩ := y
            obtain ⟨ta, hta, rfl⟩ := get_map hx1
            rw [List.length_map, hrs2.1] at hi
            have hri : (rows (chF names) (L - cj.1.length))[i]? = some (rows (chF names) (L - cj.1.length))[i] := List.getElem?_eq_getElem hi
            generalize (rows (chF names) (L - cj.1.length))[i] = rest at hri
            have hat : H4 ta = some (.tup (rest.map V.str)) := s3 _ _ (hrs2.2 i ta rest hta hri)
            have hlen3 : es.length < sizeLine := by rw [oe.1, List.length_map, List.length_take, sizeLine_eq]; omega
            have hnext : ∀ (q : Addr) (H5 : Hp), Same H4 H5 → TupAt H5 q (cj.2 :: rest) → ∃ acc, H5 D = some (.lst acc) ∧ acc.length < sizeLine ∧ (Same H2 (upd H5 D (.lst (acc ++ [V.ref q]))) ∧ ∃ es : List Addr, upd H5 D (.lst (acc ++ [V.ref q])) D = some (.lst (es.map V.ref)) ∧ Objs (upd H5 D (.lst (acc ++ [V.ref q]))) TupAt es (((rows (chF names) (L - cj.1.length)).take (i + 1)).map (cj.2 :: ·))) := by
              intro q H5 s5 tq
              refine ⟨_, s5 _ _ l3, by rw [List.length_map]; exact hlen3, Same.updW (s3.trans s5) nD, es ++ [q], ?_, ?_⟩
              · rw [upd_same, List.map_append]
                rfl
              · rw [take_succ' hri, List.map_append]
                exact Objs.off Off.upd (s5 _ _ l3) (Objs.append (oe.same fun a x q => s5 _ _ q) (Objs.one tq))
            walk_at "rd"
            refine ⟨show (1 : Nat) ≤ sizeLine by decide, fun tp ntp => ?_⟩
            have s5 := Same.upd (o := .tup [V.str cj.2]) ntp
            have l5 : upd H4 tp (.tup [V.str cj.2]) tp = some (.tup [V.str cj.2]) := upd_same
            generalize upd H4 tp (.tup [V.str cj.2]) = H5 at s5 l5
            walk_at "rd"
            refine ⟨tp, ta, _, _, rfl, rfl, SqT.rd l5, SqT.rd (s5 _ _ hat), ?_, (fun z => by cases z), fun _ hz => ?_, fun _ hz tq ntq => ?_⟩
            · have hr2 := (rows_mem ok (List.mem_of_getElem? hri))
              have hr3 := lenP_ge ok hr2.1
              rw [hr2.2] at hr3
              rw [List.length_map, List.length_singleton, sizeLine_eq]
              omega
            · refine hnext tp H5 s5 ?_
              have hz2 : rest = [] := by simpa using hz
              subst hz2
              exact l5
            · refine hnext tq _ (s5.trans (Same.upd ntq)) ?_
              exact upd_same
          · obtain ⟨s3, es, l3, oe⟩ := pv
            rw [List.length_map, hrs2.1, List.take_length] at oe
            have oeL := oe.1
            rw [List.length_map] at oeL
            walk_at "rd"
            refine ⟨l, D, _, _, rfl, rfl, s3 _ _ l1, l3, by rw [List.length_map, List.length_map, oL, oeL, sizeLine_eq]; omega, ?_⟩
            refine ⟨⟨_, _, _, rfl⟩, Same.updW (s1.trans s3) nl, bs ++ es, ?_, ?_⟩
            · rw [upd_same, List.map_append]
            · exact Objs.off Off.upd (s3 _ _ l1) (Objs.append (ob.same fun a x q => s3 _ _ q) oe)
        · rw [if_neg hl] at hG
          subst hG
          refine ifD_f (by omega) ?_
          refine ⟨⟨_, _, _, rfl⟩, s1, bs, l1, ?_⟩
          rw [List.append_nil]
          exact ob
    · obtain ⟨⟨x1, y1, z1, rfl⟩, s1, bs, l1, ob⟩ := pv
      rw [List.length_map, hc2.1, List.take_length, ← rows_eq hp1] at ob
      walk_at "rd"
      exact q l _ s1 nl ⟨bs, l1, ob⟩
end
end Dt
set_option Elab.async false
set_option linter.all false
set_option maxRecDepth 100000
set_option maxHeartbeats 4000000
namespace Dt
open PySem PySem.Spec L2
local macro_rules | `(tactic| walk_at "st") => `(tactic| (simp only [L2.start, List.map_cons, List.map_nil, List.length_cons, List.length_nil, List.replicate_succ, List.replicate_zero, List.cons_append, List.nil_append, Nat.zero_add, Nat.reduceAdd, Nat.reduceSub]))
local macro_rules | `(tactic| walk_at "r1") => `(tactic| with_reducible first
  | refine g_seq ?_
  | refine g_next ?_
  | refine g_asg ?_
  | refine g_ifS ?_
  | refine g_ret ?_
  | refine g_retN ?_
  | refine g_drop ?_
  | refine g_brk ?_
  | refine g_c ?_
  | refine g_op ?_
  | refine g_un ?_
  | refine g_I0 ?_
  | refine g_U ?_
  | refine g_eqI ?_
  | refine g_neI ?_
  | refine g_eqS ?_
  | refine g_neS ?_
  | refine g_test ?_
  | refine g_B ?_
  | refine g_bl ?_
  | refine g_if ?_
  | refine g_not ?_
  | refine g_and ?_
  | refine g_or ?_
  | refine g_andV ?_
  | refine g_orV ?_
  | refine g_notV ?_
  | refine g_blif ?_
  | refine g_chain ?_
  | refine g_nil ?_
  | refine g_cons ?_
  | refine g_cb ?_
  | refine g_call ?_
  | refine g_tup ?_
  | refine g_lst ?_
  | refine g_tfld ?_
  | refine g_dget ?_
  | refine g_mk ?_
  | refine g_lc2 ?_
  | refine g_gfld ?_
  | refine g_meth ?_
  | refine g_sfld ?_
  | refine g_din ?_
  | refine g_dput ?_
  | refine g_isN_int ?_
  | refine g_isN_str ?_
  | refine g_isN_ref ?_
  | refine g_isN_non ?_
  | refine g_nN_int ?_
  | refine g_nN_str ?_
  | refine g_nN_ref ?_
  | refine g_nN_non ?_
  | refine g_lc ?_
  | refine g_dc ?_
  | refine g_for ?_
  | refine g_iStr ?_
  | refine g_iList ?_
  | refine g_iTup ?_
  | refine g_iR1 ?_
  | refine g_iR2 ?_
  | refine g_iR3 ?_
  | refine g_iEnum ?_
  | refine g_iZip ?_
  | refine g_iZipA ?_
  | refine g_bm ?_
  | refine g_bm0 ?_
  | refine g_m1 ?_
  | refine g_sl ?_
  | refine g_poN ?_
  | refine g_poS ?_
  | refine g_poI ?_
  | refine g_yes ?_
  | refine g_gtup ?_
  | refine g_gcons ?_
  | refine g_gnil ?_
  | refine g_par ?_
  | refine g_isi_ii ?_
  | refine g_isi_ib ?_
  | refine g_isi_ss ?_
  | refine g_inC ?_
  | refine g_int1 ?_
  | refine g_int1b ?_
  | refine g_abs ?_
  | refine g_ltS ?_
  | refine iteT ?_
  | refine iteNT ?_
  | refine iteNF ?_
  | refine iteF ?_)
local macro_rules | `(tactic| walk_at "sd") => `(tactic| first | assumption | rfl | decide | omega)
local macro_rules | `(tactic| walk_at "hp") => `(tactic| first | assumption | exact upd_same | exact Same.get (by assumption) (by walk_at "hp") | exact Off.get (by assumption) (by walk_at "hp") (by walk_at "ne"))
local macro_rules | `(tactic| walk_at "ne") => `(tactic| first | assumption | (refine Ne.symm ?_; assumption) | exact ne_of_none (by walk_at "hp") (by assumption) | exact ne_none (by walk_at "hp") (by assumption) | exact ne_of (by walk_at "hp") (by walk_at "hp") (by intro z; cases z))
local macro_rules | `(tactic| walk_at "sq") => `(tactic| first | assumption | exact SqL.rd (by walk_at "hp") | exact SqT.rd (by walk_at "hp") | exact Same.seq (by assumption) (by walk_at "sq") | exact Same.seqT (by assumption) (by walk_at "sq"))
local macro_rules | `(tactic| walk_at "rI") => `(tactic| ((with_reducible refine g_I ?_ ?_); (focus (first | (refine Or.inl ⟨?_, ?_⟩ <;> (first | decide | omega)) | (refine Or.inr ⟨?_, ?_⟩ <;> (first | decide | omega)) | (show (0 : Int) < _; first | decide | omega | assumption) | (refine And.intro ?_ ?_ <;> (first | decide | omega | (refine And.intro ?_ ?_ <;> (first | decide | omega))))))))
local macro_rules | `(tactic| walk_at "r2") => `(tactic| first
  | ((with_reducible refine g_tvar ?_); (refine ⟨_, rfl, ?_⟩))
  | ((with_reducible refine g_name' (σ' := ?s) ?e ?h); (case e => (simp only [wipe, List.set_cons_zero, List.set_cons_succ]; first | done | rfl)))
  | (refine And.intro (show wipe _ _ = wipe _ _ from rfl) ?_)
  | walk_at "rI")
local macro_rules | `(tactic| walk_at "rd") => `(tactic| repeat (first | walk_at "r1" | walk_at "r2"))
local macro_rules | `(tactic| walk_at "gn") => `(tactic| (intro pA hA; generalize hG : upd _ _ _ = H2A; (have sA : Same _ H2A := hG ▸ Same.upd hA); (have lA : H2A pA = some _ := hG ▸ upd_same); clear hG))
local macro_rules | `(tactic| walk_at "mk") => `(tactic| (intro xM dxM h1M h2M hneM; generalize hG : upd (upd _ _ _) _ _ = HM; (have sM : Same _ HM := hG ▸ Same.updW (Same.upd h2M) h1M); (have lM : HM xM = some _ := hG ▸ upd_same); clear hG))
theorem putK_le {kvs : List (Key × V)} {k : Key} {v : V} : (putK kvs k v).length ≤ kvs.length + 1 := by
  unfold putK
  by_cases h : (kvs.any fun kv => decide (kv.1 = k)) = true
  · rw [if_pos h, List.length_map]; omega
  · rw [if_neg h, List.length_append]; exact Nat.le_refl _
/-- whether a number is a key -/
def Has (kvs : List (Key × V)) (i : Nat) : Prop := ∃ v, valV kvs (.inl (i : Int)) = some v
theorem Has.put {kvs : List (Key × V)} {i j : Nat} {v : V} (h : Has kvs i) : Has (putK kvs (.inl (j : Int)) v) i := by
  unfold Has
  rw [valV_put]
  by_cases e : (Sum.inl (i : Int) : Key) = .inl (j : Int)
  · exact ⟨v, by rw [if_pos e]⟩
  · obtain ⟨u, hu⟩ := h
    exact ⟨u, by rw [if_neg e]; exact hu⟩
theorem Has.unput {kvs : List (Key × V)} {i j : Nat} {v : V} (h : Has (putK kvs (.inl (j : Int)) v) i) (n : i ≠ j) : Has kvs i := by
  obtain ⟨u, hu⟩ := h
  rw [valV_put, if_neg (fun e => n (by have := Sum.inl.inj e; omega))] at hu
  exact ⟨u, hu⟩
theorem Has.new {kvs : List (Key × V)} {j : Nat} {v : V} : Has (putK kvs (.inl (j : Int)) v) j := ⟨v, by rw [valV_put, if_pos rfl]⟩
/-- the keys from lo on are closed -/
def Clos (names : List Str) (kvs : List (Key × V)) (k : Nat) : Prop := Has kvs k → ∀ x ∈ W7, lenW names x ≤ k → Has kvs (k - lenW names x)
section
variable {P : Program} {w : World} {K : PySem.W.Frag} {mg : Str → Option Value} {base : Heap}
def sp_all_of : PySem.W.Frag → Sp := fun K vs H Q _ => ∃ t, ∃ (names : List Str) (L : Nat), vs = [.ref t, .int L] ∧ TongueAt K H t names ∧ NamesOk names ∧ L ≤ 23 ∧ ∀ l H', Same H H' → RowsAt H' l (rows (chF names) L) → Q (.ref l) H'
theorem c_all_of (T : TX w K mg) : C8.Cal P w K mg base 2 "all_of" (sp_all_of K) [] := by
  obtain ⟨f, fd, F, b⟩ := T.d_all_of
  have nd := sc_all_of.nd
  refine C8.cal0 F b .nil sc_all_of (fun vs H Q E h => ?_) (fun cdv A outer s H vs Q E hr h => ?_)
  · obtain ⟨t, ns, L, rfl, _⟩ := h
    rfl
  · obtain ⟨t, names, L, rfl, tg, ok, hL, q⟩ := h
    have hu := hu_of hr
    refine ⟨_, (pss_cons (ps_par3 (i := 3) (j := 4) (l := 5) rfl nd rfl rfl rfl (by decide) (by decide) (by decide) rfl rfl rfl (pa_cons (C8.pe_c (c_choices_of T) hr (by decide) (by rfl) (pa_cons (pv 0) pa_nil)) (pa_cons (pe_disp (pps_cons (pv 1) pe_bl pps_nil) (by rfl) (by rfl) (fun z => by cases z) (by decide)) (pa_cons pe_dnewK pa_nil))) (by rfl))
    (pss_cons (ps_for PassesOwn.never rfl (pi_range3 (by rfl) T.z_range (pa_cons (pv 1) (pa_cons (pe_un un_neg pe_int) (pa_cons (pe_un un_neg pe_int) pa_nil)))) (pg_name (i := 2) nd rfl (Or.inl rfl))
      (pss_one (ps_for PassesOwn.never rfl (pi_list (pv 3)) (pg_2 (K := K) (i := 6) (j := 7) rfl rfl nd rfl (Or.inl rfl) (by first | exact .inl rfl | exact .inr rfl) rfl (Or.inl rfl) (by first | exact .inl rfl | exact .inr rfl) rfl rfl rfl rfl)
        (pss_one (ps_if (PW.pt (pw_and (pt_cmp (pc_din hu (pv 2) (pv 4))) (pw_and (pt_cmpR op_ne (pv 7) (C8.pe_gc (by rfl) T.g_END_programs) (nomark _)) (pw_and1 (pt_cmpR op_le (pe_callB kc_lenS (by rfl) T.z_len (by decide +kernel) (pa_cons (pv 6) pa_nil)) (pv 2) (nomark _))))))
          (pss_one (ps_dput hu (pv 4) (pe_op op_sub (pv 2) (pe_callB kc_lenS (by rfl) T.z_len (by decide +kernel) (pa_cons (pv 6) pa_nil))) pe_bl rfl))
          pss_nil)))))
    (pss_cons (ps_for PassesOwn.never rfl (pi_range1 (by rfl) T.z_range (pa_cons (pe_op op_add (pv 1) pe_int) pa_nil)) (pg_name (i := 2) nd rfl (Or.inl rfl))
      (pss_one (ps_if (pt_cmp (pc_din hu (pv 2) (pv 4)))
        (pss_one (ps_dput hu (pv 5) (pv 2) (C8.pe_c (c_row_at T) hr (by decide) (by rfl) (pa_cons (pv 3) (pa_cons (pv 5) (pa_cons (pv 2) pa_nil)))) rfl))
        pss_nil)))
    (pss_one (ps_ret (pe_dget hu (pv 5) (pv 1) (fun _ _ => rfl))))))), ?_⟩
    walk_at "st"
    unfold tPar3
    walk_at "rd"
    refine ⟨t, names, rfl, tg, ok, fun c H1 s1 hch hcn => ?_⟩
    walk_at "rd"
    intro wa nwa
    unfold tPairs
    walk_at "rd"
    unfold tPairs
    refine ⟨upd_same, [(.inl (L : Int), .bl true)], rfl, show (1 : Nat) ≤ 15 by decide, ?_⟩
    have hm : mergeK [] [((.inl (L : Int) : Key), V.bl true)] = [(.inl (L : Int), .bl true)] := rfl
    rw [hm]
    have s2 : Same H1 (upd (upd H1 wa (.dK [])) wa (.dK [(.inl (L : Int), .bl true)])) := Same.updW (Same.upd nwa) nwa
    have l2 : upd (upd H1 wa (.dK [])) wa (.dK [(.inl (L : Int), .bl true)]) wa = some (.dK [(.inl (L : Int), .bl true)]) := upd_same
    generalize upd (upd H1 wa (.dK [])) wa (.dK [(.inl (L : Int), .bl true)]) = H2 at s2 l2
    walk_at "rd"
    intro ra nra
    have s3 := Same.upd (o := .dK []) nra
    have l3 : upd H2 ra (.dK []) ra = some (.dK []) := upd_same
    generalize upd H2 ra (.dK []) = H3 at s3 l3
    refine ⟨_, _, _, rfl, ?_⟩
    walk_at "rd"
    obtain ⟨as, hc1, hc2⟩ := (hch.same s2).same s3
    have hne : wa ≠ ra := ne_of_none l2 nra
    have hcw : c ≠ wa := ne_of hc1 (s3 _ _ l2) (by intro z; cases z)
    have hcr : c ≠ ra := ne_of hc1 l3 (by intro z; cases z)
    refine ⟨_, _, _, _, rfl, RgC.neg (by omega) (by omega) (by decide) (by decide), ?_⟩
    refine for_it walk_rangeC (fun i σ H' => (∃ x y z, σ = [some (.ref t), some (.int L), x, some (.ref c), some (.ref wa), some (.ref ra), y, z]) ∧ Off wa H3 H' ∧ ∃ kvs, H' wa = some (.dK kvs) ∧ kvs.length ≤ 1 + 8 * i ∧ Has kvs L ∧ ∀ k, L < k + i → k ≤ L → Clos names kvs k) ⟨⟨_, _, _, rfl⟩, (fun _ _ e _ => e), _, s3 _ _ l2, show (1 : Nat) ≤ 1 + 8 * 0 by decide, ⟨_, valV_pos rfl⟩, fun k h1 h2 => by omega⟩ (fun _ _ _ _ _ => True.intro) (fun i x σ H4 H5 hi pv y => ?_) (fun σ H4 pv => ?_)
    · obtain ⟨⟨x0, y0, z0, rfl⟩, o4, kvs, l4, hkl, hkL, hcl⟩ := pv
      obtain ⟨rfl, rfl⟩ := y
      have hiL : i ≤ L := by omega
      walk_at "rd"
      rw [show (L : Int) + (i : Nat) * (-1) = ((L - i : Nat) : Int) by omega]
      refine ⟨c, rfl, ⟨_, SqL.rd (o4 _ _ hc1 hcw)⟩, ?_⟩
      refine for_it walk_list (fun j σ H' => (∃ y z, σ = [some (.ref t), some (.int L), some (.int ((L - i : Nat) : Int)), some (.ref c), some (.ref wa), some (.ref ra), y, z]) ∧ Off wa H3 H' ∧ ∃ kvs, H' wa = some (.dK kvs) ∧ kvs.length ≤ 1 + 8 * i + j ∧ Has kvs L ∧ (∀ k, L < k + i → k ≤ L → Clos names kvs k) ∧ (Has kvs (L - i) → ∀ d ∈ (chF names).take j, d.2 ≠ ("end" : Str) → d.1.length ≤ L - i → Has kvs (L - i - d.1.length))) ⟨⟨_, _, rfl⟩, o4, kvs, l4, hkl, hkL, hcl, fun _ d hd => by simp at hd⟩ (fun _ _ _ _ pv => SqL.rd (pv.2.1 _ _ hc1 hcw)) (fun j v σ H5 H6 hj pv y => ?_) (fun σ H5 pv => ?_)
      · obtain ⟨⟨y1, z1, rfl⟩, o5, kv, l5, hkl, hkL, hcl, hdo⟩ := pv
        obtain ⟨rfl, hv⟩ := y
        obtain ⟨a, ha, rfl⟩ := get_map hv
        rw [List.length_map, hc2.1] at hj
        have hcj : (chF names)[j]? = some (chF names)[j] := List.getElem?_eq_getElem hj
        rw [ch_len ok.len] at hj
        generalize (chF names)[j] = cj at hcj
        have hpa0 := hc2.2 j a cj ha hcj
        have hpa := o5 _ _ hpa0 (ne_of hpa0 (s3 _ _ l2) (by intro z; cases z))
        obtain ⟨e1, e2, e3⟩ := ch_name (List.mem_of_getElem? hcj)
        have n1 := ok.lo _ e3
        have n8 := ok.hi _ e3
        have fin : (Has kv (L - i) → cj.2 ≠ ("end" : Str) → cj.1.length ≤ L - i → False) → (∃ y z, [some (V.ref t), some (.int L), some (.int ((L - i : Nat) : Int)), some (.ref c), some (.ref wa), some (.ref ra), some (.str cj.1), some (.str cj.2)] = [some (V.ref t), some (.int L), some (.int ((L - i : Nat) : Int)), some (.ref c), some (.ref wa), some (.ref ra), y, z]) ∧ Off wa H3 H6 ∧ ∃ kvs, H6 wa = some (.dK kvs) ∧ kvs.length ≤ 1 + 8 * i + (j + 1) ∧ Has kvs L ∧ (∀ k, L < k + i → k ≤ L → Clos names kvs k) ∧ (Has kvs (L - i) → ∀ d ∈ (chF names).take (j + 1), d.2 ≠ ("end" : Str) → d.1.length ≤ L - i → Has kvs (L - i - d.1.length)) := by
          intro no
          refine ⟨⟨_, _, rfl⟩, o5, kv, l5, by omega, hkL, hcl, fun hh d hd h1 h2 => ?_⟩
          rw [take_succ' hcj] at hd
          rcases List.mem_append.mp hd with hd | hd
          · exact hdo hh d hd h1 h2
          · rw [List.mem_singleton.mp hd] at h1 h2
            exact (no hh h1 h2).elim
        walk_at "rd"
        refine ⟨a, _, rfl, SqT.rd hpa, rfl, ?_⟩
        walk_at "rd"
        refine g_diK (.inl ((L - i : Nat) : Int)) l5 rfl ?_
        cases hk : valV kv (.inl ((L - i : Nat) : Int)) with
        | none =>
          simp only [Option.isSome_none]
          walk_at "rd"
          exact fin fun hh _ _ => by obtain ⟨u, hu⟩ := hh; rw [hk] at hu; cases hu
        | some u =>
          simp only [Option.isSome_some]
          walk_at "rd"
          by_cases he : cj.2 = ("end" : Str)
          · refine ifN_f he ?_
            walk_at "rd"
            exact fin fun _ h1 _ => h1 he
          refine ifN_t he ?_
          walk_at "rd"
          refine g_lenS (by rw [sizeLine_eq]; omega) ?_
          walk_at "rd"
          by_cases hl : cj.1.length ≤ L - i
          · refine ifD_t (by omega) ?_
            walk_at "rd"
            refine g_lenS (by rw [sizeLine_eq]; omega) ?_
            walk_at "rd"
            rw [show ((L - i : Nat) : Int) - (cj.1.length : Nat) = ((L - i - cj.1.length : Nat) : Int) by omega]
            refine g_dpK (.inl ((L - i - cj.1.length : Nat) : Int)) l5 (by rw [sizeLine_eq]; omega) ?_
            refine ⟨⟨_, _, rfl⟩, fun b o h1 h2 => by rw [upd_ne h2]; exact o5 _ _ h1 h2, _, upd_same, ?_, hkL.put, fun k h1 h2 => ?_, fun hh d hd h1 h2 => ?_⟩
            · exact Nat.le_trans putK_le (by omega)
            · intro hh x hx hle
              have := hcl k h1 h2 (hh.unput (by omega)) x hx hle
              exact this.put
            · rw [take_succ' hcj] at hd
              rcases List.mem_append.mp hd with hd | hd
              · exact (hdo (hh.unput (by omega)) d hd h1 h2).put
              · rw [List.mem_singleton.mp hd]
                exact Has.new
          · refine ifD_f (by omega) ?_
            walk_at "rd"
            exact fin fun _ _ h2 => hl h2
      · obtain ⟨⟨y1, z1, rfl⟩, o5, kv, l5, hkl, hkL, hcl, hdo⟩ := pv
        rw [List.length_map, hc2.1, ch_len ok.len] at hkl hdo
        refine ⟨⟨_, _, _, rfl⟩, o5, kv, l5, by omega, hkL, fun k h1 h2 => ?_⟩
        by_cases hke : k = L - i
        · subst hke
          intro hh x hx hle
          obtain ⟨d, hd, hd2⟩ := ch_has ok.len (W78 hx)
          have hdl := ch_lenW hd
          rw [hd2] at hdl
          have := hdo hh d (by rw [← ch_len ok.len, List.take_length]; exact hd) (fun z => by rw [hd2] at z; subst z; exact absurd hx (by decide)) (by rw [hdl]; exact hle)
          rw [hdl] at this
          exact this
        · exact hcl k (by omega) h2
    · obtain ⟨⟨x0, y0, z0, rfl⟩, o4, kvs, l4, hkl, hkL, hcl⟩ := pv
      have hclo : ∀ k, k ≤ L → Clos names kvs k := fun k hk => hcl k (by omega) hk
      have lr4 : H4 ra = some (.dK []) := o4 _ _ l3 (Ne.symm hne)
      have s14 : Same H1 H4 := Off.to (s2.trans s3) o4 nwa
      have nra1 : H1 ra = none := by
        cases e : H1 ra with
        | none => rfl
        | some o => have := s2 _ _ e; rw [nra] at this; cases this
      have hch4 : ChAt H4 c (chF names) := hch.same s14
      walk_at "rd"
      refine ⟨(L : Int) + 1, rfl, by omega, by omega, ?_⟩
      refine for_it walk_range (fun i σ H' => (∃ x y z, σ = [some (.ref t), some (.int L), x, some (.ref c), some (.ref wa), some (.ref ra), y, z]) ∧ Off ra H4 H' ∧ ∃ kr, H' ra = some (.dK kr) ∧ kr.length ≤ i ∧ ∀ k, k < i → Has kvs k → ∃ a, valV kr (.inl (k : Int)) = some (.ref a) ∧ RowsAt H' a (rows (chF names) k)) ⟨⟨_, _, _, rfl⟩, (fun _ _ e _ => e), _, lr4, Nat.le_refl _, fun k h => by omega⟩ (fun _ _ _ _ _ => True.intro) (fun i x σ H5 H6 hi pv y => ?_) (fun σ H5 pv => ?_)
      · obtain ⟨⟨x1, y1, z1, rfl⟩, o5, kr, l5, hkrl, hrow⟩ := pv
        obtain ⟨rfl, rfl⟩ := y
        have s16 : Same H1 H6 := Off.to s14 o5 nra1
        walk_at "rd"
        rw [show (0 : Int) + (i : Nat) = ((i : Nat) : Int) by omega]
        refine g_diK (.inl ((i : Nat) : Int)) (o5 _ _ l4 hne) rfl ?_
        cases hk : valV kvs (.inl ((i : Nat) : Int)) with
        | none =>
          simp only [Option.isSome_none]
          walk_at "rd"
          refine ⟨⟨_, _, _, rfl⟩, o5, kr, l5, by omega, fun k h1 h2 => ?_⟩
          refine hrow k ?_ h2
          by_cases e : k = i
          · subst e
            obtain ⟨u, hu⟩ := h2
            rw [hk] at hu
            cases hu
          · omega
        | some u =>
          simp only [Option.isSome_some]
          walk_at "rd"
          have hcl2 := hclo i (by omega) ⟨u, hk⟩
          refine ⟨c, ra, names, i, kr, rfl, hch.same s16, ok, l5, by omega, ?_, fun l H7 s7 nl rat => ?_⟩
          · rintro m ⟨x, hx, hle, rfl⟩
            have h1 := (lenW_le ok (W78 hx)).1
            exact hrow _ (by omega) (hcl2 x hx hle)
          walk_at "rd"
          refine g_dpK (.inl ((i : Nat) : Int)) (s7 _ _ l5) (by rw [sizeLine_eq]; omega) ?_
          refine ⟨⟨_, _, _, rfl⟩, fun b o h1 h2 => by rw [upd_ne h2]; exact s7 _ _ (o5 _ _ h1 h2), _, upd_same, ?_, fun k h1 h2 => ?_⟩
          · exact Nat.le_trans putK_le (by omega)
          · by_cases e : k = i
            · subst e
              refine ⟨l, by rw [valV_put, if_pos rfl], ?_⟩
              exact rat.off Off.upd (s7 _ _ l5) (by intro xs z; cases z) (by intro xs z; cases z)
            · obtain ⟨a, ha1, ha2⟩ := hrow k (by omega) h2
              refine ⟨a, by rw [valV_put, if_neg (fun z => e (by have := Sum.inl.inj z; omega))]; exact ha1, ?_⟩
              exact (ha2.same s7).off Off.upd (s7 _ _ l5) (by intro xs z; cases z) (by intro xs z; cases z)
      · obtain ⟨⟨x1, y1, z1, rfl⟩, o5, kr, l5, hkrl, hrow⟩ := pv
        have s16 : Same H1 H5 := Off.to s14 o5 nra1
        obtain ⟨a, ha1, ha2⟩ := hrow L (by omega) hkL
        walk_at "rd"
        refine g_dgK (.inl (L : Int)) l5 ha1 ?_
        exact q a _ (s1.trans s16) ha2
end
end Dt
set_option Elab.async false
set_option linter.all false
set_option maxRecDepth 100000
set_option maxHeartbeats 4000000
namespace Dt
open PySem PySem.Spec L2
local macro_rules | `(tactic| walk_at "st") => `(tactic| (simp only [L2.start, List.map_cons, List.map_nil, List.length_cons, List.length_nil, List.replicate_succ, List.replicate_zero, List.cons_append, List.nil_append, Nat.zero_add, Nat.reduceAdd, Nat.reduceSub]))
local macro_rules | `(tactic| walk_at "r1") => `(tactic| with_reducible first
  | refine g_seq ?_
  | refine g_next ?_
  | refine g_asg ?_
  | refine g_ifS ?_
  | refine g_ret ?_
  | refine g_retN ?_
  | refine g_drop ?_
  | refine g_brk ?_
  | refine g_c ?_
  | refine g_op ?_
  | refine g_un ?_
  | refine g_I0 ?_
  | refine g_U ?_
  | refine g_eqI ?_
  | refine g_neI ?_
  | refine g_eqS ?_
  | refine g_neS ?_
  | refine g_test ?_
  | refine g_B ?_
  | refine g_bl ?_
  | refine g_if ?_
  | refine g_not ?_
  | refine g_and ?_
  | refine g_or ?_
  | refine g_andV ?_
  | refine g_orV ?_
  | refine g_notV ?_
  | refine g_blif ?_
  | refine g_chain ?_
  | refine g_nil ?_
  | refine g_cons ?_
  | refine g_cb ?_
  | refine g_call ?_
  | refine g_tup ?_
  | refine g_lst ?_
  | refine g_tfld ?_
  | refine g_dget ?_
  | refine g_mk ?_
  | refine g_lc2 ?_
  | refine g_gfld ?_
  | refine g_meth ?_
  | refine g_sfld ?_
  | refine g_din ?_
  | refine g_dput ?_
  | refine g_isN_int ?_
  | refine g_isN_str ?_
  | refine g_isN_ref ?_
  | refine g_isN_non ?_
  | refine g_nN_int ?_
  | refine g_nN_str ?_
  | refine g_nN_ref ?_
  | refine g_nN_non ?_
  | refine g_lc ?_
  | refine g_dc ?_
  | refine g_for ?_
  | refine g_iStr ?_
  | refine g_iList ?_
  | refine g_iTup ?_
  | refine g_iR1 ?_
  | refine g_iR2 ?_
  | refine g_iR3 ?_
  | refine g_iEnum ?_
  | refine g_iZip ?_
  | refine g_iZipA ?_
  | refine g_bm ?_
  | refine g_bm0 ?_
  | refine g_m1 ?_
  | refine g_sl ?_
  | refine g_poN ?_
  | refine g_poS ?_
  | refine g_poI ?_
  | refine g_yes ?_
  | refine g_gtup ?_
  | refine g_gcons ?_
  | refine g_gnil ?_
  | refine g_par ?_
  | refine g_isi_ii ?_
  | refine g_isi_ib ?_
  | refine g_isi_ss ?_
  | refine g_inC ?_
  | refine g_int1 ?_
  | refine g_int1b ?_
  | refine g_abs ?_
  | refine g_ltS ?_
  | refine iteT ?_
  | refine iteNT ?_
  | refine iteNF ?_
  | refine iteF ?_)
local macro_rules | `(tactic| walk_at "sd") => `(tactic| first | assumption | rfl | decide | omega)
local macro_rules | `(tactic| walk_at "hp") => `(tactic| first | assumption | exact upd_same | exact Same.get (by assumption) (by walk_at "hp") | exact Off.get (by assumption) (by walk_at "hp") (by walk_at "ne"))
local macro_rules | `(tactic| walk_at "ne") => `(tactic| first | assumption | (refine Ne.symm ?_; assumption) | exact ne_of_none (by walk_at "hp") (by assumption) | exact ne_none (by walk_at "hp") (by assumption) | exact ne_of (by walk_at "hp") (by walk_at "hp") (by intro z; cases z))
local macro_rules | `(tactic| walk_at "sq") => `(tactic| first | assumption | exact SqL.rd (by walk_at "hp") | exact SqT.rd (by walk_at "hp") | exact Same.seq (by assumption) (by walk_at "sq") | exact Same.seqT (by assumption) (by walk_at "sq"))
local macro_rules | `(tactic| walk_at "rI") => `(tactic| ((with_reducible refine g_I ?_ ?_); (focus (first | (refine Or.inl ⟨?_, ?_⟩ <;> (first | decide | omega)) | (refine Or.inr ⟨?_, ?_⟩ <;> (first | decide | omega)) | (show (0 : Int) < _; first | decide | omega | assumption) | (refine And.intro ?_ ?_ <;> (first | decide | omega | (refine And.intro ?_ ?_ <;> (first | decide | omega))))))))
local macro_rules | `(tactic| walk_at "r2") => `(tactic| first
  | ((with_reducible refine g_tvar ?_); (refine ⟨_, rfl, ?_⟩))
  | ((with_reducible refine g_name' (σ' := ?s) ?e ?h); (case e => (simp only [wipe, List.set_cons_zero, List.set_cons_succ]; first | done | rfl)))
  | (refine And.intro (show wipe _ _ = wipe _ _ from rfl) ?_)
  | walk_at "rI")
local macro_rules | `(tactic| walk_at "rd") => `(tactic| repeat (first | walk_at "r1" | walk_at "r2"))
local macro_rules | `(tactic| walk_at "gn") => `(tactic| (intro pA hA; generalize hG : upd _ _ _ = H2A; (have sA : Same _ H2A := hG ▸ Same.upd hA); (have lA : H2A pA = some _ := hG ▸ upd_same); clear hG))
local macro_rules | `(tactic| walk_at "mk") => `(tactic| (intro xM dxM h1M h2M hneM; generalize hG : upd (upd _ _ _) _ _ = HM; (have sM : Same _ HM := hG ▸ Same.updW (Same.upd h2M) h1M); (have lM : HM xM = some _ := hG ▸ upd_same); clear hG))
/-! ### numerals -/
theorem numL_head {n : Nat} (h : 1 ≤ n) : ∀ c, (TL.numL n).head? = some c → c ≠ 48 := by
  induction n using Nat.strongRecOn with
  | _ n ih =>
    intro c hc
    by_cases hn : n < 10
    · rw [TL.numL_lt hn] at hc
      have : 48 + n = c := by simpa using hc
      omega
    · rw [TL.numL_step (by omega)] at hc
      refine ih (n / 10) (by omega) (by omega) c ?_
      have hne := TL.numL_ne (n / 10)
      cases hl : TL.numL (n / 10) with
      | nil => exact absurd hl hne
      | cons a l => rw [hl] at hc; exact hc
def numS (i : Int) : List Nat := if i < 0 then 45 :: TL.numL i.natAbs else TL.numL i.natAbs
theorem num_text (i : Int) : Str.ofString (toString i) = SX.S (numS i) := by
  cases i with
  | ofNat n =>
    have h : ¬ (Int.ofNat n < 0) := by exact Int.not_lt.mpr (Int.natCast_nonneg n)
    unfold numS
    rw [if_neg h]
    exact SX.num_S n
  | negSucc n =>
    have h : Int.negSucc n < 0 := Int.negSucc_lt_zero n
    unfold numS
    rw [if_pos h]
    apply TL.ext_tl
    have e : toString (Int.negSucc n) = "-" ++ toString ((((n + 1 : Nat)) : Int)) := rfl
    have e2 : TL.tl (Str.ofString (toString (((n + 1 : Nat)) : Int))) = TL.numL (n + 1) := TL.tl_num (n + 1)
    rw [e]
    show (Str.ofString ("-" ++ toString ((((n + 1 : Nat)) : Int)))).cps.toList = _
    have e3 : ∀ s : String, (Str.ofString ("-" ++ s)).cps.toList = 45 :: (Str.ofString s).cps.toList := by
      intro s
      rw [PyProof.Rows.signs_ofString, PyProof.Rows.signs_ofString, String.toList_append, List.map_append]
      rfl
    rw [e3]
    show _ = 45 :: TL.numL (n + 1)
    rw [← e2]
def rIntT : List V → Hp → VK → Prop := fun xs H Q => ∃ a n, xs = [.str a] ∧ PySem.intText? a = some n ∧ a.length ≤ 640 ∧ Q (.int n) H
theorem kc_intS {X : Cx} : CallR X (.type "int") rIntT := call_int_str
theorem numS_len {i : Int} (h : -1000000000000000000 ≤ i) (h2 : i ≤ 1000000000000000000) : (numS i).length ≤ 20 := by
  have e := TL.numL_len (n := i.natAbs) (k := 19) (by decide) (by omega)
  unfold numS
  by_cases hi : i < 0
  · rw [if_pos hi, List.length_cons]; omega
  · rw [if_neg hi]; omega
theorem numS_read (i : Int) (h : -1000000000000000000 ≤ i) (h2 : i ≤ 1000000000000000000) : intText? (SX.S (numS i)) = some i := by
  have e := TL.numL_len (n := i.natAbs) (k := 19) (by decide) (by omega)
  unfold numS
  by_cases hi : i < 0
  · rw [if_pos hi, PySem.intText_neg (cs := TL.numL i.natAbs) rfl (TL.numL_digits _) (TL.numL_ne _) (by rw [SX.S_len, List.length_cons]; omega), TL.numL_val]
    congr 1
    omega
  · rw [if_neg hi, SX.int_S (List.all_eq_true.mpr fun c hc => by have := TL.numL_digits _ c hc; simp; omega) (TL.numL_ne _) (by omega), TL.numL_val]
    congr 1
    omega
theorem S_ne {a b : List Nat} (h : a ≠ b) : SX.S a ≠ SX.S b := fun e => h (SX.S_inj e)
theorem str_S {x : Str} : x = SX.S x.cps.toList := (SX.S_tl x).symm
section
variable {P : Program} {w : World} {K : PySem.W.Frag} {mg : Str → Option Value} {base : Heap}
def sp_written : PySem.W.Frag → Sp := fun _ vs H Q _ => ∃ i : Int, vs = [.str (SX.S (numS i))] ∧ -1000000000000000000 ≤ i ∧ i ≤ 1000000000000000000 ∧ ∀ H', Same H H' → Q (.int i) H'
theorem c_written (T : TX w K mg) : C8.Cal P w K mg base 1 "written" (sp_written K) [] := by
  obtain ⟨f, fd, F, b⟩ := T.d_written
  have nd := sc_written.nd
  refine C8.cal0 F b .nil sc_written (fun vs H Q E h => ?_) (fun cdv A outer s H vs Q E hr h => ?_)
  · obtain ⟨i, rfl, _⟩ := h
    rfl
  · obtain ⟨i, rfl, h1, h2, q⟩ := h
    have l20 := numS_len h1 h2
    have hread := numS_read i h1 h2
    refine ⟨_, (pss_cons (ps_set (i := 1) nd rfl (Or.inl rfl) (pe_ifExp (pt_cmpR op_eq (pe_slice C8.sl_txt (pv 0) po_none (po_some pe_int)) pe_str (nomark _)) (pe_slice C8.sl_txt (pv 0) (po_some pe_int) po_none) (pv 0)))
    (pss_cons (ps_if (PW.pt (pw_or (pt_cmpR op_eq (pv 1) pe_str (nomark _)) (pw_or (pt_cmpR op_gt (pe_callB kc_lenS (by rfl) T.z_len (by decide +kernel) (pa_cons (pv 1) pa_nil)) (C8.pe_gc (by rfl) T.g_MOST_FIGURES) (nomark _)) (pw_or1 (pt_not (pt_val (pe_callB (cr_all rfl) (by rfl) T.z_all (by decide +kernel) (pa_cons (pe_lc rfl nd (pi_str (pv 1)) (blkOk_by (own := [("sign", 2)]) (N := n_written) (sc := defScope s_written) (by decide +kernel)) (fun _ _ _ _ _ => (pg_name (i := 2) nd rfl (Or.inl rfl))) (fun _ _ _ _ _ => pts_nil) (fun _ _ _ _ _ => (pe_cmpR ko_inC (pv 2) (C8.pe_gc (by rfl) T.g_FIGURES) (by rfl)))) pa_nil))))))))
      (pss_one (ps_ret pe_non))
      pss_nil)
    (pss_cons (ps_if (PW.pt (pw_and (pt_cmpR op_eq (pe_ix ix_str (pv 1) pe_int (fun _ _ => rfl)) pe_str (nomark _)) (pw_and1 (pt_cmpR op_ne (pv 0) pe_str (nomark _)))))
      (pss_one (ps_ret pe_non))
      pss_nil)
    (pss_one (ps_ret (pe_callTy kc_intS (by rfl) T.z_int (by decide +kernel) (pa_cons (pv 0) pa_nil))))))), ?_⟩
    walk_at "st"
    walk_at "rd"
    refine ⟨_, rfl, by rw [SX.S_len, sizeLine_eq]; omega, ?_⟩
    walk_at "rd"
    rw [SX.slice_to (by decide)]
    have hsp : ∃ ds, NumText.AllDigits ds ∧ ds ≠ [] ∧ ds.length ≤ 20 ∧ (ds.head? = some 48 → SX.S (numS i) = ("0" : Str)) ∧ (numS i = 45 :: ds ∨ ds = numS i) := by
      have e := TL.numL_len (n := i.natAbs) (k := 19) (by decide) (by omega)
      refine ⟨TL.numL i.natAbs, TL.numL_digits _, TL.numL_ne _, by omega, fun hh => ?_, ?_⟩
      · by_cases h0 : i.natAbs = 0
        · have hi0 : i = 0 := by omega
          subst hi0
          decide +kernel
        · exact absurd rfl (numL_head (n := i.natAbs) (by omega) 48 hh)
      · unfold numS
        by_cases hi : i < 0
        · rw [if_pos hi]; exact .inl rfl
        · rw [if_neg hi]; exact .inr rfl
    obtain ⟨ds, hd, hne, hl, hz, hor⟩ := hsp
    have hm : ("-" : Str) = SX.S [45] := by decide +kernel
    have he : ("" : Str) = SX.S [] := by decide +kernel
    have h0s : ("0" : Str) = SX.S [48] := by decide +kernel
    walk_at "rd"
    rw [hm]
    generalize numS i = l at hread hz hor l20 ⊢
    rcases hor with rfl | rfl
    case' inl =>
      refine ifD_t rfl ?_
      walk_at "rd"
      refine ⟨_, rfl, by rw [SX.S_len, sizeLine_eq]; omega, ?_⟩
      rw [SX.slice_from (by decide)]
      show gName 1 (V.str (SX.S ds)) _ _ _
      walk_at "rd"
    case' inr =>
      refine ifD_f (fun z => ?_) ?_
      · have z2 := SX.S_inj z
        cases ds with
        | nil => exact hne rfl
        | cons c r =>
          have hc := hd c (.head _)
          have : c = 45 := by
            have e3 : [c] = [45] := z2
            simpa using e3
          omega
      walk_at "rd"
    all_goals
      rw [he]
      refine ifD_f (S_ne hne) ?_
      walk_at "rd"
      refine g_lenS (by rw [SX.S_len, sizeLine_eq]; omega) ?_
      walk_at "rd"
      refine ifD_f (by rw [SX.S_len]; omega) ?_
      walk_at "rd"
      refine ⟨_, rfl, fun D nD => ?_⟩
      refine lc_it walk_str (PvL H D (fun c : Nat => some (V.bl true)) ds) (pvl_start nD) (fun _ _ _ _ => True.intro) (fun j x H1 H2 hj p y => ?_) (fun H1 p => ?_)
      · obtain ⟨rfl, c, hc, rfl⟩ := y
        have hc2 : ds[j]? = some c := by rw [← Array.getElem?_toList] at hc; exact hc
        walk_at "rd"
        have hin : decide (c ∈ ("0123456789" : Str).cps.toList) = true := by
          have hcc := hd c (List.mem_of_getElem? hc2)
          have : ∀ k, k < 58 → 48 ≤ k → decide (k ∈ ("0123456789" : Str).cps.toList) = true := by decide +kernel
          exact this c (by omega) (by omega)
        rw [hin]
        exact pvl_yes nD p (Same.refl _) hc2 rfl (by rw [sizeLine_eq]; omega)
      · obtain ⟨s1, l1⟩ := pvl_end (xs := ds) (show PvL H D _ ds ds.length H1 from p)
        rw [fm_map] at l1
        walk_at "rd"
        refine g_all (bs := ds.map fun _ => true) (SqL.rd (l1.trans (by rw [List.map_map]; rfl))) (b := true) (by rw [List.all_map]; exact List.all_eq_true.mpr (fun _ _ => rfl)) ?_
        walk_at "rd"
        cases hds : ds with
        | nil => exact absurd hds hne
        | cons c r =>
          subst hds
          refine ⟨_, 0, c, rfl, rfl, by rw [SX.S_len, sizeLine_eq]; omega, atI_nat (j := 0) rfl, ?_⟩
          walk_at "rd"
          have efin : ∀ (G : Hp → Prop), G H1 → True := fun _ _ => True.intro
          by_cases hc : c = 48
          · subst hc
            refine ifD_t h0s.symm ?_
            walk_at "rd"
            refine ifN_f (hz rfl) ?_
            walk_at "rd"
            refine ⟨_, i, rfl, hread, by rw [SX.S_len]; omega, ?_⟩
            exact q _ s1
          · refine ifD_f (fun z => hc ?_) ?_
            · rw [h0s] at z
              have e3 : [c] = [48] := SX.S_inj z
              simpa using e3
            walk_at "rd"
            refine ⟨_, i, rfl, hread, by rw [SX.S_len]; omega, ?_⟩
            exact q _ s1
end
end Dt
set_option Elab.async false
set_option linter.all false
set_option maxRecDepth 100000
set_option maxHeartbeats 4000000
namespace Dt
open PySem PySem.Spec L2
local macro_rules | `(tactic| walk_at "st") => `(tactic| (simp only [L2.start, List.map_cons, List.map_nil, List.length_cons, List.length_nil, List.replicate_succ, List.replicate_zero, List.cons_append, List.nil_append, Nat.zero_add, Nat.reduceAdd, Nat.reduceSub]))
local macro_rules | `(tactic| walk_at "r1") => `(tactic| with_reducible first
  | refine g_seq ?_
  | refine g_next ?_
  | refine g_asg ?_
  | refine g_ifS ?_
  | refine g_ret ?_
  | refine g_retN ?_
  | refine g_drop ?_
  | refine g_brk ?_
  | refine g_c ?_
  | refine g_op ?_
  | refine g_un ?_
  | refine g_I0 ?_
  | refine g_U ?_
  | refine g_eqI ?_
  | refine g_neI ?_
  | refine g_eqS ?_
  | refine g_neS ?_
  | refine g_test ?_
  | refine g_B ?_
  | refine g_bl ?_
  | refine g_if ?_
  | refine g_not ?_
  | refine g_and ?_
  | refine g_or ?_
  | refine g_andV ?_
  | refine g_orV ?_
  | refine g_notV ?_
  | refine g_blif ?_
  | refine g_chain ?_
  | refine g_nil ?_
  | refine g_cons ?_
  | refine g_cb ?_
  | refine g_call ?_
  | refine g_tup ?_
  | refine g_lst ?_
  | refine g_tfld ?_
  | refine g_dget ?_
  | refine g_mk ?_
  | refine g_lc2 ?_
  | refine g_gfld ?_
  | refine g_meth ?_
  | refine g_sfld ?_
  | refine g_din ?_
  | refine g_dput ?_
  | refine g_isN_int ?_
  | refine g_isN_str ?_
  | refine g_isN_ref ?_
  | refine g_isN_non ?_
  | refine g_nN_int ?_
  | refine g_nN_str ?_
  | refine g_nN_ref ?_
  | refine g_nN_non ?_
  | refine g_lc ?_
  | refine g_dc ?_
  | refine g_for ?_
  | refine g_iStr ?_
  | refine g_iList ?_
  | refine g_iTup ?_
  | refine g_iR1 ?_
  | refine g_iR2 ?_
  | refine g_iR3 ?_
  | refine g_iEnum ?_
  | refine g_iZip ?_
  | refine g_iZipA ?_
  | refine g_bm ?_
  | refine g_bm0 ?_
  | refine g_m1 ?_
  | refine g_sl ?_
  | refine g_poN ?_
  | refine g_poS ?_
  | refine g_poI ?_
  | refine g_yes ?_
  | refine g_gtup ?_
  | refine g_gcons ?_
  | refine g_gnil ?_
  | refine g_par ?_
  | refine g_isi_ii ?_
  | refine g_isi_ib ?_
  | refine g_isi_ss ?_
  | refine g_inC ?_
  | refine g_int1 ?_
  | refine g_int1b ?_
  | refine g_abs ?_
  | refine g_ltS ?_
  | refine iteT ?_
  | refine iteNT ?_
  | refine iteNF ?_
  | refine iteF ?_)
local macro_rules | `(tactic| walk_at "sd") => `(tactic| first | assumption | rfl | decide | omega)
local macro_rules | `(tactic| walk_at "hp") => `(tactic| first | assumption | exact upd_same | exact Same.get (by assumption) (by walk_at "hp") | exact Off.get (by assumption) (by walk_at "hp") (by walk_at "ne"))
local macro_rules | `(tactic| walk_at "ne") => `(tactic| first | assumption | (refine Ne.symm ?_; assumption) | exact ne_of_none (by walk_at "hp") (by assumption) | exact ne_none (by walk_at "hp") (by assumption) | exact ne_of (by walk_at "hp") (by walk_at "hp") (by intro z; cases z))
local macro_rules | `(tactic| walk_at "sq") => `(tactic| first | assumption | exact SqL.rd (by walk_at "hp") | exact SqT.rd (by walk_at "hp") | exact Same.seq (by assumption) (by walk_at "sq") | exact Same.seqT (by assumption) (by walk_at "sq"))
local macro_rules | `(tactic| walk_at "rI") => `(tactic| ((with_reducible refine g_I ?_ ?_); (focus (first | (refine Or.inl ⟨?_, ?_⟩ <;> (first | decide | omega)) | (refine Or.inr ⟨?_, ?_⟩ <;> (first | decide | omega)) | (show (0 : Int) < _; first | decide | omega | assumption) | (refine And.intro ?_ ?_ <;> (first | decide | omega | (refine And.intro ?_ ?_ <;> (first | decide | omega))))))))
local macro_rules | `(tactic| walk_at "r2") => `(tactic| first
  | ((with_reducible refine g_tvar ?_); (refine ⟨_, rfl, ?_⟩))
  | ((with_reducible refine g_name' (σ' := ?s) ?e ?h); (case e => (simp only [wipe, List.set_cons_zero, List.set_cons_succ]; first | done | rfl)))
  | (refine And.intro (show wipe _ _ = wipe _ _ from rfl) ?_)
  | walk_at "rI")
local macro_rules | `(tactic| walk_at "rd") => `(tactic| repeat (first | walk_at "r1" | walk_at "r2"))
local macro_rules | `(tactic| walk_at "gn") => `(tactic| (intro pA hA; generalize hG : upd _ _ _ = H2A; (have sA : Same _ H2A := hG ▸ Same.upd hA); (have lA : H2A pA = some _ := hG ▸ upd_same); clear hG))
local macro_rules | `(tactic| walk_at "mk") => `(tactic| (intro xM dxM h1M h2M hneM; generalize hG : upd (upd _ _ _) _ _ = HM; (have sM : Same _ HM := hG ▸ Same.updW (Same.upd h2M) h1M); (have lM : HM xM = some _ := hG ▸ upd_same); clear hG))
/-! ### items -/
def opOk : Bop → V → V → Prop
  | .eq, .int _, .int _ => True
  | .lt, .int _, .int _ => True
  | .rem, .int _, .int _ => True
  | .and, .bl _, .bl _ => True
  | .or, .bl _, .bl _ => True
  | _, _, _ => False
def Bop.tk : Bop → Str
  | .and => "truth" | .or => "truth" | _ => "number"
def Bop.mk : Bop → Str
  | .rem => "number" | _ => "truth"
theorem numS_dig (i : Int) : ∃ c ∈ numS i, 48 ≤ c ∧ c ≤ 57 := by
  have hne := TL.numL_ne i.natAbs
  have hd := TL.numL_digits i.natAbs
  cases hl : TL.numL i.natAbs with
  | nil => exact absurd hl hne
  | cons c r =>
    rw [hl] at hd
    refine ⟨c, ?_, hd c (.head _)⟩
    unfold numS
    rw [hl]
    by_cases hi : i < 0
    · rw [if_pos hi]; exact .tail _ (.head _)
    · rw [if_neg hi]; exact .head _
theorem num_not {i : Int} {s : Str} (h : ∀ c ∈ s.cps.toList, ¬ (48 ≤ c ∧ c ≤ 57)) : SX.S (numS i) ≠ s := by
  intro e
  obtain ⟨c, hc, hd⟩ := numS_dig i
  exact h c (by rw [← e]; exact hc) hd
theorem num_noop (i : Int) : SX.S (numS i) ∉ (["+", "-", "*", "rem", "=", "<", "and", "or", "not"] : List Str) := by
  intro h
  simp only [List.mem_cons, List.not_mem_nil, or_false] at h
  rcases h with e | e | e | e | e | e | e | e | e <;> exact num_not (by decide +kernel) e
/-- a step of the pile -/
inductive PStep (g x : Int) : List V → Itm → List V → Prop
  | a (st : List V) : PStep g x st .a (st ++ [.int x])
  | n (st : List V) : PStep g x st .n (st ++ [.int g])
  | num (st : List V) (i : Int) : -1000000000000000000 ≤ i → i ≤ 1000000000000000000 → PStep g x st (.num i) (st ++ [.int i])
  | op (o : Bop) (st : List V) (u v : V) : opOk o u v → PStep g x (st ++ [u, v]) o.i (st ++ [opV o u v])
/-- a step of the kinds -/
inductive KStep : List Str → Itm → List Str → Prop
  | a (ks : List Str) : ks.length < 20 → KStep ks .a (ks ++ [("number" : Str)])
  | n (ks : List Str) : ks.length < 20 → KStep ks .n (ks ++ [("number" : Str)])
  | num (ks : List Str) (i : Int) : ks.length < 20 → -1000000000000000000 ≤ i → i ≤ 1000000000000000000 → KStep ks (.num i) (ks ++ [("number" : Str)])
  | op (o : Bop) (ks : List Str) : KStep (ks ++ [o.tk, o.tk]) o.i (ks ++ [o.mk])
section
variable {P : Program} {w : World} {K : PySem.W.Frag} {mg : Str → Option Value} {base : Heap}
def sp_rest_of : Sp := fun vs H Q _ => ∃ x y : Int, vs = [.int x, .int y] ∧ Q (.int (restOf x y)) H
theorem c_rest_of (T : TX w K mg) : C8.Cal P w K mg base 1 "rest_of" (sp_rest_of) [] := by
  obtain ⟨f, fd, F, b⟩ := T.d_rest_of
  have nd := sc_rest_of.nd
  refine C8.cal0 F b .nil sc_rest_of (fun vs H Q E h => ?_) (fun cdv A outer s H vs Q E hr h => ?_)
  · obtain ⟨x, y, rfl, _⟩ := h
    rfl
  · obtain ⟨x, y, rfl, q⟩ := h
    refine ⟨_, (pss_one (ps_ret (pe_ifExp (pt_cmpR op_eq (pv 1) pe_int (nomark _)) (pv 0) (pe_op op_mod (pv 0) (pe_callB kc_abs (by rfl) T.z_abs (by decide +kernel) (pa_cons (pv 1) pa_nil)))))), ?_⟩
    unfold restOf at q
    walk_at "st"
    walk_at "rd"
    refine ifD (fun h0 => ?_) (fun h0 => ?_)
    · rw [if_pos h0] at q
      walk_at "rd"
      exact q
    · rw [if_neg h0] at q
      walk_at "rd"
      by_cases hy : y < 0
      · rw [if_pos hy] at q ⊢
        walk_at "rd"
        exact q
      · rw [if_neg hy] at q ⊢
        have hy2 : (0 : Int) < y := by omega
        walk_at "rd"
        exact q
def sp_made_of : Sp := fun vs H Q _ => ∃ (o : Bop) (u v : V), vs = [.str o.i.s, u, v] ∧ opOk o u v ∧ Q (opV o u v) H
theorem c_made_of (T : TX w K mg) : C8.Cal P w K mg base 2 "made_of" (sp_made_of) [] := by
  obtain ⟨f, fd, F, b⟩ := T.d_made_of
  have nd := sc_made_of.nd
  refine C8.cal0 F b .nil sc_made_of (fun vs H Q E h => ?_) (fun cdv A outer s H vs Q E hr h => ?_)
  · obtain ⟨o, x, y, rfl, _⟩ := h
    rfl
  · obtain ⟨o, u, v, rfl, hk, q⟩ := h
    refine ⟨_, (pss_cons (ps_if (pt_cmpR op_eq (pv 0) pe_str (nomark _))
      (pss_one (ps_ret (pe_op op_add (pv 1) (pv 2))))
      pss_nil)
    (pss_cons (ps_if (pt_cmpR op_eq (pv 0) pe_str (nomark _))
      (pss_one (ps_ret (pe_op op_sub (pv 1) (pv 2))))
      pss_nil)
    (pss_cons (ps_if (pt_cmpR op_eq (pv 0) pe_str (nomark _))
      (pss_one (ps_ret (pe_op op_mul (pv 1) (pv 2))))
      pss_nil)
    (pss_cons (ps_if (pt_cmpR op_eq (pv 0) pe_str (nomark _))
      (pss_one (ps_ret (C8.pe_c (c_rest_of T) hr (by decide) (by rfl) (pa_cons (pv 1) (pa_cons (pv 2) pa_nil)))))
      pss_nil)
    (pss_cons (ps_if (pt_cmpR op_eq (pv 0) pe_str (nomark _))
      (pss_one (ps_ret (pe_cmpR op_eq (pv 1) (pv 2) (nomark _))))
      pss_nil)
    (pss_cons (ps_if (pt_cmpR op_eq (pv 0) pe_str (nomark _))
      (pss_one (ps_ret (pe_cmpR op_lt (pv 1) (pv 2) (nomark _))))
      pss_nil)
    (pss_one (ps_ret (pe_ifExp (pt_cmpR op_eq (pv 0) pe_str (nomark _)) (pe_and (pv 1) (pe_one (pv 2))) (pe_or (pv 1) (pe_one (pv 2)))))))))))), ?_⟩
    walk_at "st"
    walk_at "rd"
    refine ifD_f (by cases o <;> decide +kernel) ?_
    walk_at "rd"
    refine ifD_f (by cases o <;> decide +kernel) ?_
    walk_at "rd"
    refine ifD_f (by cases o <;> decide +kernel) ?_
    walk_at "rd"
    cases o with
    | rem =>
      refine ifD_t (by decide +kernel) ?_
      walk_at "rd"
      cases u <;> cases v <;> (try exact hk.elim)
      exact ⟨_, _, rfl, q⟩
    | eq =>
      refine ifD_f (by decide +kernel) ?_
      walk_at "rd"
      refine ifD_t (by decide +kernel) ?_
      walk_at "rd"
      cases u <;> cases v <;> (try exact hk.elim)
      walk_at "rd"
      exact q
    | lt =>
      refine ifD_f (by decide +kernel) ?_
      walk_at "rd"
      refine ifD_f (by decide +kernel) ?_
      walk_at "rd"
      refine ifD_t (by decide +kernel) ?_
      walk_at "rd"
      cases u <;> cases v <;> (try exact hk.elim)
      walk_at "rd"
      exact q
    | and =>
      refine ifD_f (by decide +kernel) ?_
      walk_at "rd"
      refine ifD_f (by decide +kernel) ?_
      walk_at "rd"
      refine ifD_f (by decide +kernel) ?_
      walk_at "rd"
      refine ifD_t (by decide +kernel) ?_
      walk_at "rd"
      cases u <;> cases v <;> (try exact hk.elim)
      rename_i a b
      cases a
      · walk_at "rd"
        exact q
      · walk_at "rd"
        exact q
    | or =>
      refine ifD_f (by decide +kernel) ?_
      walk_at "rd"
      refine ifD_f (by decide +kernel) ?_
      walk_at "rd"
      refine ifD_f (by decide +kernel) ?_
      walk_at "rd"
      refine ifD_f (by decide +kernel) ?_
      walk_at "rd"
      cases u <;> cases v <;> (try exact hk.elim)
      rename_i a b
      cases a
      · walk_at "rd"
        exact q
      · walk_at "rd"
        exact q
def sp_kinds_behind : PySem.W.Frag → Sp := fun K vs H Q _ => ∃ p, ∃ (ks ks' : List Str) (it : Itm), vs = [.ref p, .str it.s] ∧ H p = some (.tup (ks.map V.str)) ∧ KStep ks it ks' ∧ ks.length ≤ 20 ∧ ∀ p' H', Same H H' → H' p' = some (.tup (ks'.map V.str)) → Q (.ref p') H'
theorem c_kinds_behind (T : TX w K mg) : C8.Cal P w K mg base 3 "kinds_behind" (sp_kinds_behind K) [] := by
  obtain ⟨f, fd, F, b⟩ := T.d_kinds_behind
  have nd := sc_kinds_behind.nd
  refine C8.cal0 F b .nil sc_kinds_behind (fun vs H Q E h => ?_) (fun cdv A outer s H vs Q E hr h => ?_)
  · obtain ⟨p, ks, ks', it, rfl, _⟩ := h
    rfl
  · obtain ⟨p, ks, ks', it, rfl, hp, st, hl, q⟩ := h
    obtain ⟨es, en, dD⟩ := T.deeds
    refine ⟨_, (pss_cons (ps_if (pt_cmpR (op_in_kd dD) (pv 1) (C8.pe_gc (by rfl) T.g_DEEDS) (by rfl))
      (pss_cons (ps_asg (pe_ix ix_kdict (C8.pe_gc (by rfl) T.g_DEEDS) (pv 1) (fun _ _ => rfl)) (pg_2 (K := K) (i := 3) (j := 4) rfl rfl nd rfl (Or.inl rfl) (by first | exact .inl rfl | exact .inr rfl) rfl (Or.inl rfl) (by first | exact .inl rfl | exact .inr rfl) rfl rfl rfl rfl))
      (pss_cons (ps_set (i := 2) nd rfl (Or.inl rfl) (pe_op op_sub (pe_callB kc_len (by rfl) T.z_len (by decide +kernel) (pa_cons (pv 0) pa_nil)) (pe_callB kc_len (by rfl) T.z_len (by decide +kernel) (pa_cons (pv 3) pa_nil))))
      (pss_one (ps_ret (pe_ifExp (PW.pt (pw_and (pt_cmpR op_ge (pv 2) pe_int (nomark _)) (pw_and1 (pt_cmpR (op_eqD hr.units) (pe_slice sl_tupA (pv 0) (po_some (pv 2)) po_none) (pv 3) (nomark _))))) (pe_tup (StX.pa_star (pe_slice sl_tupA (pv 0) po_none (po_some (pv 2))) (pa_cons (pv 4) pa_nil))) pe_non)))))
      pss_nil)
    (pss_cons (ps_if (PW.pt (pw_or (pt_cmpR op_in_seq (pv 1) (pe_tup (pa_cons (C8.pe_gc (by rfl) T.g_ANSWER) (pa_cons (C8.pe_gc (by rfl) T.g_GIVEN) pa_nil))) (by rfl)) (pw_or1 (pt_val (C8.pe_c (c_is_within T) hr (by decide) (by rfl) (pa_cons (C8.pe_c (c_written T) hr (by decide) (by rfl) (pa_cons (pv 1) pa_nil)) (pa_cons (pe_un un_neg (C8.pe_gc (by rfl) T.g_MOST_NUMBER)) (pa_cons (C8.pe_gc (by rfl) T.g_MOST_NUMBER) pa_nil))))))))
      (pss_one (ps_ret (pe_ifExp (pt_cmpR op_lt (pe_callB kc_len (by rfl) T.z_len (by decide +kernel) (pa_cons (pv 0) pa_nil)) (C8.pe_gc (by rfl) T.g_MOST_PILE) (nomark _)) (pe_tup (StX.pa_star (pv 0) (pa_cons (C8.pe_gc (by rfl) T.g_NUMBER) pa_nil))) pe_non)))
      pss_nil)
    (pss_one (ps_ret pe_non)))), ?_⟩
    walk_at "st"
    walk_at "rd"
    cases st with
    | a _ h20 =>
      refine ⟨_, _, rfl, rfl, T.deed_no _ (by decide +kernel), ?_⟩
      simp only [Option.isSome_none]
      walk_at "rd"
      refine ⟨show (2 : Nat) ≤ sizeLine by decide, ?_⟩
      walk_at "gn"
      rename_i tp ntp H1 s1 l1
      walk_at "rd"
      refine g_inT (SqT.rd l1) rfl rfl (b := true) (by decide +kernel) ?_
      walk_at "rd"
      refine g_lenT (SqT.rd (s1 _ _ hp)) ?_
      walk_at "rd"
      refine ifD_t (by rw [List.length_map]; omega) ?_
      walk_at "rd"
      unfold StX.tStar
      walk_at "rd"
      refine ⟨p, _, rfl, .inl (SqT.rd (s1 _ _ hp)), ?_⟩
      walk_at "rd"
      refine ⟨by rw [List.length_append, List.length_map, sizeLine_eq]; simp; omega, fun p' np => ?_⟩
      refine q p' _ (Same.trans s1 (Same.upd np)) ?_
      rw [upd_same, List.map_append]
      rfl
    | n _ h20 =>
      refine ⟨_, _, rfl, rfl, T.deed_no _ (by decide +kernel), ?_⟩
      simp only [Option.isSome_none]
      walk_at "rd"
      refine ⟨show (2 : Nat) ≤ sizeLine by decide, ?_⟩
      walk_at "gn"
      rename_i tp ntp H1 s1 l1
      walk_at "rd"
      refine g_inT (SqT.rd l1) rfl rfl (b := true) (by decide +kernel) ?_
      walk_at "rd"
      refine g_lenT (SqT.rd (s1 _ _ hp)) ?_
      walk_at "rd"
      refine ifD_t (by rw [List.length_map]; omega) ?_
      walk_at "rd"
      unfold StX.tStar
      walk_at "rd"
      refine ⟨p, _, rfl, .inl (SqT.rd (s1 _ _ hp)), ?_⟩
      walk_at "rd"
      refine ⟨by rw [List.length_append, List.length_map, sizeLine_eq]; simp; omega, fun p' np => ?_⟩
      refine q p' _ (Same.trans s1 (Same.upd np)) ?_
      rw [upd_same, List.map_append]
      rfl
    | num _ i h20 h1 h2 =>
      have es : (Itm.num i).s = SX.S (numS i) := num_text i
      rw [es]
      refine ⟨_, _, rfl, rfl, T.deed_no _ (num_noop i), ?_⟩
      simp only [Option.isSome_none]
      walk_at "rd"
      refine ⟨show (2 : Nat) ≤ sizeLine by decide, ?_⟩
      walk_at "gn"
      rename_i tp ntp H1 s1 l1
      walk_at "rd"
      refine g_inT (SqT.rd l1) rfl rfl (b := false) ?_ ?_
      · refine (inV_strs (l := ["a", "n"])).trans (decide_eq_false ?_)
        intro h
        simp only [List.mem_cons, List.not_mem_nil, or_false] at h
        rcases h with e | e <;> exact num_not (by decide +kernel) e
      walk_at "rd"
      refine ⟨i, rfl, h1, h2, fun H2 s2 => ?_⟩
      walk_at "rd"
      refine ⟨i, _, _, rfl, ?_⟩
      rw [decide_eq_true h2, Bool.and_true]
      walk_at "rd"
      refine ifD_t (by omega) ?_
      walk_at "rd"
      refine g_lenT (SqT.rd ((s1.trans s2) _ _ hp)) ?_
      walk_at "rd"
      refine ifD_t (by rw [List.length_map]; omega) ?_
      walk_at "rd"
      unfold StX.tStar
      walk_at "rd"
      refine ⟨p, _, rfl, .inl (SqT.rd ((s1.trans s2) _ _ hp)), ?_⟩
      walk_at "rd"
      refine ⟨by rw [List.length_append, List.length_map, sizeLine_eq]; simp; omega, fun p' np => ?_⟩
      refine q p' _ (Same.trans (s1.trans s2) (Same.upd np)) ?_
      rw [upd_same, List.map_append]
      rfl
    | op o pre =>
      have hlp : (pre ++ [o.tk, o.tk]).length = pre.length + 2 := by simp
      obtain ⟨p1, q1, e1, e2, e3⟩ := T.deed (o.i.s, o.tk, o.mk) (by cases o <;> decide +kernel)
      refine ⟨_, _, rfl, rfl, e1, ?_⟩
      simp only [Option.isSome_some]
      walk_at "rd"
      refine ⟨_, _, .ref p1, rfl, rfl, ⟨es, en, _, dD.at_, dD.lit, e1, rfl⟩, ?_⟩
      walk_at "rd"
      refine ⟨p1, _, rfl, e2 _, rfl, ?_⟩
      walk_at "rd"
      refine g_lenT (SqT.rd hp) ?_
      walk_at "rd"
      refine g_lenT (e3 _) ?_
      walk_at "rd"
      rw [List.length_map, hlp, show ([V.str o.tk, V.str o.tk].length : Nat) = 2 from rfl, show ((pre.length + 2 : Nat) : Int) - ((2 : Nat) : Int) = ((pre.length : Nat) : Int) by omega]
      walk_at "rd"
      refine ifD_t (by omega) ?_
      walk_at "rd"
      have hc1 : cutV ((pre ++ [o.tk, o.tk]).map V.str) (some (pre.length : Int)) none = [V.str o.tk, V.str o.tk] := by
        rw [cutV_from, List.map_append]
        have e : pre.length = (pre.map V.str).length := by rw [List.length_map]
        rw [e, List.drop_left]
        rfl
      have hc2 : cutV ((pre ++ [o.tk, o.tk]).map V.str) none (some (pre.length : Int)) = pre.map V.str := by
        rw [cutV_to, List.map_append]
        have e : pre.length = (pre.map V.str).length := by rw [List.length_map]
        rw [e, List.take_left]
      refine ⟨p, _, rfl, SqT.rd hp, fun hw => ?_, fun hw p2 np2 => ?_⟩
      · have h0 : pre = [] := by
          have h1 := hw.1
          rw [HT.sIx_nat, List.length_map, hlp] at h1
          exact List.eq_nil_of_length_eq_zero (by omega)
        have hp0 : H p = some (.tup [V.str o.tk, V.str o.tk]) := by rw [hp, h0]; rfl
        walk_at "rd"
        refine ⟨.tuple [.str o.tk, .str o.tk], .tuple [.str o.tk, .str o.tk], .tup (SqT.rd hp0) (.cons (.str _) (.cons (.str _) .nil)), .tup (e3 _) (.cons (.str _) (.cons (.str _) .nil)), (by cases o <;> decide +kernel), (by cases o <;> decide +kernel), ?_⟩
        rw [show PyData.eqv (.tuple [.str o.tk, .str o.tk]) (.tuple [.str o.tk, .str o.tk]) = true by cases o <;> decide +kernel]
        walk_at "rd"
        unfold StX.tStar
        walk_at "rd"
        refine ⟨p, _, rfl, SqT.rd ((Same.refl H) _ _ hp), fun hw => ?_, fun hw p3 np3 => ?_⟩
        · exfalso
          have h2 := hw.2
          rw [HT.sIx_nat, List.length_map, hlp] at h2
          omega
        rw [hc2]
        have s2 := Same.upd (o := .tup (pre.map V.str)) np3
        refine ⟨p3, _, rfl, .inl (SqT.rd upd_same), ?_⟩
        walk_at "rd"
        refine ⟨by rw [List.length_append, List.length_map, sizeLine_eq]; simp; omega, fun p' np => ?_⟩
        refine q p' _ (Same.trans (Same.trans (Same.refl H) s2) (Same.upd np)) ?_
        rw [upd_same, List.map_append]
        rfl
      · walk_at "rd"
        have s1 := Same.upd (o := .tup (cutV (List.map V.str (pre ++ [o.tk, o.tk])) (some (pre.length : Int)) none)) np2
        have l1 := upd_same (H := H) (a := p2) (o := .tup (cutV (List.map V.str (pre ++ [o.tk, o.tk])) (some (pre.length : Int)) none))
        generalize upd H p2 (.tup (cutV (List.map V.str (pre ++ [o.tk, o.tk])) (some (pre.length : Int)) none)) = H1 at s1 l1
        rw [hc1] at l1
        refine ⟨.tuple [.str o.tk, .str o.tk], .tuple [.str o.tk, .str o.tk], .tup (SqT.rd l1) (.cons (.str _) (.cons (.str _) .nil)), .tup (e3 _) (.cons (.str _) (.cons (.str _) .nil)), (by cases o <;> decide +kernel), (by cases o <;> decide +kernel), ?_⟩
        rw [show PyData.eqv (.tuple [.str o.tk, .str o.tk]) (.tuple [.str o.tk, .str o.tk]) = true by cases o <;> decide +kernel]
        walk_at "rd"
        unfold StX.tStar
        walk_at "rd"
        refine ⟨p, _, rfl, SqT.rd (s1 _ _ hp), fun hw => ?_, fun hw p3 np3 => ?_⟩
        · exfalso
          have h2 := hw.2
          rw [HT.sIx_nat, List.length_map, hlp] at h2
          omega
        rw [hc2]
        have s2 := Same.upd (o := .tup (pre.map V.str)) np3
        refine ⟨p3, _, rfl, .inl (SqT.rd upd_same), ?_⟩
        walk_at "rd"
        refine ⟨by rw [List.length_append, List.length_map, sizeLine_eq]; simp; omega, fun p' np => ?_⟩
        refine q p' _ (Same.trans (Same.trans s1 s2) (Same.upd np)) ?_
        rw [upd_same, List.map_append]
        rfl
end
end Dt
set_option Elab.async false
set_option linter.all false
set_option maxRecDepth 100000
set_option maxHeartbeats 4000000
namespace Dt
open PySem PySem.Spec L2
local macro_rules | `(tactic| walk_at "st") => `(tactic| (simp only [L2.start, List.map_cons, List.map_nil, List.length_cons, List.length_nil, List.replicate_succ, List.replicate_zero, List.cons_append, List.nil_append, Nat.zero_add, Nat.reduceAdd, Nat.reduceSub]))
local macro_rules | `(tactic| walk_at "r1") => `(tactic| with_reducible first
  | refine g_seq ?_
  | refine g_next ?_
  | refine g_asg ?_
  | refine g_ifS ?_
  | refine g_ret ?_
  | refine g_retN ?_
  | refine g_drop ?_
  | refine g_brk ?_
  | refine g_c ?_
  | refine g_op ?_
  | refine g_un ?_
  | refine g_I0 ?_
  | refine g_U ?_
  | refine g_eqI ?_
  | refine g_neI ?_
  | refine g_eqS ?_
  | refine g_neS ?_
  | refine g_test ?_
  | refine g_B ?_
  | refine g_bl ?_
  | refine g_if ?_
  | refine g_not ?_
  | refine g_and ?_
  | refine g_or ?_
  | refine g_andV ?_
  | refine g_orV ?_
  | refine g_notV ?_
  | refine g_blif ?_
  | refine g_chain ?_
  | refine g_nil ?_
  | refine g_cons ?_
  | refine g_cb ?_
  | refine g_call ?_
  | refine g_tup ?_
  | refine g_lst ?_
  | refine g_tfld ?_
  | refine g_dget ?_
  | refine g_mk ?_
  | refine g_lc2 ?_
  | refine g_gfld ?_
  | refine g_meth ?_
  | refine g_sfld ?_
  | refine g_din ?_
  | refine g_dput ?_
  | refine g_isN_int ?_
  | refine g_isN_str ?_
  | refine g_isN_ref ?_
  | refine g_isN_non ?_
  | refine g_nN_int ?_
  | refine g_nN_str ?_
  | refine g_nN_ref ?_
  | refine g_nN_non ?_
  | refine g_lc ?_
  | refine g_dc ?_
  | refine g_for ?_
  | refine g_iStr ?_
  | refine g_iList ?_
  | refine g_iTup ?_
  | refine g_iR1 ?_
  | refine g_iR2 ?_
  | refine g_iR3 ?_
  | refine g_iEnum ?_
  | refine g_iZip ?_
  | refine g_iZipA ?_
  | refine g_bm ?_
  | refine g_bm0 ?_
  | refine g_m1 ?_
  | refine g_sl ?_
  | refine g_poN ?_
  | refine g_poS ?_
  | refine g_poI ?_
  | refine g_yes ?_
  | refine g_gtup ?_
  | refine g_gcons ?_
  | refine g_gnil ?_
  | refine g_par ?_
  | refine g_isi_ii ?_
  | refine g_isi_ib ?_
  | refine g_isi_ss ?_
  | refine g_inC ?_
  | refine g_int1 ?_
  | refine g_int1b ?_
  | refine g_abs ?_
  | refine g_ltS ?_
  | refine iteT ?_
  | refine iteNT ?_
  | refine iteNF ?_
  | refine iteF ?_)
local macro_rules | `(tactic| walk_at "sd") => `(tactic| first | assumption | rfl | decide | omega)
local macro_rules | `(tactic| walk_at "hp") => `(tactic| first | assumption | exact upd_same | exact Same.get (by assumption) (by walk_at "hp") | exact Off.get (by assumption) (by walk_at "hp") (by walk_at "ne"))
local macro_rules | `(tactic| walk_at "ne") => `(tactic| first | assumption | (refine Ne.symm ?_; assumption) | exact ne_of_none (by walk_at "hp") (by assumption) | exact ne_none (by walk_at "hp") (by assumption) | exact ne_of (by walk_at "hp") (by walk_at "hp") (by intro z; cases z))
local macro_rules | `(tactic| walk_at "sq") => `(tactic| first | assumption | exact SqL.rd (by walk_at "hp") | exact SqT.rd (by walk_at "hp") | exact Same.seq (by assumption) (by walk_at "sq") | exact Same.seqT (by assumption) (by walk_at "sq"))
local macro_rules | `(tactic| walk_at "rI") => `(tactic| ((with_reducible refine g_I ?_ ?_); (focus (first | (refine Or.inl ⟨?_, ?_⟩ <;> (first | decide | omega)) | (refine Or.inr ⟨?_, ?_⟩ <;> (first | decide | omega)) | (show (0 : Int) < _; first | decide | omega | assumption) | (refine And.intro ?_ ?_ <;> (first | decide | omega | (refine And.intro ?_ ?_ <;> (first | decide | omega))))))))
local macro_rules | `(tactic| walk_at "r2") => `(tactic| first
  | ((with_reducible refine g_tvar ?_); (refine ⟨_, rfl, ?_⟩))
  | ((with_reducible refine g_name' (σ' := ?s) ?e ?h); (case e => (simp only [wipe, List.set_cons_zero, List.set_cons_succ]; first | done | rfl)))
  | (refine And.intro (show wipe _ _ = wipe _ _ from rfl) ?_)
  | walk_at "rI")
local macro_rules | `(tactic| walk_at "rd") => `(tactic| repeat (first | walk_at "r1" | walk_at "r2"))
local macro_rules | `(tactic| walk_at "gn") => `(tactic| (intro pA hA; generalize hG : upd _ _ _ = H2A; (have sA : Same _ H2A := hG ▸ Same.upd hA); (have lA : H2A pA = some _ := hG ▸ upd_same); clear hG))
local macro_rules | `(tactic| walk_at "mk") => `(tactic| (intro xM dxM h1M h2M hneM; generalize hG : upd (upd _ _ _) _ _ = HM; (have sM : Same _ HM := hG ▸ Same.updW (Same.upd h2M) h1M); (have lM : HM xM = some _ := hG ▸ upd_same); clear hG))
/-- a puzzle's object -/
def PuzzleAt (K : PySem.W.Frag) (H : Hp) (z : Addr) (items : List Itm) : Prop := ∃ dx cp tx, H z = some (.ins (He.ga K "Puzzle") dx [("text", .str tx), ("check", .ref cp), ("cost", .int items.length)]) ∧ H cp = some (.tup (items.map fun it => V.str it.s))
theorem PuzzleAt.same {K : PySem.W.Frag} {H H' : Hp} {z : Addr} {items : List Itm} (e : Same H H') (h : PuzzleAt K H z items) : PuzzleAt K H' z items := by
  obtain ⟨dx, cp, tx, h1, h2⟩ := h
  exact ⟨dx, cp, tx, e _ _ h1, e _ _ h2⟩
/-- what is asked of a check; right: whether an answer x is right for g -/
structure ItOk (items : List Itm) (right : Int → Int → Bool) : Prop where
  pos : 1 ≤ items.length
  few : items.length ≤ 9
  free : ∀ it ∈ items, 32 ∉ it.s.cps.toList ∧ it.s.length ≤ 20
  kinds : ∃ ks : Nat → List Str, ks 0 = [] ∧ ks items.length = [("truth" : Str)] ∧ (∀ i, (ks i).length ≤ 20) ∧ ∀ i it, items[i]? = some it → KStep (ks i) it (ks (i + 1))
  piles : ∀ g x, ∃ st : Nat → List V, st 0 = [] ∧ st items.length = [.bl (right g x)] ∧ (∀ i, (st i).length ≤ 20) ∧ ∀ i it, items[i]? = some it → PStep g x (st i) it (st (i + 1))
section
variable {P : Program} {w : World} {K : PySem.W.Frag} {mg : Str → Option Value} {base : Heap}
def sp_pile_behind : PySem.W.Frag → Sp := fun K vs H Q _ => ∃ p, ∃ (it : Itm) (g x : Int) (st st' : List V), vs = [.ref p, .str it.s, .int g, .int x] ∧ H p = some (.tup st) ∧ PStep g x st it st' ∧ st.length ≤ 20 ∧ ∀ p' H', Same H H' → H' p' = some (.tup st') → Q (.ref p') H'
theorem c_pile_behind (T : TX w K mg) : C8.Cal P w K mg base 3 "pile_behind" (sp_pile_behind K) [] := by
  obtain ⟨f, fd, F, b⟩ := T.d_pile_behind
  have nd := sc_pile_behind.nd
  refine C8.cal0 F b .nil sc_pile_behind (fun vs H Q E h => ?_) (fun cdv A outer s H vs Q E hr h => ?_)
  · obtain ⟨p, it, g, x, st, st', rfl, _⟩ := h
    rfl
  · obtain ⟨p, it, g, x, st, st', rfl, hp, sp, hl, q⟩ := h
    obtain ⟨es, en, dD⟩ := T.deeds
    refine ⟨_, (pss_cons (ps_if (pt_cmpR op_eq (pv 1) pe_str (nomark _))
      (pss_one (ps_ret (pe_tup (StX.pa_star (pe_slice sl_tupA (pv 0) po_none (po_some (pe_un un_neg pe_int))) (pa_cons (pe_not (pe_ix ix_tup (pv 0) (pe_un un_neg pe_int) (fun _ _ => rfl))) pa_nil)))))
      pss_nil)
    (pss_cons (ps_if (pt_cmpR (op_in_kd dD) (pv 1) (C8.pe_gc (by rfl) T.g_DEEDS) (by rfl))
      (pss_one (ps_ret (pe_tup (StX.pa_star (pe_slice sl_tupA (pv 0) po_none (po_some (pe_un un_neg pe_int))) (pa_cons (C8.pe_c (c_made_of T) hr (by decide) (by rfl) (pa_cons (pv 1) (pa_cons (pe_ix ix_tup (pv 0) (pe_un un_neg pe_int) (fun _ _ => rfl)) (pa_cons (pe_ix ix_tup (pv 0) (pe_un un_neg pe_int) (fun _ _ => rfl)) pa_nil)))) pa_nil)))))
      pss_nil)
    (pss_cons (ps_if (pt_cmpR op_eq (pv 1) (C8.pe_gc (by rfl) T.g_ANSWER) (nomark _))
      (pss_one (ps_ret (pe_tup (StX.pa_star (pv 0) (pa_cons (pv 3) pa_nil)))))
      pss_nil)
    (pss_one (ps_ret (pe_tup (StX.pa_star (pv 0) (pa_cons (pe_ifExp (pt_cmpR op_eq (pv 1) (C8.pe_gc (by rfl) T.g_GIVEN) (nomark _)) (pv 2) (C8.pe_c (c_written T) hr (by decide) (by rfl) (pa_cons (pv 1) pa_nil))) pa_nil)))))))), ?_⟩
    walk_at "st"
    walk_at "rd"
    cases sp with
    | a _ =>
      refine ifD_f (by decide +kernel) ?_
      walk_at "rd"
      refine ⟨_, _, rfl, rfl, T.deed_no _ (by decide +kernel), ?_⟩
      simp only [Option.isSome_none]
      walk_at "rd"
      refine ifD_t rfl ?_
      walk_at "rd"
      unfold StX.tStar
      walk_at "rd"
      refine ⟨p, _, rfl, .inl (SqT.rd hp), ?_⟩
      walk_at "rd"
      refine ⟨by rw [List.length_append, sizeLine_eq]; simp; omega, fun p' np => ?_⟩
      exact q p' _ (Same.upd np) upd_same
    | n _ =>
      refine ifD_f (by decide +kernel) ?_
      walk_at "rd"
      refine ⟨_, _, rfl, rfl, T.deed_no _ (by decide +kernel), ?_⟩
      simp only [Option.isSome_none]
      walk_at "rd"
      refine ifD_f (by decide +kernel) ?_
      walk_at "rd"
      unfold StX.tStar
      walk_at "rd"
      refine ⟨p, _, rfl, .inl (SqT.rd hp), ?_⟩
      walk_at "rd"
      refine ifD_t rfl ?_
      walk_at "rd"
      refine ⟨by rw [List.length_append, sizeLine_eq]; simp; omega, fun p' np => ?_⟩
      exact q p' _ (Same.upd np) upd_same
    | num _ i h1 h2 =>
      have es : (Itm.num i).s = SX.S (numS i) := num_text i
      rw [es]
      refine ifD_f (num_not (by decide +kernel)) ?_
      walk_at "rd"
      refine ⟨_, _, rfl, rfl, T.deed_no _ (num_noop i), ?_⟩
      simp only [Option.isSome_none]
      walk_at "rd"
      refine ifD_f (num_not (by decide +kernel)) ?_
      walk_at "rd"
      unfold StX.tStar
      walk_at "rd"
      refine ⟨p, _, rfl, .inl (SqT.rd hp), ?_⟩
      walk_at "rd"
      refine ifD_f (num_not (by decide +kernel)) ?_
      walk_at "rd"
      refine ⟨i, rfl, h1, h2, fun H2 s2 => ?_⟩
      walk_at "rd"
      refine ⟨by rw [List.length_append, sizeLine_eq]; simp; omega, fun p' np => ?_⟩
      exact q p' _ (s2.trans (Same.upd np)) upd_same
    | op o pre u v hk =>
      have hlp : (pre ++ [u, v]).length = pre.length + 2 := by simp
      obtain ⟨p1, q1, e1, e2, e3⟩ := T.deed (o.i.s, o.tk, o.mk) (by cases o <;> decide +kernel)
      refine ifD_f (by cases o <;> decide +kernel) ?_
      walk_at "rd"
      refine ⟨_, _, rfl, rfl, e1, ?_⟩
      simp only [Option.isSome_some]
      walk_at "rd"
      unfold StX.tStar
      walk_at "rd"
      have hc : cutV (pre ++ [u, v]) none (some (-2)) = pre := by
        refine (cutV_toN (k := 2) (by decide)).trans ?_
        rw [hlp, Nat.add_sub_cancel, List.take_left]
      refine ⟨p, _, rfl, SqT.rd hp, fun hw => ?_, fun hw p2 np2 => ?_⟩
      · exfalso
        have h2 := hw.2
        have e : HT.sIx (pre ++ [u, v]).length (pre ++ [u, v]).length (some (-2)) = ((-2 : Int) + ((pre ++ [u, v]).length : Int)).toNat := rfl
        rw [e, hlp] at h2
        omega
      rw [hc]
      have s1 := Same.upd (o := .tup pre) np2
      have l1 := upd_same (H := H) (a := p2) (o := .tup pre)
      generalize upd H p2 (.tup pre) = H1 at s1 l1
      refine ⟨p2, _, rfl, .inl (SqT.rd l1), ?_⟩
      walk_at "rd"
      have hm2 : atI (pre ++ [u, v]) (-2) = some u := by
        have e : atI (pre ++ [u, v]) (-2) = (pre ++ [u, v])[((-2 : Int) + ((pre ++ [u, v]).length : Int)).toNat]? := by
          unfold atI ixN
          rw [if_neg (by decide), if_pos (by rw [hlp]; omega)]
          rfl
        rw [e, hlp, show ((-2 : Int) + ((pre.length + 2 : Nat) : Int)).toNat = pre.length by omega, List.getElem?_append_right (Nat.le_refl _), Nat.sub_self]
        rfl
      have hm1 : atI (pre ++ [u, v]) (-1) = some v := by
        have e := atI_last (pre ++ [u]) v
        rw [List.append_assoc] at e
        exact e
      refine g_ixT (SqT.rd (s1 _ _ hp)) hm2 ?_
      walk_at "rd"
      refine g_ixT (SqT.rd (s1 _ _ hp)) hm1 ?_
      walk_at "rd"
      refine ⟨o, u, v, rfl, hk, ?_⟩
      walk_at "rd"
      refine ⟨by rw [List.length_append, sizeLine_eq]; simp; omega, fun p' np => ?_⟩
      exact q p' _ (s1.trans (Same.upd np)) upd_same
def sp_piles_along : PySem.W.Frag → Sp := fun K vs H Q _ => ∃ z, ∃ (items : List Itm) (right : Int → Int → Bool) (g x : Int), vs = [.ref z, .int g, .int x] ∧ PuzzleAt K H z items ∧ ItOk items right ∧ ∀ a ps p H', Same H H' → H' a = some (.tup (ps ++ [V.ref p])) → H' p = some (.tup [.bl (right g x)]) → Q (.ref a) H'
theorem c_piles_along (T : TX w K mg) : C8.Cal P w K mg base 4 "piles_along" (sp_piles_along K) [] := by
  obtain ⟨f, fd, F, b⟩ := T.d_piles_along
  have nd := sc_piles_along.nd
  refine C8.cal0 F b .nil sc_piles_along (fun vs H Q E h => ?_) (fun cdv A outer s H vs Q E hr h => ?_)
  · obtain ⟨z, its, r, g, x, rfl, _⟩ := h
    rfl
  · obtain ⟨z, items, right, g, x, rfl, ⟨dx, cp, tx, hz, hcp⟩, ok, q⟩ := h
    obtain ⟨st, st0, stn, stl, sts⟩ := ok.piles g x
    refine ⟨_, (pss_cons (ps_par (i := 4) (j := 5) rfl nd rfl rfl (by decide) rfl rfl (pa_cons (pe_lst pa_nil) (pa_cons (pe_tup pa_nil) pa_nil)) (by rfl))
    (pss_cons (ps_for PassesOwn.never rfl (pi_tup (pe_fld (pv 0) rfl)) (pg_name (i := 3) nd rfl (Or.inl rfl))
      (pss_cons (ps_set (i := 5) nd rfl (Or.inl rfl) (C8.pe_c (c_pile_behind T) hr (by decide) (by rfl) (pa_cons (pv 5) (pa_cons (pv 3) (pa_cons (pv 1) (pa_cons (pv 2) pa_nil))))))
      (pss_one (ps_expr (pe_bm PySem.F.plainAttrs_list PySem.F.slot_list_append PySem.F.type_list_append mt_append (pv 4) (pa_cons (pv 5) pa_nil))))))
    (pss_one (ps_ret (pe_callTy kc_tup (by rfl) T.z_tuple (by decide +kernel) (pa_cons (pv 4) pa_nil)))))), ?_⟩
    walk_at "st"
    walk_at "rd"
    refine ⟨show (0 : Nat) ≤ sizeLine by decide, fun l nl => ?_⟩
    have s1 := Same.upd (o := .lst []) nl
    have l1 := upd_same (H := H) (a := l) (o := .lst [])
    generalize upd H l (.lst []) = H1 at s1 l1
    walk_at "rd"
    refine ⟨show (0 : Nat) ≤ sizeLine by decide, fun p np => ?_⟩
    have s2 := Same.upd (o := .tup []) np
    have l2 := upd_same (H := H1) (a := p) (o := .tup [])
    generalize upd H1 p (.tup []) = H2 at s2 l2
    refine ⟨_, _, rfl, ?_⟩
    walk_at "rd"
    refine g_fl (v := .ref cp) (s2 _ _ (s1 _ _ hz)) T.cl_Puzzle T.n_Puzzle_check (by kernel_rfl) ?_
    refine ⟨cp, rfl, ⟨_, SqT.rd (s2 _ _ (s1 _ _ hcp))⟩, ?_⟩
    refine for_it walk_tup (fun i σ H' => Same H H' ∧ ∃ y pa, ∃ ps : List V, σ = [some (.ref z), some (.int g), some (.int x), y, some (.ref l), some (.ref pa)] ∧ H' pa = some (.tup (st i)) ∧ H' l = some (.lst ps) ∧ ps.length = i ∧ (i ≠ 0 → ∃ qs, ps = qs ++ [V.ref pa])) ⟨s1.trans s2, _, p, [], rfl, by rw [st0]; exact l2, s2 _ _ l1, rfl, fun h => absurd rfl h⟩ (fun _ _ _ _ pv => SqT.rd (pv.1 _ _ hcp)) (fun i v σ H3 H4 hi pv y => ?_) (fun σ H3 pv => ?_)
    · obtain ⟨s3, y0, pa, ps, rfl, l3, ll, hpl, _⟩ := pv
      obtain ⟨rfl, hv⟩ := y
      obtain ⟨it, hit, rfl⟩ := get_map hv
      rw [List.length_map] at hi
      walk_at "rd"
      refine ⟨pa, it, g, x, st i, st (i + 1), rfl, l3, sts i it hit, stl i, fun p2 H5 s5 l5 => ?_⟩
      walk_at "rd"
      refine ⟨tyL (SqL.rd (s5 _ _ ll)), ?_⟩
      walk_at "rd"
      refine ⟨l, _, _, rfl, rfl, s5 _ _ ll, by rw [sizeLine_eq]; have := ok.few; omega, ?_⟩
      refine ⟨Same.updW (s3.trans s5) nl, _, p2, ps ++ [V.ref p2], rfl, ?_, upd_same, by simp [hpl], fun _ => ⟨ps, rfl⟩⟩
      rw [upd_ne (ne_of l5 (s5 _ _ ll) (by intro z; cases z))]
      exact l5
    · obtain ⟨s3, y0, pa, ps, rfl, l3, ll, hpl, hlast⟩ := pv
      rw [List.length_map] at l3 hpl hlast
      rw [stn] at l3
      obtain ⟨qs, rfl⟩ := hlast (by have := ok.pos; omega)
      walk_at "rd"
      refine g_tupL (SqL.rd ll) fun a na => ?_
      exact q a qs pa _ (s3.trans (Same.upd na)) upd_same (Same.upd na _ _ l3)
def sp_right_for : PySem.W.Frag → Sp := fun K vs H Q _ => ∃ z, ∃ (items : List Itm) (right : Int → Int → Bool) (g x : Int), vs = [.ref z, .int g, .int x] ∧ PuzzleAt K H z items ∧ ItOk items right ∧ ∀ H', Same H H' → Q (.bl (right g x)) H'
theorem c_right_for (T : TX w K mg) : C8.Cal P w K mg base 5 "right_for" (sp_right_for K) [] := by
  obtain ⟨f, fd, F, b⟩ := T.d_right_for
  have nd := sc_right_for.nd
  refine C8.cal0 F b .nil sc_right_for (fun vs H Q E h => ?_) (fun cdv A outer s H vs Q E hr h => ?_)
  · obtain ⟨z, its, r, g, x, rfl, _⟩ := h
    rfl
  · obtain ⟨z, items, right, g, x, rfl, hz, ok, q⟩ := h
    refine ⟨_, (pss_one (ps_ret (pe_ix ix_tup (pe_ix ix_tup (C8.pe_c (c_piles_along T) hr (by decide) (by rfl) (pa_cons (pv 0) (pa_cons (pv 1) (pa_cons (pv 2) pa_nil)))) (pe_un un_neg pe_int) (fun _ _ => rfl)) pe_int (fun _ _ => rfl)))), ?_⟩
    walk_at "st"
    walk_at "rd"
    refine ⟨z, items, right, g, x, rfl, hz, ok, fun a ps p H1 s1 l1 l2 => ?_⟩
    walk_at "rd"
    refine g_ixT (SqT.rd l1) (atI_last _ _) ?_
    walk_at "rd"
    refine g_ixT (SqT.rd l2) (atI_nat (j := 0) rfl) ?_
    exact q H1 s1
end
end Dt
set_option Elab.async false
set_option linter.all false
set_option maxRecDepth 100000
set_option maxHeartbeats 4000000
namespace Dt
open PySem PySem.Spec L2
section
variable {σ : St} {H : Hp} {Q : VK} {C : Addr} {sp : Sp} {dvs : List V} {E : XK} {t : TA} {ta : TE} {m : Str}
theorem g_mk (h : t σ H fun vs H1 => ∀ x dx, H1 x = none → H1 dx = none → dx ≠ x → sp (.ref x :: (vs ++ dvs)) (upd (upd H1 dx (.own x)) x (.ins C dx [])) (fun v H2 => v = .non ∧ Q (.ref x) H2) E) : tMake C sp dvs E t σ H Q := h
theorem g_meth (h : ta σ H fun x H1 => ∃ a dx fs, x = .ref a ∧ H1 a = some (.ins C dx fs) ∧ fs.lookup m = none ∧ t σ H1 fun vs H2 => sp (x :: (vs ++ dvs)) H2 Q E) : tMeth C m sp dvs E ta t σ H Q := h
theorem g_mkn {H1 : Hp} {QX : Addr → Hp → Prop} (h : ∀ x dx H2, H1 x = none → Same H1 H2 → H2 x = some (.ins C dx []) → QX x H2) : ∀ x dx, H1 x = none → H1 dx = none → dx ≠ x → QX x (upd (upd H1 dx (.own x)) x (.ins C dx [])) :=
  fun x dx h1 h2 _ => h x dx _ h1 (Same.updW (Same.upd h2) h1) upd_same
end
local macro_rules | `(tactic| walk_at "st") => `(tactic| (simp only [L2.start, List.map_cons, List.map_nil, List.length_cons, List.length_nil, List.replicate_succ, List.replicate_zero, List.cons_append, List.nil_append, Nat.zero_add, Nat.reduceAdd, Nat.reduceSub]))
local macro_rules | `(tactic| walk_at "r1") => `(tactic| with_reducible first
  | refine g_seq ?_
  | refine g_next ?_
  | refine g_asg ?_
  | refine g_ifS ?_
  | refine g_ret ?_
  | refine g_retN ?_
  | refine g_drop ?_
  | refine g_brk ?_
  | refine g_c ?_
  | refine g_op ?_
  | refine g_un ?_
  | refine g_I0 ?_
  | refine g_U ?_
  | refine g_eqI ?_
  | refine g_neI ?_
  | refine g_eqS ?_
  | refine g_neS ?_
  | refine g_test ?_
  | refine g_B ?_
  | refine g_bl ?_
  | refine g_if ?_
  | refine g_not ?_
  | refine g_and ?_
  | refine g_or ?_
  | refine g_andV ?_
  | refine g_orV ?_
  | refine g_notV ?_
  | refine g_blif ?_
  | refine g_chain ?_
  | refine g_nil ?_
  | refine g_cons ?_
  | refine g_cb ?_
  | refine g_call ?_
  | refine g_tup ?_
  | refine g_lst ?_
  | refine g_tfld ?_
  | refine g_dget ?_
  | refine g_mk ?_
  | refine g_lc2 ?_
  | refine g_gfld ?_
  | refine g_meth ?_
  | refine g_sfld ?_
  | refine g_din ?_
  | refine g_dput ?_
  | refine g_isN_int ?_
  | refine g_isN_str ?_
  | refine g_isN_ref ?_
  | refine g_isN_non ?_
  | refine g_nN_int ?_
  | refine g_nN_str ?_
  | refine g_nN_ref ?_
  | refine g_nN_non ?_
  | refine g_lc ?_
  | refine g_dc ?_
  | refine g_for ?_
  | refine g_iStr ?_
  | refine g_iList ?_
  | refine g_iTup ?_
  | refine g_iR1 ?_
  | refine g_iR2 ?_
  | refine g_iR3 ?_
  | refine g_iEnum ?_
  | refine g_iZip ?_
  | refine g_iZipA ?_
  | refine g_bm ?_
  | refine g_bm0 ?_
  | refine g_m1 ?_
  | refine g_sl ?_
  | refine g_poN ?_
  | refine g_poS ?_
  | refine g_poI ?_
  | refine g_yes ?_
  | refine g_gtup ?_
  | refine g_gcons ?_
  | refine g_gnil ?_
  | refine g_par ?_
  | refine g_isi_ii ?_
  | refine g_isi_ib ?_
  | refine g_isi_ss ?_
  | refine g_inC ?_
  | refine g_int1 ?_
  | refine g_int1b ?_
  | refine g_abs ?_
  | refine g_ltS ?_
  | refine iteT ?_
  | refine iteNT ?_
  | refine iteNF ?_
  | refine iteF ?_)
local macro_rules | `(tactic| walk_at "sd") => `(tactic| first | assumption | rfl | decide | omega)
local macro_rules | `(tactic| walk_at "hp") => `(tactic| first | assumption | exact upd_same | exact Same.get (by assumption) (by walk_at "hp") | exact Off.get (by assumption) (by walk_at "hp") (by walk_at "ne"))
local macro_rules | `(tactic| walk_at "ne") => `(tactic| first | assumption | (refine Ne.symm ?_; assumption) | exact ne_of_none (by walk_at "hp") (by assumption) | exact ne_none (by walk_at "hp") (by assumption) | exact ne_of (by walk_at "hp") (by walk_at "hp") (by intro z; cases z))
local macro_rules | `(tactic| walk_at "sq") => `(tactic| first | assumption | exact SqL.rd (by walk_at "hp") | exact SqT.rd (by walk_at "hp") | exact Same.seq (by assumption) (by walk_at "sq") | exact Same.seqT (by assumption) (by walk_at "sq"))
local macro_rules | `(tactic| walk_at "rI") => `(tactic| ((with_reducible refine g_I ?_ ?_); (focus (first | (refine Or.inl ⟨?_, ?_⟩ <;> (first | decide | omega)) | (refine Or.inr ⟨?_, ?_⟩ <;> (first | decide | omega)) | (show (0 : Int) < _; first | decide | omega | assumption) | (refine And.intro ?_ ?_ <;> (first | decide | omega | (refine And.intro ?_ ?_ <;> (first | decide | omega))))))))
local macro_rules | `(tactic| walk_at "r2") => `(tactic| first
  | ((with_reducible refine g_tvar ?_); (refine ⟨_, rfl, ?_⟩))
  | ((with_reducible refine g_name' (σ' := ?s) ?e ?h); (case e => (simp only [wipe, List.set_cons_zero, List.set_cons_succ]; first | done | rfl)))
  | (refine And.intro (show wipe _ _ = wipe _ _ from rfl) ?_)
  | walk_at "rI")
local macro_rules | `(tactic| walk_at "rd") => `(tactic| repeat (first | walk_at "r1" | walk_at "r2"))
local macro_rules | `(tactic| walk_at "gn") => `(tactic| (intro pA hA; generalize hG : upd _ _ _ = H2A; (have sA : Same _ H2A := hG ▸ Same.upd hA); (have lA : H2A pA = some _ := hG ▸ upd_same); clear hG))
local macro_rules | `(tactic| walk_at "mk") => `(tactic| (intro xM dxM h1M h2M hneM; generalize hG : upd (upd _ _ _) _ _ = HM; (have sM : Same _ HM := hG ▸ Same.updW (Same.upd h2M) h1M); (have lM : HM xM = some _ := hG ▸ upd_same); clear hG))
/-- a scan's object -/
def ScanAt (K : PySem.W.Frag) (H : Hp) (s : Addr) (wds : List Str) (i : Nat) : Prop := ∃ dx wl, H s = some (.ins (He.ga K "Scan") dx [("words", .ref wl), ("at", .int i)]) ∧ H wl = some (.lst (wds.map V.str))
def optS : Option Str → V
  | none => .non
  | some x => .str x
section
variable {P : Program} {w : World} {K : PySem.W.Frag} {mg : Str → Option Value} {base : Heap}
def sp_Scan_init : PySem.W.Frag → Sp := fun K vs H Q _ => ∃ s dx, ∃ x : Str, vs = [.ref s, .str x] ∧ H s = some (.ins (He.ga K "Scan") dx []) ∧ x.length + 2 ≤ sizeLine ∧ ∀ H', Off s H H' → ScanAt K H' s (PySem.Txt.split x " ") 0 → Q .non H'
theorem k_Scan (T : TX w K mg) : C8.Mak P w K mg base 1 "Scan" (He.ga K "Scan") (sp_Scan_init K) [] := by
  obtain ⟨f, fd, me, F, b⟩ := T.m_Scan_init
  have nd := sc_Scan_init.nd
  refine mak1 me (T.mk_Scan) T.v_Scan F b sc_Scan_init (fun vs H Q E h => ?_) (fun cdv A outer s H vs Q E hr h => ?_)
  · obtain ⟨s, dx, x, rfl, _⟩ := h
    rfl
  · obtain ⟨s, dx, x, rfl, hs, hl, q⟩ := h
    refine ⟨_, (pss_cons (ps_if (pt_not (pt_val (pe_callB call_isi (by rfl) T.z_isinstance (by decide +kernel) (pa_cons (pv 1) (pa_cons (pe_ty (T := "str") (by rfl) T.z_str (by decide +kernel)) pa_nil)))))
      (pss_one ps_never)
      pss_nil)
    (pss_cons (ps_fld (pv 0) (pe_split (pv 1) pe_str) rfl)
    (pss_one (ps_fld (pv 0) pe_int rfl)))), ?_⟩
    walk_at "st"
    walk_at "rd"
    refine ⟨⟨_, rfl⟩, ?_⟩
    walk_at "rd"
    refine ⟨x, " ", rfl, rfl, by decide +kernel, hl, fun l nl => ?_⟩
    have s1 := Same.upd (o := .lst ((PySem.Txt.split x " ").map V.str)) nl
    have l1 := upd_same (H := H) (a := l) (o := .lst ((PySem.Txt.split x " ").map V.str))
    generalize upd H l (.lst ((PySem.Txt.split x " ").map V.str)) = H1 at s1 l1
    walk_at "rd"
    refine g_sf [("words", .ref l)] (s1 _ _ hs) T.cl_Scan T.n_Scan_words (show (0 : Nat) < 1000 by decide) (by kernel_rfl) fun H2 o2 l2 => ?_
    walk_at "rd"
    refine g_sf [("words", .ref l), ("at", .int (0 : Nat))] l2 T.cl_Scan T.n_Scan_at (show (1 : Nat) < 1000 by decide) (by kernel_rfl) fun H3 o3 l3 => ?_
    have hne : l ≠ s := ne_none hs nl
    exact q H3 (fun b o h1 h2 => o3 _ _ (o2 _ _ (s1 _ _ h1) h2) h2) ⟨dx, l, l3, o3 _ _ (o2 _ _ l1 hne) hne⟩
def sp_Scan_ahead : PySem.W.Frag → Sp := fun K vs H Q _ => ∃ s, ∃ (wds : List Str) (i : Nat), vs = [.ref s] ∧ ScanAt K H s wds i ∧ Q (optS wds[i]?) H
theorem c_Scan_ahead (T : TX w K mg) : C8.Met P w K mg base 1 (He.ga K "Scan") "ahead" (sp_Scan_ahead K) [] := by
  obtain ⟨f, fd, me, F, b⟩ := T.m_Scan_ahead
  have nd := sc_Scan_ahead.nd
  refine C8.met0 T.cl_Scan me F b sc_Scan_ahead (fun vs H Q E h => ?_) (fun cdv A outer s H vs Q E hr h => ?_)
  · obtain ⟨s, wds, i, rfl, _⟩ := h
    rfl
  · obtain ⟨s, wds, i, rfl, ⟨dx, wl, hs, hw⟩, q⟩ := h
    refine ⟨_, (pss_one (ps_ret (pe_ifExp (pt_cmpR op_lt (pe_fld (pv 0) rfl) (pe_callB kc_len (by rfl) T.z_len (by decide +kernel) (pa_cons (pe_fld (pv 0) rfl) pa_nil)) (nomark _)) (pe_ix ix_list (pe_fld (pv 0) rfl) (pe_fld (pv 0) rfl) (fun _ _ => rfl)) pe_non))), ?_⟩
    walk_at "st"
    walk_at "rd"
    refine g_fl (v := .int i) hs T.cl_Scan T.n_Scan_at (by kernel_rfl) ?_
    walk_at "rd"
    refine g_fl (v := .ref wl) hs T.cl_Scan T.n_Scan_words (by kernel_rfl) ?_
    walk_at "rd"
    refine g_lenL (SqL.rd hw) ?_
    walk_at "rd"
    rw [List.length_map]
    by_cases hi : i < wds.length
    · refine ifD_t (by omega) ?_
      rw [List.getElem?_eq_getElem hi] at q
      walk_at "rd"
      refine g_fl (v := .ref wl) hs T.cl_Scan T.n_Scan_words (by kernel_rfl) ?_
      walk_at "rd"
      refine g_fl (v := .int i) hs T.cl_Scan T.n_Scan_at (by kernel_rfl) ?_
      refine g_ixL (SqL.rd hw) (atI_nat (j := i) (v := .str wds[i]) (by rw [List.getElem?_map, List.getElem?_eq_getElem hi]; rfl)) ?_
      exact q
    · refine ifD_f (by omega) ?_
      rw [List.getElem?_eq_none (by omega)] at q
      walk_at "rd"
      exact q
def sp_Scan_take : PySem.W.Frag → Sp := fun K vs H Q _ => ∃ s, ∃ (wds : List Str) (i : Nat) (x : Str), vs = [.ref s] ∧ ScanAt K H s wds i ∧ wds[i]? = some x ∧ ∀ H', Off s H H' → ScanAt K H' s wds (i + 1) → Q (.str x) H'
theorem c_Scan_take (T : TX w K mg) : C8.Met P w K mg base 2 (He.ga K "Scan") "take" (sp_Scan_take K) [] := by
  obtain ⟨f, fd, me, F, b⟩ := T.m_Scan_take
  have nd := sc_Scan_take.nd
  refine C8.met0 T.cl_Scan me F b sc_Scan_take (fun vs H Q E h => ?_) (fun cdv A outer s H vs Q E hr h => ?_)
  · obtain ⟨s, wds, i, x, rfl, _⟩ := h
    rfl
  · obtain ⟨s, wds, i, x, rfl, hsc, hx, q⟩ := h
    have hsc2 := hsc
    obtain ⟨dx, wl, hs, hw⟩ := hsc2
    refine ⟨_, (pss_cons (ps_set (i := 1) nd rfl (Or.inl rfl) (C8.pe_mt0 (c_Scan_ahead T) hr (by decide) (pv 0)))
    (pss_cons (ps_if (pt_cmpR op_isN1 (pv 1) pe_non (nomark _))
      (pss_one ps_never)
      pss_nil)
    (pss_cons (ps_fld (pv 0) (pe_op op_add (pe_fld (pv 0) rfl) pe_int) rfl)
    (pss_one (ps_ret (pv 1)))))), ?_⟩
    walk_at "st"
    walk_at "rd"
    refine ⟨s, dx, _, rfl, hs, by kernel_rfl, ?_⟩
    walk_at "rd"
    refine ⟨s, wds, i, rfl, hsc, ?_⟩
    rw [hx]
    show gName 1 (V.str x) _ _ _
    walk_at "rd"
    refine g_fl (v := .int i) hs T.cl_Scan T.n_Scan_at (by kernel_rfl) ?_
    walk_at "rd"
    refine g_sf [("words", .ref wl), ("at", .int ((i : Int) + 1))] hs T.cl_Scan T.n_Scan_at (show (2 : Nat) < 1000 by decide) (by kernel_rfl) fun H3 o3 l3 => ?_
    walk_at "rd"
    exact q H3 o3 ⟨dx, wl, l3, o3 _ _ hw (ne_of hw hs (by intro z; cases z))⟩
end
end Dt
set_option Elab.async false
set_option linter.all false
set_option maxRecDepth 100000
set_option maxHeartbeats 4000000
namespace Dt
open PySem PySem.Spec L2
local macro_rules | `(tactic| walk_at "st") => `(tactic| (simp only [L2.start, List.map_cons, List.map_nil, List.length_cons, List.length_nil, List.replicate_succ, List.replicate_zero, List.cons_append, List.nil_append, Nat.zero_add, Nat.reduceAdd, Nat.reduceSub]))
local macro_rules | `(tactic| walk_at "r1") => `(tactic| with_reducible first
  | refine g_seq ?_
  | refine g_next ?_
  | refine g_asg ?_
  | refine g_ifS ?_
  | refine g_ret ?_
  | refine g_retN ?_
  | refine g_drop ?_
  | refine g_brk ?_
  | refine g_c ?_
  | refine g_op ?_
  | refine g_un ?_
  | refine g_I0 ?_
  | refine g_U ?_
  | refine g_eqI ?_
  | refine g_neI ?_
  | refine g_eqS ?_
  | refine g_neS ?_
  | refine g_test ?_
  | refine g_B ?_
  | refine g_bl ?_
  | refine g_if ?_
  | refine g_not ?_
  | refine g_and ?_
  | refine g_or ?_
  | refine g_andV ?_
  | refine g_orV ?_
  | refine g_notV ?_
  | refine g_blif ?_
  | refine g_chain ?_
  | refine g_nil ?_
  | refine g_cons ?_
  | refine g_cb ?_
  | refine g_call ?_
  | refine g_tup ?_
  | refine g_lst ?_
  | refine g_tfld ?_
  | refine g_dget ?_
  | refine g_mk ?_
  | refine g_lc2 ?_
  | refine g_gfld ?_
  | refine g_meth ?_
  | refine g_sfld ?_
  | refine g_din ?_
  | refine g_dput ?_
  | refine g_isN_int ?_
  | refine g_isN_str ?_
  | refine g_isN_ref ?_
  | refine g_isN_non ?_
  | refine g_nN_int ?_
  | refine g_nN_str ?_
  | refine g_nN_ref ?_
  | refine g_nN_non ?_
  | refine g_lc ?_
  | refine g_dc ?_
  | refine g_for ?_
  | refine g_iStr ?_
  | refine g_iList ?_
  | refine g_iTup ?_
  | refine g_iR1 ?_
  | refine g_iR2 ?_
  | refine g_iR3 ?_
  | refine g_iEnum ?_
  | refine g_iZip ?_
  | refine g_iZipA ?_
  | refine g_bm ?_
  | refine g_bm0 ?_
  | refine g_m1 ?_
  | refine g_sl ?_
  | refine g_poN ?_
  | refine g_poS ?_
  | refine g_poI ?_
  | refine g_yes ?_
  | refine g_gtup ?_
  | refine g_gcons ?_
  | refine g_gnil ?_
  | refine g_par ?_
  | refine g_isi_ii ?_
  | refine g_isi_ib ?_
  | refine g_isi_ss ?_
  | refine g_inC ?_
  | refine g_int1 ?_
  | refine g_int1b ?_
  | refine g_abs ?_
  | refine g_ltS ?_
  | refine iteT ?_
  | refine iteNT ?_
  | refine iteNF ?_
  | refine iteF ?_)
local macro_rules | `(tactic| walk_at "sd") => `(tactic| first | assumption | rfl | decide | omega)
local macro_rules | `(tactic| walk_at "hp") => `(tactic| first | assumption | exact upd_same | exact Same.get (by assumption) (by walk_at "hp") | exact Off.get (by assumption) (by walk_at "hp") (by walk_at "ne"))
local macro_rules | `(tactic| walk_at "ne") => `(tactic| first | assumption | (refine Ne.symm ?_; assumption) | exact ne_of_none (by walk_at "hp") (by assumption) | exact ne_none (by walk_at "hp") (by assumption) | exact ne_of (by walk_at "hp") (by walk_at "hp") (by intro z; cases z))
local macro_rules | `(tactic| walk_at "sq") => `(tactic| first | assumption | exact SqL.rd (by walk_at "hp") | exact SqT.rd (by walk_at "hp") | exact Same.seq (by assumption) (by walk_at "sq") | exact Same.seqT (by assumption) (by walk_at "sq"))
local macro_rules | `(tactic| walk_at "rI") => `(tactic| ((with_reducible refine g_I ?_ ?_); (focus (first | (refine Or.inl ⟨?_, ?_⟩ <;> (first | decide | omega)) | (refine Or.inr ⟨?_, ?_⟩ <;> (first | decide | omega)) | (show (0 : Int) < _; first | decide | omega | assumption) | (refine And.intro ?_ ?_ <;> (first | decide | omega | (refine And.intro ?_ ?_ <;> (first | decide | omega))))))))
local macro_rules | `(tactic| walk_at "r2") => `(tactic| first
  | ((with_reducible refine g_tvar ?_); (refine ⟨_, rfl, ?_⟩))
  | ((with_reducible refine g_name' (σ' := ?s) ?e ?h); (case e => (simp only [wipe, List.set_cons_zero, List.set_cons_succ]; first | done | rfl)))
  | (refine And.intro (show wipe _ _ = wipe _ _ from rfl) ?_)
  | walk_at "rI")
local macro_rules | `(tactic| walk_at "rd") => `(tactic| repeat (first | walk_at "r1" | walk_at "r2"))
local macro_rules | `(tactic| walk_at "gn") => `(tactic| (intro pA hA; generalize hG : upd _ _ _ = H2A; (have sA : Same _ H2A := hG ▸ Same.upd hA); (have lA : H2A pA = some _ := hG ▸ upd_same); clear hG))
local macro_rules | `(tactic| walk_at "mk") => `(tactic| (intro xM dxM h1M h2M hneM; generalize hG : upd (upd _ _ _) _ _ = HM; (have sM : Same _ HM := hG ▸ Same.updW (Same.upd h2M) h1M); (have lM : HM xM = some _ := hG ▸ upd_same); clear hG))
theorem joinL_le {s : Nat} : ∀ {l : List (List Nat)}, (∀ x ∈ l, x.length ≤ 20) → (TL.joinL [s] l).length ≤ 21 * l.length
  | [], _ => Nat.zero_le _
  | [p], h => by
    have := h p (.head _)
    show p.length ≤ _
    simp
    omega
  | p :: q :: r, h => by
    have h1 := h p (.head _)
    have h2 := joinL_le (s := s) (l := q :: r) fun x hx => h x (.tail _ hx)
    show (p ++ ([s] ++ TL.joinL [s] (q :: r))).length ≤ _
    rw [List.length_append, List.length_append, List.length_singleton, List.length_cons (a := p)]
    omega
theorem strs_S : ∀ l : List Str, l = (l.map fun x => x.cps.toList).map SX.S
  | [] => rfl
  | x :: l => by
    rw [List.map_cons, List.map_cons, ← strs_S l, SX.S_tl]
theorem sp_text : (" " : Str) = SX.S [32] := by decide +kernel
theorem split_items {items : List Itm} (h0 : 1 ≤ items.length) (hf : ∀ it ∈ items, 32 ∉ it.s.cps.toList ∧ it.s.length ≤ 20) : PySem.Txt.split (PySem.Txt.join " " (items.map Itm.s)) " " = items.map Itm.s := by
  rw [sp_text, strs_S (items.map Itm.s), SX.join_S, SX.split_S (by decide) (by decide), SX.spl_join]
  · intro e
    have e2 := congrArg List.length e
    rw [List.length_map, List.length_map] at e2
    have e3 : items.length = 0 := e2
    omega
  · intro p hp
    rw [List.map_map] at hp
    obtain ⟨it, hit, rfl⟩ := List.mem_map.mp hp
    exact (hf it hit).1
theorem join_items_len {items : List Itm} (h9 : items.length ≤ 9) (hf : ∀ it ∈ items, 32 ∉ it.s.cps.toList ∧ it.s.length ≤ 20) : (PySem.Txt.join " " (items.map Itm.s)).length ≤ 200 := by
  rw [sp_text, strs_S (items.map Itm.s), SX.join_S, SX.S_len]
  refine Nat.le_trans (joinL_le fun x hx => ?_) ?_
  · rw [List.map_map] at hx
    obtain ⟨it, hit, rfl⟩ := List.mem_map.mp hx
    have := (hf it hit).2
    show it.s.cps.toList.length ≤ 20
    rw [Array.length_toList]
    exact this
  · rw [List.length_map, List.length_map]
    omega
section
variable {P : Program} {w : World} {K : PySem.W.Frag} {mg : Str → Option Value} {base : Heap}
def sp_Puzzle_init : PySem.W.Frag → Sp := fun K vs H Q _ => ∃ a dx, ∃ (items : List Itm) (right : Int → Int → Bool), vs = [.ref a, .str (PySem.Txt.join " " (items.map Itm.s))] ∧ H a = some (.ins (He.ga K "Puzzle") dx []) ∧ ItOk items right ∧ ∀ H', Off a H H' → PuzzleAt K H' a items → Q .non H'
theorem k_Puzzle (T : TX w K mg) : C8.Mak P w K mg base 4 "Puzzle" (He.ga K "Puzzle") (sp_Puzzle_init K) [] := by
  obtain ⟨f, fd, me, F, b⟩ := T.m_Puzzle_init
  have nd := sc_Puzzle_init.nd
  refine mak1 me (T.mk_Puzzle) T.v_Puzzle F b sc_Puzzle_init (fun vs H Q E h => ?_) (fun cdv A outer s H vs Q E hr h => ?_)
  · obtain ⟨a, dx, its, r, rfl, _⟩ := h
    rfl
  · obtain ⟨a, dx, items, right, rfl, ha, ok, q⟩ := h
    have hlen := join_items_len ok.few ok.free
    have hsp := split_items ok.pos ok.free
    generalize htx : PySem.Txt.join " " (items.map Itm.s) = tx at hlen hsp
    obtain ⟨ks, k0, kn, kl, kst⟩ := ok.kinds
    refine ⟨_, (pss_cons (ps_par (i := 2) (j := 3) rfl nd rfl rfl (by decide) rfl rfl (pa_cons (C8.pe_mk (k_Scan T) hr (by decide) (by rfl) (pa_cons (pv 1) pa_nil)) (pa_cons (pe_tup pa_nil) pa_nil)) (by rfl))
    (pss_cons (ps_while PassesOwn.never (pt_cmpR op_notN1 (C8.pe_mt0 (c_Scan_ahead T) hr (by decide) (pv 2)) pe_non (nomark _))
      (pss_cons (ps_set (i := 3) nd rfl (Or.inl rfl) (pe_ifExp (pt_cmpR op_lt (pe_fld (pv 2) rfl) (C8.pe_gc (by rfl) T.g_MOST_ITEMS) (nomark _)) (C8.pe_c (c_kinds_behind T) hr (by decide) (by rfl) (pa_cons (pv 3) (pa_cons (C8.pe_mt0 (c_Scan_ahead T) hr (by decide) (pv 2)) pa_nil))) pe_non))
      (pss_cons (ps_if (pt_cmpR op_isN1 (pv 3) pe_non (nomark _))
        (pss_one ps_never)
        pss_nil)
      (pss_one (ps_expr (C8.pe_mt0 (c_Scan_take T) hr (by decide) (pv 2)))))))
    (pss_cons (ps_if (pt_cmpR (op_neD hr.units) (pv 3) (pe_tup (pa_cons (C8.pe_gc (by rfl) T.g_TRUTH) pa_nil)) (nomark _))
      (pss_one ps_never)
      pss_nil)
    (pss_cons (ps_fld (pv 0) (pv 1) rfl)
    (pss_cons (ps_fld (pv 0) (pe_callTy kc_tup (by rfl) T.z_tuple (by decide +kernel) (pa_cons (pe_fld (pv 2) rfl) pa_nil)) rfl)
    (pss_one (ps_fld (pv 0) (pe_callB kc_len (by rfl) T.z_len (by decide +kernel) (pa_cons (pe_fld (pv 2) rfl) pa_nil)) rfl))))))), ?_⟩
    walk_at "st"
    walk_at "rd"
    walk_at "mk"
    rename_i sc dxs nsc nd1 hne1 H1 s1 lsc
    refine ⟨sc, dxs, tx, rfl, lsc, by rw [sizeLine_eq]; omega, fun H2 o2 at2 => ⟨rfl, ?_⟩⟩
    rw [hsp] at at2
    have s2 : Same H H2 := Off.to s1 o2 nsc
    walk_at "rd"
    refine ⟨show (0 : Nat) ≤ sizeLine by decide, fun p np => ?_⟩
    have s3 := Same.upd (o := .tup []) np
    have l3 := upd_same (H := H2) (a := p) (o := .tup [])
    generalize upd H2 p (.tup []) = H3 at s3 l3
    have at3 : ScanAt K H3 sc (items.map Itm.s) 0 := by
      obtain ⟨d, wl, h1, h2⟩ := at2
      exact ⟨d, wl, s3 _ _ h1, s3 _ _ h2⟩
    refine ⟨_, _, rfl, ?_⟩
    refine g_while ⟨fun m σ H' => m ≤ items.length ∧ Same H H' ∧ ∃ pa, σ = [some (.ref a), some (.str tx), some (.ref sc), some (.ref pa)] ∧ ScanAt K H' sc (items.map Itm.s) (items.length - m) ∧ H' pa = some (.tup ((ks (items.length - m)).map V.str)), ⟨items.length, Nat.le_refl _, s2.trans s3, p, rfl, by rw [Nat.sub_self]; exact at3, by rw [Nat.sub_self, k0]; exact l3⟩, fun m σ H4 hw => ?_⟩
    obtain ⟨hm, s4, pa, rfl, at4, l4⟩ := hw
    have at4' := at4
    obtain ⟨d, wl, ho, hwl⟩ := at4'
    walk_at "rd"
    refine ⟨sc, d, _, rfl, ho, by kernel_rfl, ?_⟩
    walk_at "rd"
    refine ⟨sc, _, _, rfl, at4, ?_⟩
    by_cases hz : m = 0
    · subst hz
      rw [Nat.sub_zero] at at4 l4 ho ⊢
      rw [kn] at l4
      rw [List.getElem?_eq_none (by rw [List.length_map]; exact Nat.le_refl _), show optS none = V.non from rfl]
      walk_at "rd"
      refine ⟨show (1 : Nat) ≤ sizeLine by decide, fun p5 np5 => ?_⟩
      have s5 := Same.upd (o := .tup [.str "truth"]) np5
      have l5 := upd_same (H := H4) (a := p5) (o := .tup [.str "truth"])
      generalize upd H4 p5 (.tup [.str "truth"]) = H5 at s5 l5
      walk_at "rd"
      refine ⟨.tuple [.str "truth"], .tuple [.str "truth"], .tup (SqT.rd (s5 _ _ l4)) (.cons (.str _) .nil), .tup (SqT.rd l5) (.cons (.str _) .nil), by decide +kernel, by decide +kernel, ?_⟩
      rw [show PyData.eqv (.tuple [.str "truth"]) (.tuple [.str "truth"]) = true by decide +kernel]
      walk_at "rd"
      have ha5 : H5 a = some (.ins (He.ga K "Puzzle") dx []) := s5 _ _ (s4 _ _ ha)
      refine g_sf [("text", .str tx)] ha5 T.cl_Puzzle T.n_Puzzle_text (show (0 : Nat) < 1000 by decide) (by kernel_rfl) fun H6 o6 l6 => ?_
      have hsca : sc ≠ a := fun z => by subst z; have e := (s5 _ _ ho).symm.trans ha5; injection e with e; injection e with _ _ e; cases e
      have hwla : wl ≠ a := fun z => by subst z; rw [s5 _ _ hwl] at ha5; cases ha5
      walk_at "rd"
      refine g_fl (v := .ref wl) (o6 _ _ (s5 _ _ ho) hsca) T.cl_Scan T.n_Scan_words (by kernel_rfl) ?_
      walk_at "rd"
      refine g_tupL (SqL.rd (o6 _ _ (s5 _ _ hwl) hwla)) fun cp ncp => ?_
      have s7 := Same.upd (o := .tup ((items.map Itm.s).map V.str)) ncp
      have l7 := upd_same (H := H6) (a := cp) (o := .tup ((items.map Itm.s).map V.str))
      generalize upd H6 cp (.tup ((items.map Itm.s).map V.str)) = H7 at s7 l7
      walk_at "rd"
      refine g_sf [("text", .str tx), ("check", .ref cp)] (s7 _ _ l6) T.cl_Puzzle T.n_Puzzle_check (show (1 : Nat) < 1000 by decide) (by kernel_rfl) fun H8 o8 l8 => ?_
      walk_at "rd"
      refine g_fl (v := .ref wl) (o8 _ _ (s7 _ _ (o6 _ _ (s5 _ _ ho) hsca)) hsca) T.cl_Scan T.n_Scan_words (by kernel_rfl) ?_
      walk_at "rd"
      refine g_lenL (SqL.rd (o8 _ _ (s7 _ _ (o6 _ _ (s5 _ _ hwl) hwla)) hwla)) ?_
      walk_at "rd"
      rw [List.length_map, List.length_map]
      refine g_sf [("text", .str tx), ("check", .ref cp), ("cost", .int items.length)] l8 T.cl_Puzzle T.n_Puzzle_cost (show (2 : Nat) < 1000 by decide) (by kernel_rfl) fun H9 o9 l9 => ?_
      have hcpa : cp ≠ a := ne_none l6 ncp
      refine q H9 (fun b o h1 h2 => o9 _ _ (o8 _ _ (s7 _ _ (o6 _ _ (s5 _ _ (s4 _ _ h1)) h2)) h2) h2) ⟨dx, cp, tx, l9, o9 _ _ (o8 _ _ ?_ hcpa) hcpa⟩
      rw [l7, List.map_map]
      rfl
    · have hi : items.length - m < items.length := by omega
      have hit : items[items.length - m]? = some items[items.length - m] := List.getElem?_eq_getElem hi
      generalize items[items.length - m] = it at hit
      have hst := kst _ it hit
      have hx : (items.map Itm.s)[items.length - m]? = some it.s := by rw [List.getElem?_map, hit]; rfl
      have hnext : items.length - m + 1 = items.length - (m - 1) := by omega
      rw [hx, show optS (some it.s) = V.str it.s from rfl]
      walk_at "rd"
      refine ⟨fun σ H' => ∃ m', m' < m ∧ (m' ≤ items.length ∧ Same H H' ∧ ∃ pa, σ = [some (.ref a), some (.str tx), some (.ref sc), some (.ref pa)] ∧ ScanAt K H' sc (items.map Itm.s) (items.length - m') ∧ H' pa = some (.tup ((ks (items.length - m')).map V.str))), fun σ' H' h => h, ?_⟩
      walk_at "rd"
      refine g_fl (v := .int ((items.length - m : Nat) : Int)) ho T.cl_Scan T.n_Scan_at (by kernel_rfl) ?_
      walk_at "rd"
      refine ifD_t (by have := ok.few; omega) ?_
      walk_at "rd"
      refine ⟨sc, d, _, rfl, ho, by kernel_rfl, ?_⟩
      walk_at "rd"
      refine ⟨sc, _, _, rfl, at4, ?_⟩
      rw [hx, show optS (some it.s) = V.str it.s from rfl]
      walk_at "rd"
      refine ⟨pa, _, _, it, rfl, l4, hst, kl _, fun p5 H5 s5 l5 => ?_⟩
      have at5 : ScanAt K H5 sc (items.map Itm.s) (items.length - m) := ⟨d, wl, s5 _ _ ho, s5 _ _ hwl⟩
      walk_at "rd"
      refine ⟨sc, d, _, rfl, s5 _ _ ho, by kernel_rfl, ?_⟩
      walk_at "rd"
      refine ⟨sc, _, _, it.s, rfl, at5, hx, fun H6 o6 at6 => ?_⟩
      rw [hnext] at at6 l5
      exact ⟨m - 1, by omega, by omega, Off.to (s4.trans s5) o6 nsc, p5, rfl, at6, o6 _ _ l5 (ne_of l5 (s5 _ _ ho) (by intro z; cases z))⟩
end
end Dt
set_option Elab.async false
set_option linter.all false
set_option maxRecDepth 100000
set_option maxHeartbeats 4000000
namespace Dt
open PySem PySem.Spec L2
/-- a target e.f -/
def gFld (K : PySem.W.Frag) (ta : TE) (f : Str) : TG := fun v σ H Q => ta σ H fun x H2 => ∃ a C dx fs, x = .ref a ∧ H2 a = some (.ins C dx fs) ∧ Cls K C ∧ NoAttr K C f ∧ fs.length < 1000 ∧ Q σ (upd H2 a (.ins C dx (putF f v fs)))
theorem pg_at {X : Cx} {e : Expr} {ta : TE} {f : Str} {pos : Pos} (he : PE X e ta) : PG X (.Attribute e f pos) (gFld X.K ta f) := by
  refine ⟨fun pins s σ H v u Q I r h => ?_⟩
  refine PySem.W.kas_attr (thn (he.run pins s σ H _ I h) fun ov s1 ⟨x, H1, I1, rx, a, C, dx, fs, ex, ea, c, n, l, q⟩ => ?_)
  subst ex
  obtain rfl : ov = Value.ref a := rx
  exact setattr_ok I1 ea c n l r fun s2 I2 => ⟨σ, _, I2, q⟩
theorem g_gfld {K : PySem.W.Frag} {ta : TE} {f : Str} {v : V} {σ : St} {H : Hp} {Q : St → Hp → Prop} (h : ta σ H fun x H2 => ∃ a C dx fs, x = .ref a ∧ H2 a = some (.ins C dx fs) ∧ Cls K C ∧ NoAttr K C f ∧ fs.length < 1000 ∧ Q σ (upd H2 a (.ins C dx (putF f v fs)))) : gFld K ta f v σ H Q := h
/-- as g_sf, within a tuple of targets -/
theorem g_sf2 {K : PySem.W.Frag} {H : Hp} {y : V} {f : Str} {a C dx : Addr} {fs : List (Str × V)} (fs2 : List (Str × V)) {QS : St → Hp → Prop} {QH : Hp → (St → Hp → Prop) → Prop} (ho : H a = some (.ins C dx fs)) (c : Cls K C) (nf : NoAttr K C f) (l : fs.length < 1000) (e : putF f y fs = fs2) (h : ∀ H', Off a H H' → H' a = some (.ins C dx fs2) → QH H' QS) :
    ∃ a' C dx fs, V.ref a = .ref a' ∧ H a' = some (.ins C dx fs) ∧ Cls K C ∧ NoAttr K C f ∧ fs.length < 1000 ∧ QH (upd H a' (.ins C dx (putF f y fs))) QS := by
  subst e
  exact ⟨a, C, dx, fs, rfl, ho, c, nf, l, h _ Off.upd upd_same⟩
local macro_rules | `(tactic| walk_at "st") => `(tactic| (simp only [L2.start, List.map_cons, List.map_nil, List.length_cons, List.length_nil, List.replicate_succ, List.replicate_zero, List.cons_append, List.nil_append, Nat.zero_add, Nat.reduceAdd, Nat.reduceSub]))
local macro_rules | `(tactic| walk_at "r1") => `(tactic| with_reducible first
  | refine g_seq ?_
  | refine g_next ?_
  | refine g_asg ?_
  | refine g_ifS ?_
  | refine g_ret ?_
  | refine g_retN ?_
  | refine g_drop ?_
  | refine g_brk ?_
  | refine g_c ?_
  | refine g_op ?_
  | refine g_un ?_
  | refine g_I0 ?_
  | refine g_U ?_
  | refine g_eqI ?_
  | refine g_neI ?_
  | refine g_eqS ?_
  | refine g_neS ?_
  | refine g_test ?_
  | refine g_B ?_
  | refine g_bl ?_
  | refine g_if ?_
  | refine g_not ?_
  | refine g_and ?_
  | refine g_or ?_
  | refine g_andV ?_
  | refine g_orV ?_
  | refine g_notV ?_
  | refine g_blif ?_
  | refine g_chain ?_
  | refine g_nil ?_
  | refine g_cons ?_
  | refine g_cb ?_
  | refine g_call ?_
  | refine g_tup ?_
  | refine g_lst ?_
  | refine g_tfld ?_
  | refine g_dget ?_
  | refine g_mk ?_
  | refine g_lc2 ?_
  | refine g_gfld ?_
  | refine g_meth ?_
  | refine g_sfld ?_
  | refine g_din ?_
  | refine g_dput ?_
  | refine g_isN_int ?_
  | refine g_isN_str ?_
  | refine g_isN_ref ?_
  | refine g_isN_non ?_
  | refine g_nN_int ?_
  | refine g_nN_str ?_
  | refine g_nN_ref ?_
  | refine g_nN_non ?_
  | refine g_lc ?_
  | refine g_dc ?_
  | refine g_for ?_
  | refine g_iStr ?_
  | refine g_iList ?_
  | refine g_iTup ?_
  | refine g_iR1 ?_
  | refine g_iR2 ?_
  | refine g_iR3 ?_
  | refine g_iEnum ?_
  | refine g_iZip ?_
  | refine g_iZipA ?_
  | refine g_bm ?_
  | refine g_bm0 ?_
  | refine g_m1 ?_
  | refine g_sl ?_
  | refine g_poN ?_
  | refine g_poS ?_
  | refine g_poI ?_
  | refine g_yes ?_
  | refine g_gtup ?_
  | refine g_gcons ?_
  | refine g_gnil ?_
  | refine g_par ?_
  | refine g_isi_ii ?_
  | refine g_isi_ib ?_
  | refine g_isi_ss ?_
  | refine g_inC ?_
  | refine g_int1 ?_
  | refine g_int1b ?_
  | refine g_abs ?_
  | refine g_ltS ?_
  | refine iteT ?_
  | refine iteNT ?_
  | refine iteNF ?_
  | refine iteF ?_)
local macro_rules | `(tactic| walk_at "sd") => `(tactic| first | assumption | rfl | decide | omega)
local macro_rules | `(tactic| walk_at "hp") => `(tactic| first | assumption | exact upd_same | exact Same.get (by assumption) (by walk_at "hp") | exact Off.get (by assumption) (by walk_at "hp") (by walk_at "ne"))
local macro_rules | `(tactic| walk_at "ne") => `(tactic| first | assumption | (refine Ne.symm ?_; assumption) | exact ne_of_none (by walk_at "hp") (by assumption) | exact ne_none (by walk_at "hp") (by assumption) | exact ne_of (by walk_at "hp") (by walk_at "hp") (by intro z; cases z))
local macro_rules | `(tactic| walk_at "sq") => `(tactic| first | assumption | exact SqL.rd (by walk_at "hp") | exact SqT.rd (by walk_at "hp") | exact Same.seq (by assumption) (by walk_at "sq") | exact Same.seqT (by assumption) (by walk_at "sq"))
local macro_rules | `(tactic| walk_at "rI") => `(tactic| ((with_reducible refine g_I ?_ ?_); (focus (first | (refine Or.inl ⟨?_, ?_⟩ <;> (first | decide | omega)) | (refine Or.inr ⟨?_, ?_⟩ <;> (first | decide | omega)) | (show (0 : Int) < _; first | decide | omega | assumption) | (refine And.intro ?_ ?_ <;> (first | decide | omega | (refine And.intro ?_ ?_ <;> (first | decide | omega))))))))
local macro_rules | `(tactic| walk_at "r2") => `(tactic| first
  | ((with_reducible refine g_tvar ?_); (refine ⟨_, rfl, ?_⟩))
  | ((with_reducible refine g_name' (σ' := ?s) ?e ?h); (case e => (simp only [wipe, List.set_cons_zero, List.set_cons_succ]; first | done | rfl)))
  | (refine And.intro (show wipe _ _ = wipe _ _ from rfl) ?_)
  | walk_at "rI")
local macro_rules | `(tactic| walk_at "rd") => `(tactic| repeat (first | walk_at "r1" | walk_at "r2"))
local macro_rules | `(tactic| walk_at "gn") => `(tactic| (intro pA hA; generalize hG : upd _ _ _ = H2A; (have sA : Same _ H2A := hG ▸ Same.upd hA); (have lA : H2A pA = some _ := hG ▸ upd_same); clear hG))
local macro_rules | `(tactic| walk_at "mk") => `(tactic| (intro xM dxM h1M h2M hneM; generalize hG : upd (upd _ _ _) _ _ = HM; (have sM : Same _ HM := hG ▸ Same.updW (Same.upd h2M) h1M); (have lM : HM xM = some _ := hG ▸ upd_same); clear hG))
/-- a run's object -/
def RunAt (K : PySem.W.Frag) (H : Hp) (r pa : Addr) (g : Int) (s : RunS) : Prop := ∃ dx k, H r = some (.ins (He.ga K "Run") dx [("program", .ref pa), ("given", .int g), ("left", .int s.left), ("right", .int s.right), ("spot", .int s.spot), ("steps", .int k), ("has_fallen", .bl s.fallen)])
/-- what holds of a run -/
def RunOk (n : Nat) (s : RunS) : Prop := s.spot ≤ n ∧ (s.fallen = false → boxOk s.left = true ∧ boxOk s.right = true)
theorem boxOk_iff {i : Int} : boxOk i = true ↔ -1000000000000000000 ≤ i ∧ i ≤ 1000000000000000000 := by
  unfold boxOk
  rw [Bool.and_eq_true, decide_eq_true_iff, decide_eq_true_iff]
theorem next_le {n i : Nat} {b : Bool} : nextSpot n i b ≤ n := by
  unfold nextSpot
  cases b with
  | true => rw [if_pos rfl]; have := Nat.mod_lt (i + 2) (show 0 < n + 1 by omega); omega
  | false => rw [if_neg Bool.false_ne_true]; have := Nat.mod_lt (i + 1) (show 0 < n + 1 by omega); omega
theorem adv_ok {p : List Str} {s : RunS} (h : RunOk p.length s) : RunOk p.length (adv p s).2 := by
  have nl : ∀ b, nextSpot p.length s.spot b ≤ p.length := fun b => next_le
  unfold adv
  cases hf : s.fallen with
  | true => rw [if_pos rfl]; exact h
  | false =>
    rw [if_neg Bool.false_ne_true]
    obtain ⟨h1, h2⟩ := h.2 hf
    show RunOk p.length (if wordAt p s.spot = ("say" : Str) then (some s.left, { left := s.left, right := s.right, spot := nextSpot p.length s.spot (decide (wordAt p s.spot = "skip") && !decide (s.left = 0)), fallen := false }) else if wordAt p s.spot = ("swap" : Str) then (none, { left := s.right, right := s.left, spot := nextSpot p.length s.spot (decide (wordAt p s.spot = "skip") && !decide (s.left = 0)), fallen := !boxOk s.right }) else (none, { left := changedF (wordAt p s.spot) s.left s.right, right := s.right, spot := nextSpot p.length s.spot (decide (wordAt p s.spot = "skip") && !decide (s.left = 0)), fallen := !boxOk (changedF (wordAt p s.spot) s.left s.right) })).2
    have nl2 := nl (decide (wordAt p s.spot = "skip") && !decide (s.left = 0))
    generalize nextSpot p.length s.spot (decide (wordAt p s.spot = "skip") && !decide (s.left = 0)) = sp at nl2 ⊢
    by_cases e1 : wordAt p s.spot = ("say" : Str)
    · rw [if_pos e1]
      exact ⟨nl2, fun _ => ⟨h1, h2⟩⟩
    · rw [if_neg e1]
      by_cases e2 : wordAt p s.spot = ("swap" : Str)
      · rw [if_pos e2]
        exact ⟨nl2, fun z => ⟨by simpa using z, h1⟩⟩
      · rw [if_neg e2]
        exact ⟨nl2, fun z => ⟨by simpa using z, h2⟩⟩
section
variable {P : Program} {w : World} {K : PySem.W.Frag} {mg : Str → Option Value} {base : Heap}
def sp_need_puzzle : PySem.W.Frag → Sp := fun K vs H Q _ => ∃ z items, vs = [.ref z, .str "puzzle"] ∧ PuzzleAt K H z items ∧ Q .non H
theorem c_need_puzzle (T : TX w K mg) : C8.Cal P w K mg base 1 "need_puzzle" (sp_need_puzzle K) [] := by
  obtain ⟨f, fd, F, b⟩ := T.d_need_puzzle
  have nd := sc_need_puzzle.nd
  refine C8.cal0 F b .nil sc_need_puzzle (fun vs H Q E h => ?_) (fun cdv A outer s H vs Q E hr h => ?_)
  · obtain ⟨a, xs, rfl, _⟩ := h
    rfl
  · obtain ⟨a, ns, rfl, ⟨dx, nt, tx, h1, h2⟩, q⟩ := h
    refine ⟨_, (pss_one (ps_if (pt_not (pt_val (pe_callB call_isi (by rfl) T.z_isinstance (by decide +kernel) (pa_cons (pv 0) (pa_cons (C8.pe_gc (by rfl) T.v_Puzzle) pa_nil)))))
      (pss_one ps_never)
      pss_nil)), ?_⟩
    walk_at "st"
    walk_at "rd"
    refine g_isiIns h1 T.i_Puzzle ?_
    walk_at "rd"
    exact q
def sp_need_given : PySem.W.Frag → Sp := fun K vs H Q _ => ∃ z items g, vs = [.ref z, .int g] ∧ PuzzleAt K H z items ∧ -1000000000000000000 ≤ g ∧ g ≤ 1000000000000000000 ∧ Q .non H
theorem c_need_given (T : TX w K mg) : C8.Cal P w K mg base 4 "need_given" (sp_need_given K) [] := by
  obtain ⟨f, fd, F, b⟩ := T.d_need_given
  have nd := sc_need_given.nd
  refine C8.cal0 F b .nil sc_need_given (fun vs H Q E h => ?_) (fun cdv A outer s H vs Q E hr h => ?_)
  · obtain ⟨a, xs, g, rfl, _⟩ := h
    rfl
  · obtain ⟨z, items, g, rfl, hz, h1, h2, q⟩ := h
    refine ⟨_, (pss_cons (ps_expr (C8.pe_c (c_need_puzzle T) hr (by decide) (by rfl) (pa_cons (pv 0) (pa_cons pe_str pa_nil))))
    (pss_one (ps_expr (C8.pe_c (c_need_number T) hr (by decide) (by rfl) (pa_cons (pv 1) (pa_cons pe_str (pa_cons (pe_un un_neg (C8.pe_gc (by rfl) T.g_MOST_BOX)) (pa_cons (C8.pe_gc (by rfl) T.g_MOST_BOX) pa_nil)))))))), ?_⟩
    walk_at "st"
    walk_at "rd"
    refine ⟨z, items, rfl, hz, ?_⟩
    walk_at "rd"
    exact ⟨g, "given", _, _, rfl, h1, h2, q⟩
def sp_Run_init : PySem.W.Frag → Sp := fun K vs H Q _ => ∃ r pa dx, ∃ (ws : List Str) (g : Int), vs = [.ref r, .ref pa, .int g] ∧ H r = some (.ins (He.ga K "Run") dx []) ∧ H pa = some (.tup (ws.map V.str)) ∧ ws.length ≤ 200 ∧ (∀ x ∈ ws, x ∈ W7) ∧ -1000000000000000000 ≤ g ∧ g ≤ 1000000000000000000 ∧ ∀ H', Off r H H' → RunAt K H' r pa g (runS0 g) → Q .non H'
theorem k_Run (T : TX w K mg) : C8.Mak P w K mg base 4 "Run" (He.ga K "Run") (sp_Run_init K) [] := by
  obtain ⟨f, fd, me, F, b⟩ := T.m_Run_init
  have nd := sc_Run_init.nd
  refine mak1 me (T.mk_Run) T.v_Run F b sc_Run_init (fun vs H Q E h => ?_) (fun cdv A outer s H vs Q E hr h => ?_)
  · obtain ⟨r, pa, dx, ws, g, rfl, _⟩ := h
    rfl
  · obtain ⟨r, pa, dx, ws, g, rfl, h0, hp, h200, hw, g1, g2, q⟩ := h
    refine ⟨_, (pss_cons (ps_set (i := 3) nd rfl (Or.inl rfl) (C8.pe_c (c_need_program T) hr (by decide) (by rfl) (pa_cons (pv 1) pa_nil)))
    (pss_cons (ps_expr (C8.pe_c (c_need_number T) hr (by decide) (by rfl) (pa_cons (pv 2) (pa_cons pe_str (pa_cons (pe_un un_neg (C8.pe_gc (by rfl) T.g_MOST_BOX)) (pa_cons (C8.pe_gc (by rfl) T.g_MOST_BOX) pa_nil))))))
    (pss_cons (ps_fld (pv 0) (pv 3) rfl)
    (pss_cons (ps_fld (pv 0) (pv 2) rfl)
    (pss_cons (ps_fld (pv 0) pe_int rfl)
    (pss_cons (ps_fld (pv 0) (pv 2) rfl)
    (pss_cons (ps_fld (pv 0) pe_int rfl)
    (pss_cons (ps_fld (pv 0) pe_int rfl)
    (pss_one (ps_fld (pv 0) pe_bl rfl)))))))))), ?_⟩
    walk_at "st"
    walk_at "rd"
    refine ⟨pa, ws, rfl, hp, h200, hw, fun H1 s1 => ?_⟩
    walk_at "rd"
    refine ⟨g, "given", _, _, rfl, g1, g2, ?_⟩
    walk_at "rd"
    refine g_sf [("program", .ref pa)] (s1 _ _ h0) T.cl_Run T.n_Run_program (show (0 : Nat) < 1000 by decide) (by kernel_rfl) fun H2 o2 l2 => ?_
    walk_at "rd"
    refine g_sf [("program", .ref pa), ("given", .int g)] l2 T.cl_Run T.n_Run_given (show (1 : Nat) < 1000 by decide) (by kernel_rfl) fun H3 o3 l3 => ?_
    walk_at "rd"
    refine g_sf [("program", .ref pa), ("given", .int g), ("left", .int 0)] l3 T.cl_Run T.n_Run_left (show (2 : Nat) < 1000 by decide) (by kernel_rfl) fun H4 o4 l4 => ?_
    walk_at "rd"
    refine g_sf [("program", .ref pa), ("given", .int g), ("left", .int 0), ("right", .int g)] l4 T.cl_Run T.n_Run_right (show (3 : Nat) < 1000 by decide) (by kernel_rfl) fun H5 o5 l5 => ?_
    walk_at "rd"
    refine g_sf [("program", .ref pa), ("given", .int g), ("left", .int 0), ("right", .int g), ("spot", .int 0)] l5 T.cl_Run T.n_Run_spot (show (4 : Nat) < 1000 by decide) (by kernel_rfl) fun H6 o6 l6 => ?_
    walk_at "rd"
    refine g_sf [("program", .ref pa), ("given", .int g), ("left", .int 0), ("right", .int g), ("spot", .int 0), ("steps", .int 0)] l6 T.cl_Run T.n_Run_steps (show (5 : Nat) < 1000 by decide) (by kernel_rfl) fun H7 o7 l7 => ?_
    walk_at "rd"
    refine g_sf [("program", .ref pa), ("given", .int g), ("left", .int 0), ("right", .int g), ("spot", .int 0), ("steps", .int 0), ("has_fallen", .bl false)] l7 T.cl_Run T.n_Run_has_fallen (show (6 : Nat) < 1000 by decide) (by kernel_rfl) fun H8 o8 l8 => ?_
    exact q H8 (fun b o h1 h2 => o8 _ _ (o7 _ _ (o6 _ _ (o5 _ _ (o4 _ _ (o3 _ _ (o2 _ _ (s1 _ _ h1) h2) h2) h2) h2) h2) h2) h2) ⟨dx, 0, l8⟩
def sp_Run_advance : PySem.W.Frag → Sp := fun K vs H Q _ => ∃ r pa, ∃ (ws : List Str) (g : Int) (s : RunS), vs = [.ref r] ∧ RunAt K H r pa g s ∧ H pa = some (.tup (ws.map V.str)) ∧ RunOk ws.length s ∧ ∀ H', Off r H H' → RunAt K H' r pa g (adv ws s).2 → Q (optV (adv ws s).1) H'
theorem c_Run_advance (T : TX w K mg) : C8.Met P w K mg base 3 (He.ga K "Run") "advance" (sp_Run_advance K) [] := by
  obtain ⟨f, fd, me, F, b⟩ := T.m_Run_advance
  have nd := sc_Run_advance.nd
  refine C8.met0 T.cl_Run me F b sc_Run_advance (fun vs H Q E h => ?_) (fun cdv A outer s H vs Q E hr h => ?_)
  · obtain ⟨r, pa, ws, g, s, rfl, _⟩ := h
    rfl
  · obtain ⟨r, pa, ws, g, st, rfl, ⟨dx, k, h0⟩, hp, ok, q⟩ := h
    have hpr : pa ≠ r := ne_of hp h0 (by intro z; cases z)
    refine ⟨_, (pss_cons (ps_fld (pv 0) (pe_op op_add (pe_fld (pv 0) rfl) pe_int) rfl)
    (pss_cons (ps_if (pt_val (pe_fld (pv 0) rfl))
      (pss_one (ps_ret pe_non))
      pss_nil)
    (pss_cons (ps_set (i := 1) nd rfl (Or.inl rfl) (pe_ifExp (pt_cmpR op_lt (pe_fld (pv 0) rfl) (pe_callB kc_len (by rfl) T.z_len (by decide +kernel) (pa_cons (pe_fld (pv 0) rfl) pa_nil)) (nomark _)) (pe_ix ix_tup (pe_fld (pv 0) rfl) (pe_fld (pv 0) rfl) (fun _ _ => rfl)) (C8.pe_gc (by rfl) T.g_END_runs)))
    (pss_cons (ps_fld (pv 0) (C8.pe_c (c_next_spot T) hr (by decide) (by rfl) (pa_cons (pe_fld (pv 0) rfl) (pa_cons (pe_fld (pv 0) rfl) (pa_cons (pe_and (pe_cmpR op_eq (pv 1) pe_str (nomark _)) (pe_one (pe_cmpR op_ne (pe_fld (pv 0) rfl) pe_int (nomark _)))) pa_nil)))) rfl)
    (pss_cons (ps_if (pt_cmpR op_eq (pv 1) pe_str (nomark _))
      (pss_one (ps_ret (pe_fld (pv 0) rfl)))
      pss_nil)
    (pss_cons (ps_if (pt_cmpR op_eq (pv 1) pe_str (nomark _))
      (pss_one (ps_asg (pe_tup (pa_cons (pe_fld (pv 0) rfl) (pa_cons (pe_fld (pv 0) rfl) pa_nil))) (pg_tup rfl (pgs_cons (pg_at (pv 0)) (pgs_cons (pg_at (pv 0)) pgs_nil)))))
      (pss_one (ps_fld (pv 0) (C8.pe_c (c_changed T) hr (by decide) (by rfl) (pa_cons (pv 1) (pa_cons (pe_fld (pv 0) rfl) (pa_cons (pe_fld (pv 0) rfl) pa_nil)))) rfl)))
    (pss_cons (ps_fld (pv 0) (pe_not (C8.pe_c (c_is_within T) hr (by decide) (by rfl) (pa_cons (pe_fld (pv 0) rfl) (pa_cons (pe_un un_neg (C8.pe_gc (by rfl) T.g_MOST_BOX)) (pa_cons (C8.pe_gc (by rfl) T.g_MOST_BOX) pa_nil))))) rfl)
    (pss_one (ps_ret pe_non))))))))), ?_⟩
    walk_at "st"
    walk_at "rd"
    refine g_fl (v := .int k) h0 T.cl_Run T.n_Run_steps (by kernel_rfl) ?_
    walk_at "rd"
    refine g_sf [("program", .ref pa), ("given", .int g), ("left", .int st.left), ("right", .int st.right), ("spot", .int st.spot), ("steps", .int (k + 1)), ("has_fallen", .bl st.fallen)] h0 T.cl_Run T.n_Run_steps (show (7 : Nat) < 1000 by decide) (by kernel_rfl) fun H1 o1 l1 => ?_
    walk_at "rd"
    refine g_fl (v := .bl st.fallen) l1 T.cl_Run T.n_Run_has_fallen (by kernel_rfl) ?_
    walk_at "rd"
    cases hf : st.fallen with
    | true =>
      walk_at "rd"
      have e : adv ws st = (none, st) := by unfold adv; rw [hf, if_pos rfl]
      rw [e] at q
      exact q H1 o1 ⟨dx, k + 1, by rw [hf] at l1 ⊢; exact l1⟩
    | false =>
      rw [hf] at l1
      obtain ⟨b1, b2⟩ := ok.2 hf
      have bb := boxOk_iff.mp b1
      walk_at "rd"
      refine g_fl (v := .int st.spot) l1 T.cl_Run T.n_Run_spot (by kernel_rfl) ?_
      walk_at "rd"
      refine g_fl (v := .ref pa) l1 T.cl_Run T.n_Run_program (by kernel_rfl) ?_
      walk_at "rd"
      have hp1 := o1 _ _ hp hpr
      refine g_lenT (SqT.rd hp1) ?_
      walk_at "rd"
      rw [List.length_map]
      have hadv : adv ws st = if wordAt ws st.spot = ("say" : Str) then (some st.left, { left := st.left, right := st.right, spot := nextSpot ws.length st.spot (decide (wordAt ws st.spot = "skip") && !decide (st.left = 0)), fallen := false }) else if wordAt ws st.spot = ("swap" : Str) then (none, { left := st.right, right := st.left, spot := nextSpot ws.length st.spot (decide (wordAt ws st.spot = "skip") && !decide (st.left = 0)), fallen := !boxOk st.right }) else (none, { left := changedF (wordAt ws st.spot) st.left st.right, right := st.right, spot := nextSpot ws.length st.spot (decide (wordAt ws st.spot = "skip") && !decide (st.left = 0)), fallen := !boxOk (changedF (wordAt ws st.spot) st.left st.right) }) := by
        unfold adv
        rw [hf, if_neg Bool.false_ne_true]
      have hwd : ∀ G : VK, G (V.str (wordAt ws st.spot)) H1 → if decide ((st.spot : Int) < (ws.length : Nat)) = true then tOp (rIxT K) (tFld K (tVar 0) "program") (tFld K (tVar 0) "spot") [some (V.ref r), none] H1 G else tC (V.str "end") [some (V.ref r), none] H1 G := by
        intro G hG
        unfold wordAt at hG
        by_cases hi : st.spot < ws.length
        · refine ifD_t (by omega) ?_
          walk_at "rd"
          refine g_fl (v := .ref pa) l1 T.cl_Run T.n_Run_program (by kernel_rfl) ?_
          walk_at "rd"
          refine g_fl (v := .int st.spot) l1 T.cl_Run T.n_Run_spot (by kernel_rfl) ?_
          refine g_ixT (SqT.rd hp1) (atI_nat (j := st.spot) (v := .str ws[st.spot]) (by rw [List.getElem?_map, List.getElem?_eq_getElem hi]; rfl)) ?_
          rw [List.getD_eq_getElem?_getD, List.getElem?_eq_getElem hi] at hG
          exact hG
        · refine ifD_f (by omega) ?_
          walk_at "rd"
          rw [List.getD_eq_getElem?_getD, List.getElem?_eq_none (by omega)] at hG
          exact hG
      refine hwd _ ?_
      rw [hadv] at q
      generalize wordAt ws st.spot = wd at q
      walk_at "rd"
      refine g_fl (v := .ref pa) l1 T.cl_Run T.n_Run_program (by kernel_rfl) ?_
      walk_at "rd"
      refine g_fl (v := .int st.spot) l1 T.cl_Run T.n_Run_spot (by kernel_rfl) ?_
      walk_at "rd"
      by_cases hs : wd = ("skip" : Str)
      case' pos =>
        rw [decide_eq_true hs, Bool.true_and] at q
        refine ifD_t hs ?_
        walk_at "rd"
        refine g_fl (v := .int st.left) l1 T.cl_Run T.n_Run_left (by kernel_rfl) ?_
        walk_at "rd"
      case' neg =>
        rw [decide_eq_false hs, Bool.false_and] at q
        refine ifD_f hs ?_
      all_goals
        refine ⟨pa, _, st.spot, _, rfl, SqT.rd hp1, ?_⟩
        rw [List.length_map]
        generalize nextSpot ws.length st.spot _ = sp at q ⊢
        walk_at "rd"
        refine g_sf [("program", .ref pa), ("given", .int g), ("left", .int st.left), ("right", .int st.right), ("spot", .int sp), ("steps", .int (k + 1)), ("has_fallen", .bl false)] l1 T.cl_Run T.n_Run_spot (show (7 : Nat) < 1000 by decide) (by kernel_rfl) fun H2 o2 l2 => ?_
        have o12 : Off r H H2 := fun b o h1 h2 => o2 _ _ (o1 _ _ h1 h2) h2
        walk_at "rd"
        by_cases e1 : wd = ("say" : Str)
        · rw [if_pos e1] at q
          refine ifD_t e1 ?_
          walk_at "rd"
          refine g_fl (v := .int st.left) l2 T.cl_Run T.n_Run_left (by kernel_rfl) ?_
          exact q H2 o12 ⟨dx, k + 1, l2⟩
        rw [if_neg e1] at q
        refine ifD_f e1 ?_
        walk_at "rd"
        by_cases e2 : wd = ("swap" : Str)
        · rw [if_pos e2] at q
          refine ifD_t e2 ?_
          walk_at "rd"
          refine g_fl (v := .int st.right) l2 T.cl_Run T.n_Run_right (by kernel_rfl) ?_
          walk_at "rd"
          refine g_fl (v := .int st.left) l2 T.cl_Run T.n_Run_left (by kernel_rfl) ?_
          walk_at "rd"
          refine ⟨show (2 : Nat) ≤ sizeLine by decide, fun tp ntp => ?_⟩
          have s3 := Same.upd (o := .tup [.int st.right, .int st.left]) ntp
          have l3 := upd_same (H := H2) (a := tp) (o := .tup [.int st.right, .int st.left])
          generalize upd H2 tp (.tup [.int st.right, .int st.left]) = H3 at s3 l3
          walk_at "rd"
          refine ⟨tp, _, rfl, SqT.rd l3, rfl, ?_⟩
          walk_at "rd"
          refine g_sf2 [("program", .ref pa), ("given", .int g), ("left", .int st.right), ("right", .int st.right), ("spot", .int sp), ("steps", .int (k + 1)), ("has_fallen", .bl false)] (s3 _ _ l2) T.cl_Run T.n_Run_left (show (7 : Nat) < 1000 by decide) (by kernel_rfl) fun H4 o4 l4 => ?_
          walk_at "rd"
          refine g_sf2 [("program", .ref pa), ("given", .int g), ("left", .int st.right), ("right", .int st.left), ("spot", .int sp), ("steps", .int (k + 1)), ("has_fallen", .bl false)] l4 T.cl_Run T.n_Run_right (show (7 : Nat) < 1000 by decide) (by kernel_rfl) fun H5 o5 l5 => ?_
          walk_at "rd"
          refine g_fl (v := .int st.right) l5 T.cl_Run T.n_Run_left (by kernel_rfl) ?_
          walk_at "rd"
          refine ⟨st.right, _, _, rfl, ?_⟩
          walk_at "rd"
          refine g_sf [("program", .ref pa), ("given", .int g), ("left", .int st.right), ("right", .int st.left), ("spot", .int sp), ("steps", .int (k + 1)), ("has_fallen", .bl (!boxOk st.right))] l5 T.cl_Run T.n_Run_has_fallen (show (7 : Nat) < 1000 by decide) (by kernel_rfl) fun H6 o6 l6 => ?_
          walk_at "rd"
          exact q H6 (fun b o h1 h2 => o6 _ _ (o5 _ _ (o4 _ _ (s3 _ _ (o12 _ _ h1 h2)) h2) h2) h2) ⟨dx, k + 1, l6⟩
        · rw [if_neg e2] at q
          refine ifD_f e2 ?_
          walk_at "rd"
          refine g_fl (v := .int st.left) l2 T.cl_Run T.n_Run_left (by kernel_rfl) ?_
          walk_at "rd"
          refine g_fl (v := .int st.right) l2 T.cl_Run T.n_Run_right (by kernel_rfl) ?_
          walk_at "rd"
          refine ⟨wd, st.left, st.right, rfl, ⟨by omega, by omega⟩, ?_⟩
          generalize changedF wd st.left st.right = nl at q ⊢
          walk_at "rd"
          refine g_sf [("program", .ref pa), ("given", .int g), ("left", .int nl), ("right", .int st.right), ("spot", .int sp), ("steps", .int (k + 1)), ("has_fallen", .bl false)] l2 T.cl_Run T.n_Run_left (show (7 : Nat) < 1000 by decide) (by kernel_rfl) fun H4 o4 l4 => ?_
          walk_at "rd"
          refine g_fl (v := .int nl) l4 T.cl_Run T.n_Run_left (by kernel_rfl) ?_
          walk_at "rd"
          refine ⟨nl, _, _, rfl, ?_⟩
          walk_at "rd"
          refine g_sf [("program", .ref pa), ("given", .int g), ("left", .int nl), ("right", .int st.right), ("spot", .int sp), ("steps", .int (k + 1)), ("has_fallen", .bl (!boxOk nl))] l4 T.cl_Run T.n_Run_has_fallen (show (7 : Nat) < 1000 by decide) (by kernel_rfl) fun H6 o6 l6 => ?_
          walk_at "rd"
          exact q H6 (fun b o h1 h2 => o6 _ _ (o4 _ _ (o12 _ _ h1 h2) h2) h2) ⟨dx, k + 1, l6⟩
end
end Dt
set_option Elab.async false
set_option linter.all false
set_option maxRecDepth 100000
set_option maxHeartbeats 4000000
namespace Dt
open PySem PySem.Spec L2
local macro_rules | `(tactic| walk_at "st") => `(tactic| (simp only [L2.start, List.map_cons, List.map_nil, List.length_cons, List.length_nil, List.replicate_succ, List.replicate_zero, List.cons_append, List.nil_append, Nat.zero_add, Nat.reduceAdd, Nat.reduceSub]))
local macro_rules | `(tactic| walk_at "r1") => `(tactic| with_reducible first
  | refine g_seq ?_
  | refine g_next ?_
  | refine g_asg ?_
  | refine g_ifS ?_
  | refine g_ret ?_
  | refine g_retN ?_
  | refine g_drop ?_
  | refine g_brk ?_
  | refine g_c ?_
  | refine g_op ?_
  | refine g_un ?_
  | refine g_I0 ?_
  | refine g_U ?_
  | refine g_eqI ?_
  | refine g_neI ?_
  | refine g_eqS ?_
  | refine g_neS ?_
  | refine g_test ?_
  | refine g_B ?_
  | refine g_bl ?_
  | refine g_if ?_
  | refine g_not ?_
  | refine g_and ?_
  | refine g_or ?_
  | refine g_andV ?_
  | refine g_orV ?_
  | refine g_notV ?_
  | refine g_blif ?_
  | refine g_chain ?_
  | refine g_nil ?_
  | refine g_cons ?_
  | refine g_cb ?_
  | refine g_call ?_
  | refine g_tup ?_
  | refine g_lst ?_
  | refine g_tfld ?_
  | refine g_dget ?_
  | refine g_mk ?_
  | refine g_lc2 ?_
  | refine g_gfld ?_
  | refine g_meth ?_
  | refine g_sfld ?_
  | refine g_din ?_
  | refine g_dput ?_
  | refine g_isN_int ?_
  | refine g_isN_str ?_
  | refine g_isN_ref ?_
  | refine g_isN_non ?_
  | refine g_nN_int ?_
  | refine g_nN_str ?_
  | refine g_nN_ref ?_
  | refine g_nN_non ?_
  | refine g_lc ?_
  | refine g_dc ?_
  | refine g_for ?_
  | refine g_iStr ?_
  | refine g_iList ?_
  | refine g_iTup ?_
  | refine g_iR1 ?_
  | refine g_iR2 ?_
  | refine g_iR3 ?_
  | refine g_iEnum ?_
  | refine g_iZip ?_
  | refine g_iZipA ?_
  | refine g_bm ?_
  | refine g_bm0 ?_
  | refine g_m1 ?_
  | refine g_sl ?_
  | refine g_poN ?_
  | refine g_poS ?_
  | refine g_poI ?_
  | refine g_yes ?_
  | refine g_gtup ?_
  | refine g_gcons ?_
  | refine g_gnil ?_
  | refine g_par ?_
  | refine g_isi_ii ?_
  | refine g_isi_ib ?_
  | refine g_isi_ss ?_
  | refine g_inC ?_
  | refine g_int1 ?_
  | refine g_int1b ?_
  | refine g_abs ?_
  | refine g_ltS ?_
  | refine iteT ?_
  | refine iteNT ?_
  | refine iteNF ?_
  | refine iteF ?_)
local macro_rules | `(tactic| walk_at "sd") => `(tactic| first | assumption | rfl | decide | omega)
local macro_rules | `(tactic| walk_at "hp") => `(tactic| first | assumption | exact upd_same | exact Same.get (by assumption) (by walk_at "hp") | exact Off.get (by assumption) (by walk_at "hp") (by walk_at "ne"))
local macro_rules | `(tactic| walk_at "ne") => `(tactic| first | assumption | (refine Ne.symm ?_; assumption) | exact ne_of_none (by walk_at "hp") (by assumption) | exact ne_none (by walk_at "hp") (by assumption) | exact ne_of (by walk_at "hp") (by walk_at "hp") (by intro z; cases z))
local macro_rules | `(tactic| walk_at "sq") => `(tactic| first | assumption | exact SqL.rd (by walk_at "hp") | exact SqT.rd (by walk_at "hp") | exact Same.seq (by assumption) (by walk_at "sq") | exact Same.seqT (by assumption) (by walk_at "sq"))
local macro_rules | `(tactic| walk_at "rI") => `(tactic| ((with_reducible refine g_I ?_ ?_); (focus (first | (refine Or.inl ⟨?_, ?_⟩ <;> (first | decide | omega)) | (refine Or.inr ⟨?_, ?_⟩ <;> (first | decide | omega)) | (show (0 : Int) < _; first | decide | omega | assumption) | (refine And.intro ?_ ?_ <;> (first | decide | omega | (refine And.intro ?_ ?_ <;> (first | decide | omega))))))))
local macro_rules | `(tactic| walk_at "r2") => `(tactic| first
  | ((with_reducible refine g_tvar ?_); (refine ⟨_, rfl, ?_⟩))
  | ((with_reducible refine g_name' (σ' := ?s) ?e ?h); (case e => (simp only [wipe, List.set_cons_zero, List.set_cons_succ]; first | done | rfl)))
  | (refine And.intro (show wipe _ _ = wipe _ _ from rfl) ?_)
  | walk_at "rI")
local macro_rules | `(tactic| walk_at "rd") => `(tactic| repeat (first | walk_at "r1" | walk_at "r2"))
local macro_rules | `(tactic| walk_at "gn") => `(tactic| (intro pA hA; generalize hG : upd _ _ _ = H2A; (have sA : Same _ H2A := hG ▸ Same.upd hA); (have lA : H2A pA = some _ := hG ▸ upd_same); clear hG))
local macro_rules | `(tactic| walk_at "mk") => `(tactic| (intro xM dxM h1M h2M hneM; generalize hG : upd (upd _ _ _) _ _ = HM; (have sM : Same _ HM := hG ▸ Same.updW (Same.upd h2M) h1M); (have lM : HM xM = some _ := hG ▸ upd_same); clear hG))
def isDue (D l : Nat) : Bool := decide (0 < D) && decide (D / 2 ^ l * 2 ^ l = D)
def dba (tb : List Nat) (D : Nat) : Nat := ((List.range tb.length).map fun l => tb.getD l 0 * (D / 2 ^ l)).sum
def lgF (tb : List Nat) (L D : Nat) : Nat := (((List.range tb.length).filter fun l => decide (L < l) && isDue D l).map fun l => tb.getD l 0).sum
def sdF (tb : List Nat) (D n : Nat) : Nat := (((List.range n).filter (isDue D)).map fun l => tb.getD l 0).sum
theorem shr_cast {D k : Nat} : (D : Int) / 2 ^ k = ((D / 2 ^ k : Nat) : Int) := by
  rw [Int.natCast_ediv, Int.natCast_pow]
  rfl
theorem shl_cast {D k : Nat} : (D : Int) * 2 ^ k = ((D * 2 ^ k : Nat) : Int) := by
  rw [Int.natCast_mul, Int.natCast_pow]
  rfl
/-- the bits of a number -/
def bitL (D : Nat) : Nat := Builtin.Int.intBits (D : Int)
theorem bitL_le {D n : Nat} (h : D < 2 ^ n) : bitL D ≤ n := PyProof.Rows.intBits_le (by simpa using h)
theorem bitL_lt {D : Nat} : D < 2 ^ bitL D := by
  unfold bitL Builtin.Int.intBits
  by_cases h : D = 0
  · subst h; decide
  · rw [if_neg (by simpa using h)]
    exact Nat.lt_log2_self
theorem getV {tb : List Nat} {l : Nat} (h : l < tb.length) : (natsV tb)[l]? = some (V.int (tb.getD l 0 : Nat)) := by
  rw [List.getElem?_map, List.getD_eq_getElem?_getD, List.getElem?_eq_getElem h]
  rfl
theorem range_get {n i : Nat} (h : i < n) : (List.range n)[i]? = some i := by rw [List.getElem?_range h]
section
variable {P : Program} {w : World} {K : PySem.W.Frag} {mg : Str → Option Value} {base : Heap}
def sp_is_due : Sp := fun vs H Q _ => ∃ D l : Nat, vs = [.int D, .int l] ∧ D < 2 ^ 200 ∧ l ≤ 20000 ∧ Q (.bl (isDue D l)) H
theorem c_is_due (T : TX w K mg) : C8.Cal P w K mg base 1 "is_due" (sp_is_due) [] := by
  obtain ⟨f, fd, F, b⟩ := T.d_is_due
  have nd := sc_is_due.nd
  refine C8.cal0 F b .nil sc_is_due (fun vs H Q E h => ?_) (fun cdv A outer s H vs Q E hr h => ?_)
  · obtain ⟨D, l, rfl, _⟩ := h
    rfl
  · obtain ⟨D, l, rfl, hD, hl, q⟩ := h
    refine ⟨_, (pss_one (ps_ret (pe_and (pe_cmpR op_gt (pv 0) pe_int (nomark _)) (pe_one (pe_cmpR op_eq (pe_op ko_shl (pe_op ko_shr (pv 0) (pv 1)) (pv 1)) (pv 0) (nomark _)))))), ?_⟩
    unfold isDue at q
    walk_at "st"
    walk_at "rd"
    by_cases h0 : 0 < D
    · rw [decide_eq_true h0, Bool.true_and] at q
      refine ifD_t (by omega) ?_
      walk_at "rd"
      refine g_shrN ?_
      rw [shr_cast]
      walk_at "rd"
      refine g_shlN (shl_ok (n := 200) (by rw [Int.natAbs_natCast]; exact Nat.lt_of_le_of_lt (Nat.div_le_self _ _) hD) (by omega)) ?_
      rw [shl_cast]
      walk_at "rd"
      by_cases e : D / 2 ^ l * 2 ^ l = D
      · rw [decide_eq_true e] at q
        rw [decide_eq_true (by rw [e])]
        exact q
      · rw [decide_eq_false e] at q
        rw [decide_eq_false (fun z => e (by exact Int.ofNat.inj z))]
        exact q
    · rw [decide_eq_false h0, Bool.false_and] at q
      refine ifD_f (by omega) ?_
      exact q
def sp_due_by_all : PySem.W.Frag → Sp := fun K vs H Q _ => ∃ b, ∃ (tb : List Nat) (D : Nat), vs = [.ref b, .int D] ∧ H b = some (.lst (natsV tb)) ∧ tb.length ≤ 20000 ∧ D < 2 ^ 62 ∧ ∀ H', Same H H' → Q (.int (dba tb D : Nat)) H'
theorem c_due_by_all (T : TX w K mg) : C8.Cal P w K mg base 1 "due_by_all" (sp_due_by_all K) [] := by
  obtain ⟨f, fd, F, b⟩ := T.d_due_by_all
  have nd := sc_due_by_all.nd
  refine C8.cal0 F b .nil sc_due_by_all (fun vs H Q E h => ?_) (fun cdv A outer s H vs Q E hr h => ?_)
  · obtain ⟨b, tb, D, rfl, _⟩ := h
    rfl
  · obtain ⟨b, tb, D, rfl, hb, hl, hD, q⟩ := h
    refine ⟨_, (pss_one (ps_ret (pe_callB (cr_sum rfl) (by rfl) T.z_sum (by decide +kernel) (pa_cons (pe_lc rfl nd (pi_enum (by rfl) T.z_enumerate (pa_cons (pv 0) pa_nil)) (blkOk_by (own := [("length", 2), ("many", 3)]) (N := n_due_by_all) (sc := defScope s_due_by_all) (by decide +kernel)) (fun _ _ _ _ _ => (pg_2 (K := K) (i := 2) (j := 3) rfl rfl nd rfl (Or.inl rfl) (by first | exact .inl rfl | exact .inr rfl) rfl (Or.inl rfl) (by first | exact .inl rfl | exact .inr rfl) rfl rfl rfl rfl)) (fun _ _ _ _ _ => pts_nil) (fun _ _ _ _ _ => (pe_op op_mul (pv 3) (pe_op ko_shr (pv 1) (pv 2))))) pa_nil)))), ?_⟩
    walk_at "st"
    walk_at "rd"
    refine ⟨b, _, rfl, SqL.rd hb, fun A1 nA => ?_⟩
    refine lc_it walk_enum (PvL H A1 (fun l : Nat => some (V.int ((tb.getD l 0 * (D / 2 ^ l) : Nat) : Int))) (List.range tb.length)) (pvl_start nA) (fun _ _ _ pv => SqL.rd (pv.1 _ _ hb)) (fun i x H3 H4 hi pv y => ?_) (fun H3 pv => ?_)
    · obtain ⟨T1, x, z, rfl, nT, rfl, hx1, hz1⟩ := y
      have s3 := Same.upd (o := .tup [x, z]) nT
      have l3 := upd_same (H := H3) (a := T1) (o := .tup [x, z])
      generalize upd H3 T1 (.tup [x, z]) = H4 at s3 l3
      rw [List.length_map] at hi
      have e1 : x = V.int (i : Nat) := (Option.some.inj hx1).symm
      have e2 : z = V.int (tb.getD i 0 : Nat) := Option.some.inj (hz1.symm.trans (getV hi))
      subst e1 e2
      walk_at "rd"
      refine ⟨T1, _, rfl, SqT.rd l3, rfl, ?_⟩
      walk_at "rd"
      refine g_shrN ?_
      rw [shr_cast]
      have hdi := Nat.lt_of_le_of_lt (Nat.div_le_self D (2 ^ i)) hD
      refine g_I (C := CMul) (.inr ⟨Int.lt_of_lt_of_le (by decide) (Int.natCast_nonneg _), by omega⟩) ?_
      rw [← Int.natCast_mul]
      exact pvl_yes nA pv s3 (range_get hi) rfl (by rw [List.length_range, sizeLine_eq]; omega)
    · rw [List.length_map] at pv
      obtain ⟨s4, l4⟩ := pvl_end (xs := List.range tb.length) (by rw [List.length_range]; exact pv)
      rw [fm_map] at l4
      refine g_sum (ns := ((List.range tb.length).map fun l => tb.getD l 0 * (D / 2 ^ l)).map (fun n : Nat => (n : Int))) (SqL.rd (l4.trans (by rw [List.map_map, List.map_map]; rfl))) int_sum ?_
      exact q _ s4
def sp_tick_of_due : PySem.W.Frag → Sp := fun K vs H Q _ => ∃ t b p, ∃ (names ws : List Str) (tb : List Nat) (D : Nat), vs = [.ref t, .ref b, .ref p, .int D] ∧ TongueAt K H t names ∧ NamesOk names ∧ H b = some (.lst (natsV tb)) ∧ H p = some (.tup (ws.map V.str)) ∧ ws.length ≤ 200 ∧ (∀ x ∈ ws, x ∈ W7) ∧ lenP names ws < tb.length ∧ tb.length ≤ 20000 ∧ D < 2 ^ 62 ∧
  ∀ H', Same H H' → Q (.int ((dba tb D : Nat) - (((tb.getD (lenP names ws) 0 : Nat) : Int) - 1 - (rankF names (chF names) tb ws : Nat) + (lgF tb (lenP names ws) D : Nat)))) H'
theorem c_tick_of_due (T : TX w K mg) : C8.Cal P w K mg base 3 "tick_of_due" (sp_tick_of_due K) [] := by
  obtain ⟨f, fd, F, b⟩ := T.d_tick_of_due
  have nd := sc_tick_of_due.nd
  refine C8.cal0 F b .nil sc_tick_of_due (fun vs H Q E h => ?_) (fun cdv A outer s H vs Q E hr h => ?_)
  · obtain ⟨t, b, p, ns, ws, tb, D, rfl, _⟩ := h
    rfl
  · obtain ⟨t, b, p, names, ws, tb, D, rfl, tg, ok, hb, hp, h200, hw, hL, htb, hD, q⟩ := h
    refine ⟨_, (pss_cons (ps_set (i := 4) nd rfl (Or.inr rfl) (C8.pe_c (c_length_in T) hr (by decide) (by rfl) (pa_cons (pv 0) (pa_cons (pv 2) pa_nil))))
    (pss_cons (ps_setLc (i := 5) rfl nd rfl rfl (sw_true rfl rfl rfl (by decide +kernel)) (pi_enum (by rfl) T.z_enumerate (pa_cons (pv 1) pa_nil)) (blkOk_by (own := [("each", 7), ("many", 8)]) (N := n_tick_of_due) (sc := defScope s_tick_of_due) (by decide +kernel)) (fun _ _ _ _ _ => (pg_2 (K := K) (i := 7) (j := 8) rfl rfl nd rfl (Or.inl rfl) (by first | exact .inl rfl | exact .inr rfl) rfl (Or.inl rfl) (by first | exact .inl rfl | exact .inr rfl) rfl rfl rfl rfl)) (fun _ _ _ _ _ => (pts_one (PW.pt (pw_and (pt_cmpR op_gt (pv 7) (pv 4) (nomark _)) (pw_and1 (pt_val (C8.pe_c (c_is_due T) hr (by decide) (by rfl) (pa_cons (pv 3) (pa_cons (pv 7) pa_nil))))))))) (fun _ _ _ _ _ => (pv 8)))
    (pss_cons (ps_set (i := 6) nd rfl (Or.inl rfl) (pe_op op_add (pe_op op_sub (pe_op op_sub (pe_ix ix_list (pv 1) (pv 4) (fun _ _ => rfl)) pe_int) (C8.pe_c (c_rank_of T) hr (by decide) (by rfl) (pa_cons (pv 0) (pa_cons (pv 1) (pa_cons (pv 2) pa_nil))))) (pe_callB (cr_sum rfl) (by rfl) T.z_sum (by decide +kernel) (pa_cons (pv 5) pa_nil))))
    (pss_one (ps_ret (pe_op op_sub (C8.pe_c (c_due_by_all T) hr (by decide) (by rfl) (pa_cons (pv 1) (pa_cons (pv 3) pa_nil))) (pv 6))))))), ?_⟩
    walk_at "st"
    walk_at "rd"
    refine ⟨t, p, names, ws, rfl, tg, ok, hp, h200, hw, fun H1 s1 => ?_⟩
    walk_at "rd"
    refine ⟨b, _, rfl, SqL.rd (s1 _ _ hb), fun A1 nA => ?_⟩
    refine lc_it walk_enum (PvL H1 A1 (fun l : Nat => if (decide (lenP names ws < l) && isDue D l) = true then some (V.int ((tb.getD l 0 : Nat) : Int)) else none) (List.range tb.length)) (pvl_start nA) (fun _ _ _ pv => SqL.rd (pv.1 _ _ (s1 _ _ hb))) (fun i x H3 H4 hi pv y => ?_) (fun H3 pv => ?_)
    · obtain ⟨T1, x, z, rfl, nT, rfl, hx1, hz1⟩ := y
      have s3 := Same.upd (o := .tup [x, z]) nT
      have l3 := upd_same (H := H3) (a := T1) (o := .tup [x, z])
      generalize upd H3 T1 (.tup [x, z]) = H4 at s3 l3
      rw [List.length_map] at hi
      have e1 : x = V.int (i : Nat) := (Option.some.inj hx1).symm
      have e2 : z = V.int (tb.getD i 0 : Nat) := Option.some.inj (hz1.symm.trans (getV hi))
      subst e1 e2
      walk_at "rd"
      refine ⟨T1, _, rfl, SqT.rd l3, rfl, ?_⟩
      walk_at "rd"
      by_cases hlt : lenP names ws < i
      · refine ifD_t (by omega) ?_
        walk_at "rd"
        refine ⟨D, i, rfl, Nat.lt_trans hD (Nat.pow_lt_pow_right (by decide) (by decide)), by omega, ?_⟩
        cases hd : isDue D i with
        | true =>
          walk_at "rd"
          exact pvl_yes nA pv s3 (range_get hi) (by rw [if_pos (by rw [decide_eq_true hlt, hd]; rfl)]) (by rw [List.length_range, sizeLine_eq]; omega)
        | false =>
          walk_at "rd"
          exact pvl_no pv s3 (range_get hi) (by rw [if_neg (by rw [hd, Bool.and_false]; exact Bool.false_ne_true)])
      · refine ifD_f (by omega) ?_
        walk_at "rd"
        exact pvl_no pv s3 (range_get hi) (by rw [if_neg (by rw [decide_eq_false hlt, Bool.false_and]; exact Bool.false_ne_true)])
    · rw [List.length_map] at pv
      obtain ⟨s4, l4⟩ := pvl_end (xs := List.range tb.length) (by rw [List.length_range]; exact pv)
      rw [fm_if] at l4
      walk_at "rd"
      refine g_ixL (SqL.rd (s4 _ _ (s1 _ _ hb))) (atI_nat (getV hL)) ?_
      walk_at "rd"
      refine ⟨t, b, p, names, ws, tb, rfl, (tg.same s1).same s4, ok, s4 _ _ (s1 _ _ hb), s4 _ _ (s1 _ _ hp), h200, hw, by omega, fun H5 s5 => ?_⟩
      walk_at "rd"
      refine g_sum (ns := (((List.range tb.length).filter fun l => decide (lenP names ws < l) && isDue D l).map fun l => tb.getD l 0).map (fun n : Nat => (n : Int))) (SqL.rd ((s5 _ _ l4).trans (by rw [List.map_map, List.map_map]; rfl))) int_sum ?_
      walk_at "rd"
      refine ⟨b, tb, D, rfl, s5 _ _ (s4 _ _ (s1 _ _ hb)), htb, hD, fun H6 s6 => ?_⟩
      walk_at "rd"
      exact q _ (((s1.trans s4).trans s5).trans s6)
end
end Dt
set_option Elab.async false
set_option linter.all false
set_option maxRecDepth 100000
set_option maxHeartbeats 4000000
namespace Dt
open PySem PySem.Spec L2
local macro_rules | `(tactic| walk_at "st") => `(tactic| (simp only [L2.start, List.map_cons, List.map_nil, List.length_cons, List.length_nil, List.replicate_succ, List.replicate_zero, List.cons_append, List.nil_append, Nat.zero_add, Nat.reduceAdd, Nat.reduceSub]))
local macro_rules | `(tactic| walk_at "r1") => `(tactic| with_reducible first
  | refine g_seq ?_
  | refine g_next ?_
  | refine g_asg ?_
  | refine g_ifS ?_
  | refine g_ret ?_
  | refine g_retN ?_
  | refine g_drop ?_
  | refine g_brk ?_
  | refine g_c ?_
  | refine g_op ?_
  | refine g_un ?_
  | refine g_I0 ?_
  | refine g_U ?_
  | refine g_eqI ?_
  | refine g_neI ?_
  | refine g_eqS ?_
  | refine g_neS ?_
  | refine g_test ?_
  | refine g_B ?_
  | refine g_bl ?_
  | refine g_if ?_
  | refine g_not ?_
  | refine g_and ?_
  | refine g_or ?_
  | refine g_andV ?_
  | refine g_orV ?_
  | refine g_notV ?_
  | refine g_blif ?_
  | refine g_chain ?_
  | refine g_nil ?_
  | refine g_cons ?_
  | refine g_cb ?_
  | refine g_call ?_
  | refine g_tup ?_
  | refine g_lst ?_
  | refine g_tfld ?_
  | refine g_dget ?_
  | refine g_mk ?_
  | refine g_lc2 ?_
  | refine g_gfld ?_
  | refine g_meth ?_
  | refine g_sfld ?_
  | refine g_din ?_
  | refine g_dput ?_
  | refine g_isN_int ?_
  | refine g_isN_str ?_
  | refine g_isN_ref ?_
  | refine g_isN_non ?_
  | refine g_nN_int ?_
  | refine g_nN_str ?_
  | refine g_nN_ref ?_
  | refine g_nN_non ?_
  | refine g_lc ?_
  | refine g_dc ?_
  | refine g_for ?_
  | refine g_iStr ?_
  | refine g_iList ?_
  | refine g_iTup ?_
  | refine g_iR1 ?_
  | refine g_iR2 ?_
  | refine g_iR3 ?_
  | refine g_iEnum ?_
  | refine g_iZip ?_
  | refine g_iZipA ?_
  | refine g_bm ?_
  | refine g_bm0 ?_
  | refine g_m1 ?_
  | refine g_sl ?_
  | refine g_poN ?_
  | refine g_poS ?_
  | refine g_poI ?_
  | refine g_yes ?_
  | refine g_gtup ?_
  | refine g_gcons ?_
  | refine g_gnil ?_
  | refine g_par ?_
  | refine g_isi_ii ?_
  | refine g_isi_ib ?_
  | refine g_isi_ss ?_
  | refine g_inC ?_
  | refine g_int1 ?_
  | refine g_int1b ?_
  | refine g_abs ?_
  | refine g_ltS ?_
  | refine iteT ?_
  | refine iteNT ?_
  | refine iteNF ?_
  | refine iteF ?_)
local macro_rules | `(tactic| walk_at "sd") => `(tactic| first | assumption | rfl | decide | omega)
local macro_rules | `(tactic| walk_at "hp") => `(tactic| first | assumption | exact upd_same | exact Same.get (by assumption) (by walk_at "hp") | exact Off.get (by assumption) (by walk_at "hp") (by walk_at "ne"))
local macro_rules | `(tactic| walk_at "ne") => `(tactic| first | assumption | (refine Ne.symm ?_; assumption) | exact ne_of_none (by walk_at "hp") (by assumption) | exact ne_none (by walk_at "hp") (by assumption) | exact ne_of (by walk_at "hp") (by walk_at "hp") (by intro z; cases z))
local macro_rules | `(tactic| walk_at "sq") => `(tactic| first | assumption | exact SqL.rd (by walk_at "hp") | exact SqT.rd (by walk_at "hp") | exact Same.seq (by assumption) (by walk_at "sq") | exact Same.seqT (by assumption) (by walk_at "sq"))
local macro_rules | `(tactic| walk_at "rI") => `(tactic| ((with_reducible refine g_I ?_ ?_); (focus (first | (refine Or.inl ⟨?_, ?_⟩ <;> (first | decide | omega)) | (refine Or.inr ⟨?_, ?_⟩ <;> (first | decide | omega)) | (show (0 : Int) < _; first | decide | omega | assumption) | (refine And.intro ?_ ?_ <;> (first | decide | omega | (refine And.intro ?_ ?_ <;> (first | decide | omega))))))))
local macro_rules | `(tactic| walk_at "r2") => `(tactic| first
  | ((with_reducible refine g_tvar ?_); (refine ⟨_, rfl, ?_⟩))
  | ((with_reducible refine g_name' (σ' := ?s) ?e ?h); (case e => (simp only [wipe, List.set_cons_zero, List.set_cons_succ]; first | done | rfl)))
  | (refine And.intro (show wipe _ _ = wipe _ _ from rfl) ?_)
  | walk_at "rI")
local macro_rules | `(tactic| walk_at "rd") => `(tactic| repeat (first | walk_at "r1" | walk_at "r2"))
local macro_rules | `(tactic| walk_at "gn") => `(tactic| (intro pA hA; generalize hG : upd _ _ _ = H2A; (have sA : Same _ H2A := hG ▸ Same.upd hA); (have lA : H2A pA = some _ := hG ▸ upd_same); clear hG))
local macro_rules | `(tactic| walk_at "mk") => `(tactic| (intro xM dxM h1M h2M hneM; generalize hG : upd (upd _ _ _) _ _ = HM; (have sM : Same _ HM := hG ▸ Same.updW (Same.upd h2M) h1M); (have lM : HM xM = some _ := hG ▸ upd_same); clear hG))
theorem sum_le {α : Type} {f g : α → Nat} : ∀ {l : List α}, (∀ x ∈ l, f x ≤ g x) → (l.map f).sum ≤ (l.map g).sum
  | [], _ => Nat.le_refl _
  | a :: l, h => by
    rw [List.map_cons, List.map_cons, List.sum_cons, List.sum_cons]
    exact Nat.add_le_add (h a (.head _)) (sum_le fun x hx => h x (.tail _ hx))
theorem dba_mono {tb : List Nat} {x y : Nat} (h : x ≤ y) : dba tb x ≤ dba tb y := sum_le fun l _ => Nat.mul_le_mul_left _ (Nat.div_le_div_right h)
theorem sdF_succ {tb : List Nat} {D n : Nat} : sdF tb D (n + 1) = sdF tb D n + if isDue D n = true then tb.getD n 0 else 0 := by
  unfold sdF
  rw [List.range_succ, List.filter_append, List.map_append, List.sum_append]
  cases h : isDue D n with
  | true => simp [h]
  | false => simp [h]
theorem sdF_mono {tb : List Nat} {D m n : Nat} (h : m ≤ n) : sdF tb D m ≤ sdF tb D n := by
  induction n with
  | zero => rw [Nat.le_zero.mp h]; exact Nat.le_refl _
  | succ n ih =>
    by_cases e : m = n + 1
    · rw [e]; exact Nat.le_refl _
    · rw [sdF_succ]
      have := ih (by omega)
      omega
theorem lt_bitL {D L : Nat} (h : 2 ^ L ≤ D) : L < bitL D := by
  have h1 := Nat.lt_of_le_of_lt h (bitL_lt (D := D))
  exact (Nat.pow_lt_pow_iff_right (by decide)).mp h1
abbrev endLen (names : List Str) : Nat := (names.getD 7 Str.empty).length
theorem endLen_le {names : List Str} (ok : NamesOk names) : 1 ≤ endLen names ∧ endLen names ≤ 8 := by
  have e := names_split ok.len
  have hm : names.getD 7 Str.empty ∈ names := by
    rw [e]
    exact List.mem_append_right _ (by rw [← e]; exact .head _)
  exact ⟨ok.lo _ hm, ok.hi _ hm⟩
section
variable {P : Program} {w : World} {K : PySem.W.Frag} {mg : Str → Option Value} {base : Heap}
/-- the table that the search looks at -/
abbrev bigT (names : List Str) (tick : Nat) : List Nat := tblN names (bitL (tick * 2 ^ endLen names) + 1)
def sp_search_of : PySem.W.Frag → Sp := fun K vs H Q _ => ∃ t, ∃ (names : List Str) (tick D : Nat), vs = [.ref t, .int tick] ∧ TongueAt K H t names ∧ NamesOk names ∧ tick < 2 ^ 15 ∧ 1 ≤ D ∧ D ≤ tick * 2 ^ endLen names ∧ tick ≤ dba (bigT names tick) D ∧ (∀ x, x < D → dba (bigT names tick) x < tick) ∧
  ∀ a b H', Same H H' → H' a = some (.tup [.int D, .ref b]) → H' b = some (.lst (natsV ((bigT names tick).take (bitL D)))) → Q (.ref a) H'
theorem c_search_of (T : TX w K mg) : C8.Cal P w K mg base 3 "search_of" (sp_search_of K) [] := by
  obtain ⟨f, fd, F, b⟩ := T.d_search_of
  have nd := sc_search_of.nd
  refine C8.cal0 F b .nil sc_search_of (fun vs H Q E h => ?_) (fun cdv A outer s H vs Q E hr h => ?_)
  · obtain ⟨t, ns, tick, D, rfl, _⟩ := h
    rfl
  · obtain ⟨t, names, tick, D, rfl, tg, ok, ht, hD1, hD2, hge, hlt, q⟩ := h
    have el := endLen_le ok
    have el2 : (names.getD 7 Str.empty).length ≤ 8 := el.2
    have hp8 : 2 ^ endLen names ≤ 2 ^ 8 := Nat.pow_le_pow_right (by decide) el.2
    have hhi : tick * 2 ^ endLen names < 2 ^ 23 := by
      have h1 : tick * 2 ^ endLen names ≤ tick * 2 ^ 8 := Nat.mul_le_mul_left _ hp8
      omega
    have hbl : bitL (tick * 2 ^ endLen names) ≤ 23 := bitL_le hhi
    have tg2 := tg
    obtain ⟨dx, nt, hto, hnt⟩ := tg2
    refine ⟨_, (pss_cons (ps_par (i := 3) (j := 4) rfl nd rfl rfl (by decide) rfl rfl (pa_cons pe_int (pa_cons (pe_op ko_shl (pv 1) (pe_callB kc_lenS (by rfl) T.z_len (by decide +kernel) (pa_cons (pe_ix ix_tup (pe_fld (pv 0) rfl) (pe_un un_neg pe_int) (fun _ _ => rfl)) pa_nil))) pa_nil)) (by rfl))
    (pss_cons (ps_set (i := 2) nd rfl (Or.inl rfl) (C8.pe_c (c_table_of T) hr (by decide) (by rfl) (pa_cons (pv 0) (pa_cons (pe_bits (pv 4)) pa_nil))))
    (pss_cons (ps_while PassesOwn.never (pt_cmpR op_lt (pv 3) (pv 4) (nomark _))
      (pss_cons (ps_set (i := 5) nd rfl (Or.inl rfl) (pe_op op_fdiv (pe_op op_add (pv 3) (pv 4)) pe_int))
      (pss_one (ps_if (pt_cmpR op_ge (C8.pe_c (c_due_by_all T) hr (by decide) (by rfl) (pa_cons (pv 2) (pa_cons (pv 5) pa_nil))) (pv 1) (nomark _))
        (pss_one (ps_set (i := 4) nd rfl (Or.inl rfl) (pv 5)))
        (pss_one (ps_set (i := 3) nd rfl (Or.inl rfl) (pe_op op_add (pv 5) pe_int)))))))
    (pss_one (ps_ret (pe_tup (pa_cons (pv 3) (pa_cons (pe_slice sl_list (pv 2) po_none (po_some (pe_bits (pv 3)))) pa_nil)))))))), ?_⟩
    walk_at "st"
    walk_at "rd"
    refine g_fl (v := .ref nt) hto T.cl_Tongue T.n_Tongue_names (by kernel_rfl) ?_
    walk_at "rd"
    refine g_ixT (SqT.rd hnt) (v := .str (names.getD 7 Str.empty)) ?_ ?_
    · have e := names_split ok.len
      have e2 : names.map V.str = (names.take 7).map V.str ++ [V.str (names.getD 7 Str.empty)] := by
        conv => lhs; rw [e]
        rw [List.map_append]
        rfl
      rw [e2]
      exact atI_last _ _
    walk_at "rd"
    refine g_lenS (by rw [sizeLine_eq]; omega) ?_
    refine g_shlN (shl_ok (n := 15) (by rw [Int.natAbs_natCast]; exact ht) (by omega)) ?_
    rw [shl_cast]
    walk_at "rd"
    refine ⟨_, _, rfl, ?_⟩
    walk_at "rd"
    unfold tBits
    walk_at "rd"
    refine ⟨t, names, bitL (tick * 2 ^ endLen names), rfl, tg, ok, by omega, fun l H1 s1 l1 nl => ?_⟩
    refine g_while ⟨fun m σ H' => Same H1 H' ∧ ∃ x, ∃ lo hi : Nat, σ = [some (.ref t), some (.int tick), some (.ref l), some (.int lo), some (.int hi), x] ∧ lo ≤ D ∧ D ≤ hi ∧ hi ≤ tick * 2 ^ endLen names ∧ 1 ≤ lo ∧ m = hi - lo, ⟨_, Same.refl _, _, 1, _, rfl, hD1, hD2, Nat.le_refl _, Nat.le_refl _, rfl⟩, fun m σ H2 hw => ?_⟩
    obtain ⟨s2, x, lo, hi, rfl, h1, h2, h3, h4, rfl⟩ := hw
    walk_at "rd"
    by_cases hc : lo < hi
    · refine ifD_t (by omega) ?_
      refine ⟨fun σ H' => ∃ m', m' < hi - lo ∧ (Same H1 H' ∧ ∃ x, ∃ lo hi : Nat, σ = [some (.ref t), some (.int tick), some (.ref l), some (.int lo), some (.int hi), x] ∧ lo ≤ D ∧ D ≤ hi ∧ hi ≤ tick * 2 ^ endLen names ∧ 1 ≤ lo ∧ m' = hi - lo), fun σ' H' h => h, ?_⟩
      walk_at "rd"
      have em : ((lo : Int) + (hi : Int)) / 2 = (((lo + hi) / 2 : Nat) : Int) := by omega
      rw [em]
      refine ⟨l, _, (lo + hi) / 2, rfl, s2 _ _ l1, by rw [tblN_len]; omega, by omega, fun H3 s3 => ?_⟩
      walk_at "rd"
      by_cases hg : tick ≤ dba (bigT names tick) ((lo + hi) / 2)
      · refine ifD_t (Int.ofNat_le.mpr hg) ?_
        walk_at "rd"
        refine ⟨(lo + hi) / 2 - lo, by omega, s2.trans s3, _, lo, (lo + hi) / 2, rfl, h1, ?_, by omega, h4, rfl⟩
        refine Decidable.byContradiction fun z => ?_
        have := hlt ((lo + hi) / 2) (by omega)
        omega
      · refine ifD_f (fun z => hg (Int.ofNat_le.mp z)) ?_
        walk_at "rd"
        rw [show (((lo + hi) / 2 : Nat) : Int) + 1 = (((lo + hi) / 2 + 1 : Nat) : Int) by omega]
        refine ⟨hi - ((lo + hi) / 2 + 1), by omega, s2.trans s3, _, (lo + hi) / 2 + 1, hi, rfl, ?_, h2, h3, by omega, rfl⟩
        refine Decidable.byContradiction fun z => ?_
        have := dba_mono (tb := bigT names tick) (x := D) (y := (lo + hi) / 2) (by omega)
        omega
    · refine ifD_f (by omega) ?_
      have e1 : lo = D := by omega
      subst e1
      walk_at "rd"
      refine ⟨l, _, rfl, SqL.rd (s2 _ _ l1), fun b nb => ?_⟩
      have hcut : cutV (natsV (bigT names tick)) none (some ((bitL lo : Nat) : Int)) = natsV ((bigT names tick).take (bitL lo)) := by
        rw [cutV_to]
        exact List.map_take.symm
      have s3 := Same.upd (o := .lst (cutV (natsV (bigT names tick)) none (some ((bitL lo : Nat) : Int)))) nb
      have l3 := upd_same (H := H2) (a := b) (o := .lst (cutV (natsV (bigT names tick)) none (some ((bitL lo : Nat) : Int))))
      rw [hcut] at l3
      show tNil _ (upd H2 b (.lst (cutV (natsV (bigT names tick)) none (some ((bitL lo : Nat) : Int))))) _
      rw [hcut] at s3 ⊢
      generalize upd H2 b (.lst (natsV ((bigT names tick).take (bitL lo)))) = H3 at s3 l3
      walk_at "rd"
      refine ⟨show (2 : Nat) ≤ sizeLine by decide, fun a na => ?_⟩
      exact q a b _ (((s1.trans s2).trans s3).trans (Same.upd na)) upd_same (Same.upd na _ _ l3)
def sp_tick_in : PySem.W.Frag → Sp := fun K vs H Q _ => ∃ t p, ∃ (names ws : List Str) (step : Nat), vs = [.ref t, .ref p, .int step] ∧ TongueAt K H t names ∧ NamesOk names ∧ H p = some (.tup (ws.map V.str)) ∧ ws.length ≤ 200 ∧ (∀ x ∈ ws, x ∈ W7) ∧ 1 ≤ step ∧ step * 2 ^ lenP names ws < 2 ^ 30 ∧
  ∀ H', Same H H' → Q (.int ((dba (tblN names (bitL (step * 2 ^ lenP names ws) + 1)) (step * 2 ^ lenP names ws) : Nat) - ((((tblN names (bitL (step * 2 ^ lenP names ws) + 1)).getD (lenP names ws) 0 : Nat) : Int) - 1 - (rankF names (chF names) (tblN names (bitL (step * 2 ^ lenP names ws) + 1)) ws : Nat) + (lgF (tblN names (bitL (step * 2 ^ lenP names ws) + 1)) (lenP names ws) (step * 2 ^ lenP names ws) : Nat)))) H'
theorem c_tick_in (T : TX w K mg) : C8.Cal P w K mg base 4 "tick_in" (sp_tick_in K) [] := by
  obtain ⟨f, fd, F, b⟩ := T.d_tick_in
  have nd := sc_tick_in.nd
  refine C8.cal0 F b .nil sc_tick_in (fun vs H Q E h => ?_) (fun cdv A outer s H vs Q E hr h => ?_)
  · obtain ⟨t, p, ns, ws, st, rfl, _⟩ := h
    rfl
  · obtain ⟨t, p, names, ws, step, rfl, tg, ok, hp, h200, hw, h1, hD, q⟩ := h
    have hL : 2 ^ lenP names ws ≤ step * 2 ^ lenP names ws := Nat.le_mul_of_pos_left _ h1
    have hbl : bitL (step * 2 ^ lenP names ws) ≤ 30 := bitL_le hD
    have hlb := lt_bitL hL
    have hst : step < 2 ^ 30 := Nat.lt_of_le_of_lt (Nat.le_mul_of_pos_right _ (Nat.two_pow_pos _)) hD
    refine ⟨_, (pss_cons (ps_expr (C8.pe_c (c_need_tongue T) hr (by decide) (by rfl) (pa_cons (pv 0) pa_nil)))
    (pss_cons (ps_set (i := 3) nd rfl (Or.inl rfl) (C8.pe_c (c_need_program T) hr (by decide) (by rfl) (pa_cons (pv 1) pa_nil)))
    (pss_cons (ps_expr (C8.pe_c (c_need_number T) hr (by decide) (by rfl) (pa_cons (pv 2) (pa_cons pe_str (pa_cons pe_int (pa_cons (C8.pe_gc (by rfl) T.g_MOST_STEP) pa_nil))))))
    (pss_cons (ps_set (i := 4) nd rfl (Or.inl rfl) (pe_op ko_shl (pv 2) (C8.pe_c (c_length_in T) hr (by decide) (by rfl) (pa_cons (pv 0) (pa_cons (pv 3) pa_nil)))))
    (pss_cons (ps_if (pt_cmpR op_gt (pv 4) (C8.pe_gc (by rfl) T.g_MOST_DUE) (nomark _))
      (pss_one ps_never)
      pss_nil)
    (pss_one (ps_ret (C8.pe_c (c_tick_of_due T) hr (by decide) (by rfl) (pa_cons (pv 0) (pa_cons (C8.pe_c (c_table_of T) hr (by decide) (by rfl) (pa_cons (pv 0) (pa_cons (pe_bits (pv 4)) pa_nil))) (pa_cons (pv 3) (pa_cons (pv 4) pa_nil)))))))))))), ?_⟩
    walk_at "st"
    walk_at "rd"
    refine ⟨t, names, rfl, tg, ?_⟩
    walk_at "rd"
    refine ⟨p, ws, rfl, hp, h200, hw, fun H1 s1 => ?_⟩
    walk_at "rd"
    refine ⟨_, _, _, _, rfl, by omega, by omega, ?_⟩
    walk_at "rd"
    refine ⟨t, p, names, ws, rfl, tg.same s1, ok, s1 _ _ hp, h200, hw, fun H2 s2 => ?_⟩
    refine g_shlN (shl_ok (n := 30) (by rw [Int.natAbs_natCast]; exact hst) (by omega)) ?_
    rw [shl_cast]
    generalize hDD : step * 2 ^ lenP names ws = D at hD hL hbl hlb q ⊢
    walk_at "rd"
    refine ifD_f (by omega) ?_
    walk_at "rd"
    unfold tBits
    walk_at "rd"
    refine ⟨t, names, bitL D, rfl, (tg.same s1).same s2, ok, by omega, fun l H3 s3 l3 nl => ?_⟩
    walk_at "rd"
    have s13 := (s1.trans s2).trans s3
    refine ⟨t, l, p, names, ws, _, D, rfl, tg.same s13, ok, l3, s13 _ _ hp, h200, hw, by rw [tblN_len]; omega, by rw [tblN_len]; omega, by omega, fun H4 s4 => ?_⟩
    exact q H4 (s13.trans s4)
def sp_pair_in : PySem.W.Frag → Sp := fun K vs H Q _ => ∃ t, ∃ (names p : List Str) (tick D L i : Nat), vs = [.ref t, .int tick] ∧ TongueAt K H t names ∧ NamesOk names ∧ 1 ≤ tick ∧ tick < 2 ^ 15 ∧ 1 ≤ D ∧ D ≤ tick * 2 ^ endLen names ∧ tick ≤ dba (bigT names tick) D ∧ (∀ x, x < D → dba (bigT names tick) x < tick) ∧
  (∀ tb, tb = (bigT names tick).take (bitL D) → isDue D L = true ∧ L < tb.length ∧ tick = dba tb (D - 1) + 1 + (sdF tb D L + i) ∧ i < tb.getD L 0 ∧ (∀ l, l < L → tb.getD l 0 = (rows (chF names) l).length)) ∧ (rows (chF names) L)[i]? = some p ∧
  ∀ a b H', Same H H' → H' a = some (.tup [.ref b, .int ((D / 2 ^ L : Nat) : Int)]) → H' b = some (.tup (p.map V.str)) → Q (.ref a) H'
theorem c_pair_in (T : TX w K mg) : C8.Cal P w K mg base 4 "pair_in" (sp_pair_in K) [] := by
  obtain ⟨f, fd, F, b⟩ := T.d_pair_in
  have nd := sc_pair_in.nd
  refine C8.cal0 F b .nil sc_pair_in (fun vs H Q E h => ?_) (fun cdv A outer s H vs Q E hr h => ?_)
  · obtain ⟨t, ns, p, tick, D, L, i, rfl, _⟩ := h
    rfl
  · obtain ⟨t, names, p, tick, D, L, i, rfl, tg, ok, ht1, ht, hD1, hD2, hge, hlt, htb, hrw, q⟩ := h
    obtain ⟨hdue, hL, hrank, hi, hrows⟩ := htb _ rfl
    have el := endLen_le ok
    have hp8 : 2 ^ endLen names ≤ 2 ^ 8 := Nat.pow_le_pow_right (by decide) el.2
    have hhi : D < 2 ^ 23 := by
      have h1 : tick * 2 ^ endLen names ≤ tick * 2 ^ 8 := Nat.mul_le_mul_left _ hp8
      omega
    have hbl : bitL D ≤ 23 := bitL_le hhi
    have htl : ((bigT names tick).take (bitL D)).length ≤ 23 := by rw [List.length_take]; omega
    refine ⟨_, (pss_cons (ps_expr (C8.pe_c (c_need_tongue T) hr (by decide) (by rfl) (pa_cons (pv 0) pa_nil)))
    (pss_cons (ps_expr (C8.pe_c (c_need_number T) hr (by decide) (by rfl) (pa_cons (pv 1) (pa_cons pe_str (pa_cons pe_int (pa_cons (C8.pe_gc (by rfl) T.g_MOST_STEP) pa_nil))))))
    (pss_cons (ps_asg (C8.pe_c (c_search_of T) hr (by decide) (by rfl) (pa_cons (pv 0) (pa_cons (pv 1) pa_nil))) (pg_2 (K := K) (i := 4) (j := 5) rfl rfl nd rfl (Or.inl rfl) (by first | exact .inl rfl | exact .inr rfl) rfl (Or.inl rfl) (by first | exact .inl rfl | exact .inr rfl) rfl rfl rfl rfl))
    (pss_cons (ps_set (i := 2) nd rfl (Or.inl rfl) (pe_op op_sub (pe_op op_sub (pv 1) (C8.pe_c (c_due_by_all T) hr (by decide) (by rfl) (pa_cons (pv 5) (pa_cons (pe_op op_sub (pv 4) pe_int) pa_nil)))) pe_int))
    (pss_cons (ps_set (i := 3) nd rfl (Or.inl rfl) pe_int)
    (pss_cons (ps_for PassesOwn.never rfl (pi_enum (by rfl) T.z_enumerate (pa_cons (pv 5) pa_nil)) (pg_2 (K := K) (i := 6) (j := 7) rfl rfl nd rfl (Or.inl rfl) (by first | exact .inl rfl | exact .inr rfl) rfl (Or.inl rfl) (by first | exact .inl rfl | exact .inr rfl) rfl rfl rfl rfl)
      (pss_one (ps_if (pt_val (C8.pe_c (c_is_due T) hr (by decide) (by rfl) (pa_cons (pv 4) (pa_cons (pv 6) pa_nil))))
        (pss_cons (ps_set (i := 3) nd rfl (Or.inl rfl) (pv 6))
        (pss_cons (ps_if (pt_cmpR op_lt (pv 2) (pv 7) (nomark _))
          (pss_one ps_break)
          pss_nil)
        (pss_one (ps_set (i := 2) nd rfl (Or.inl rfl) (pe_op op_sub (pv 2) (pv 7))))))
        pss_nil)))
    (pss_one (ps_ret (pe_tup (pa_cons (C8.pe_c (c_ranked T) hr (by decide) (by rfl) (pa_cons (pv 0) (pa_cons (pv 5) (pa_cons (pv 3) (pa_cons (pv 2) pa_nil))))) (pa_cons (pe_op ko_shr (pv 4) (pv 3)) pa_nil))))))))))), ?_⟩
    walk_at "st"
    walk_at "rd"
    refine ⟨t, names, rfl, tg, ?_⟩
    walk_at "rd"
    refine ⟨_, _, _, _, rfl, by omega, by omega, ?_⟩
    walk_at "rd"
    refine ⟨t, names, tick, D, rfl, tg, ok, ht, hD1, hD2, hge, hlt, fun a b H1 s1 la lb => ?_⟩
    generalize (bigT names tick).take (bitL D) = tb at hL hrank hi hrows htl lb
    walk_at "rd"
    refine ⟨a, _, rfl, SqT.rd la, rfl, ?_⟩
    walk_at "rd"
    refine ⟨b, tb, D - 1, ?_, lb, by omega, by omega, fun H2 s2 => ?_⟩
    · show [V.ref b, V.int ((D : Int) - 1)] = _
      rw [show (D : Int) - 1 = ((D - 1 : Nat) : Int) by omega]
    walk_at "rd"
    rw [show (tick : Int) - (dba tb (D - 1) : Nat) - 1 = ((sdF tb D L + i : Nat) : Int) by omega]
    have s02 := s1.trans s2
    refine ⟨b, _, rfl, SqL.rd (s2 _ _ lb), ?_⟩
    refine for_it walk_enum (fun j σ H' => Same H2 H' ∧ j ≤ L ∧ ∃ x y z, ∃ r : Nat, σ = [some (.ref t), some (.int tick), some (.int r), x, some (.int D), some (.ref b), y, z] ∧ r + sdF tb D j = sdF tb D L + i) ⟨Same.refl _, Nat.zero_le _, _, _, _, _, rfl, rfl⟩ (fun _ _ _ _ pv => SqL.rd (pv.1 _ _ (s2 _ _ lb))) (fun j x σ H3 H4 hj pv y => ?_) (fun σ H3 pv => ?_)
    · obtain ⟨s3, hjL, x0, y0, z0, r, rfl, hr⟩ := pv
      obtain ⟨T1, x, z, rfl, nT, rfl, hx1, hz1⟩ := y
      have s4 := Same.upd (o := .tup [x, z]) nT
      have l4 := upd_same (H := H3) (a := T1) (o := .tup [x, z])
      generalize upd H3 T1 (.tup [x, z]) = H4 at s4 l4
      rw [List.length_map] at hj
      have e1 : x = V.int (j : Nat) := (Option.some.inj hx1).symm
      have e2 : z = V.int (tb.getD j 0 : Nat) := Option.some.inj (hz1.symm.trans (getV hj))
      subst e1 e2
      walk_at "rd"
      refine ⟨T1, _, rfl, SqT.rd l4, rfl, ?_⟩
      walk_at "rd"
      refine ⟨D, j, rfl, by omega, by omega, ?_⟩
      have hsd := sdF_succ (tb := tb) (D := D) (n := j)
      have hmono : j < L → sdF tb D (j + 1) ≤ sdF tb D L := fun h => sdF_mono h
      by_cases hjl : j = L
      · subst hjl
        rw [hdue]
        walk_at "rd"
        refine ifD_t (by omega) ?_
        walk_at "rd"
        have s5 := (s02.trans s3).trans s4
        have hr2 : r = i := by omega
        subst hr2
        refine ⟨t, b, names, p, tb, j, r, rfl, tg.same s5, ok, s4 _ _ (s3 _ _ (s2 _ _ lb)), by omega, by omega, hrows, hrw, fun pa H5 s6 lp => ?_⟩
        walk_at "rd"
        refine g_shrN ?_
        rw [shr_cast]
        walk_at "rd"
        refine ⟨show (2 : Nat) ≤ sizeLine by decide, fun ra nra => ?_⟩
        exact q ra pa _ ((s5.trans s6).trans (Same.upd nra)) upd_same (Same.upd nra _ _ lp)
      · have hm := hmono (by omega)
        cases hd : isDue D j with
        | true =>
          rw [hd, if_pos rfl] at hsd
          walk_at "rd"
          refine ifD_f (by omega) ?_
          walk_at "rd"
          rw [show (r : Int) - (tb.getD j 0 : Nat) = ((r - tb.getD j 0 : Nat) : Int) by omega]
          exact ⟨s3.trans s4, by omega, _, _, _, _, rfl, by omega⟩
        | false =>
          rw [hd, if_neg Bool.false_ne_true] at hsd
          walk_at "rd"
          exact ⟨s3.trans s4, by omega, _, _, _, r, rfl, by omega⟩
    · exfalso
      obtain ⟨s3, hjL, _⟩ := pv
      rw [List.length_map] at hjL
      omega
end
end Dt
set_option Elab.async false
set_option linter.all false
set_option maxRecDepth 100000
set_option maxHeartbeats 4000000
namespace Dt
open PySem PySem.Spec L2
local macro_rules | `(tactic| walk_at "st") => `(tactic| (simp only [L2.start, List.map_cons, List.map_nil, List.length_cons, List.length_nil, List.replicate_succ, List.replicate_zero, List.cons_append, List.nil_append, Nat.zero_add, Nat.reduceAdd, Nat.reduceSub]))
local macro_rules | `(tactic| walk_at "r1") => `(tactic| with_reducible first
  | refine g_seq ?_
  | refine g_next ?_
  | refine g_asg ?_
  | refine g_ifS ?_
  | refine g_ret ?_
  | refine g_retN ?_
  | refine g_drop ?_
  | refine g_brk ?_
  | refine g_c ?_
  | refine g_op ?_
  | refine g_un ?_
  | refine g_I0 ?_
  | refine g_U ?_
  | refine g_eqI ?_
  | refine g_neI ?_
  | refine g_eqS ?_
  | refine g_neS ?_
  | refine g_test ?_
  | refine g_B ?_
  | refine g_bl ?_
  | refine g_if ?_
  | refine g_not ?_
  | refine g_and ?_
  | refine g_or ?_
  | refine g_andV ?_
  | refine g_orV ?_
  | refine g_notV ?_
  | refine g_blif ?_
  | refine g_chain ?_
  | refine g_nil ?_
  | refine g_cons ?_
  | refine g_cb ?_
  | refine g_call ?_
  | refine g_tup ?_
  | refine g_lst ?_
  | refine g_tfld ?_
  | refine g_dget ?_
  | refine g_mk ?_
  | refine g_lc2 ?_
  | refine g_gfld ?_
  | refine g_meth ?_
  | refine g_sfld ?_
  | refine g_din ?_
  | refine g_dput ?_
  | refine g_isN_int ?_
  | refine g_isN_str ?_
  | refine g_isN_ref ?_
  | refine g_isN_non ?_
  | refine g_nN_int ?_
  | refine g_nN_str ?_
  | refine g_nN_ref ?_
  | refine g_nN_non ?_
  | refine g_lc ?_
  | refine g_dc ?_
  | refine g_for ?_
  | refine g_iStr ?_
  | refine g_iList ?_
  | refine g_iTup ?_
  | refine g_iR1 ?_
  | refine g_iR2 ?_
  | refine g_iR3 ?_
  | refine g_iEnum ?_
  | refine g_iZip ?_
  | refine g_iZipA ?_
  | refine g_bm ?_
  | refine g_bm0 ?_
  | refine g_m1 ?_
  | refine g_sl ?_
  | refine g_poN ?_
  | refine g_poS ?_
  | refine g_poI ?_
  | refine g_yes ?_
  | refine g_gtup ?_
  | refine g_gcons ?_
  | refine g_gnil ?_
  | refine g_par ?_
  | refine g_isi_ii ?_
  | refine g_isi_ib ?_
  | refine g_isi_ss ?_
  | refine g_inC ?_
  | refine g_int1 ?_
  | refine g_int1b ?_
  | refine g_abs ?_
  | refine g_ltS ?_
  | refine iteT ?_
  | refine iteNT ?_
  | refine iteNF ?_
  | refine iteF ?_)
local macro_rules | `(tactic| walk_at "sd") => `(tactic| first | assumption | rfl | decide | omega)
local macro_rules | `(tactic| walk_at "hp") => `(tactic| first | assumption | exact upd_same | exact Same.get (by assumption) (by walk_at "hp") | exact Off.get (by assumption) (by walk_at "hp") (by walk_at "ne"))
local macro_rules | `(tactic| walk_at "ne") => `(tactic| first | assumption | (refine Ne.symm ?_; assumption) | exact ne_of_none (by walk_at "hp") (by assumption) | exact ne_none (by walk_at "hp") (by assumption) | exact ne_of (by walk_at "hp") (by walk_at "hp") (by intro z; cases z))
local macro_rules | `(tactic| walk_at "sq") => `(tactic| first | assumption | exact SqL.rd (by walk_at "hp") | exact SqT.rd (by walk_at "hp") | exact Same.seq (by assumption) (by walk_at "sq") | exact Same.seqT (by assumption) (by walk_at "sq"))
local macro_rules | `(tactic| walk_at "rI") => `(tactic| ((with_reducible refine g_I ?_ ?_); (focus (first | (refine Or.inl ⟨?_, ?_⟩ <;> (first | decide | omega)) | (refine Or.inr ⟨?_, ?_⟩ <;> (first | decide | omega)) | (show (0 : Int) < _; first | decide | omega | assumption) | (refine And.intro ?_ ?_ <;> (first | decide | omega | (refine And.intro ?_ ?_ <;> (first | decide | omega))))))))
local macro_rules | `(tactic| walk_at "r2") => `(tactic| first
  | ((with_reducible refine g_tvar ?_); (refine ⟨_, rfl, ?_⟩))
  | ((with_reducible refine g_name' (σ' := ?s) ?e ?h); (case e => (simp only [wipe, List.set_cons_zero, List.set_cons_succ]; first | done | rfl)))
  | (refine And.intro (show wipe _ _ = wipe _ _ from rfl) ?_)
  | walk_at "rI")
local macro_rules | `(tactic| walk_at "rd") => `(tactic| repeat (first | walk_at "r1" | walk_at "r2"))
local macro_rules | `(tactic| walk_at "gn") => `(tactic| (intro pA hA; generalize hG : upd _ _ _ = H2A; (have sA : Same _ H2A := hG ▸ Same.upd hA); (have lA : H2A pA = some _ := hG ▸ upd_same); clear hG))
local macro_rules | `(tactic| walk_at "mk") => `(tactic| (intro xM dxM h1M h2M hneM; generalize hG : upd (upd _ _ _) _ _ = HM; (have sM : Same _ HM := hG ▸ Same.updW (Same.upd h2M) h1M); (have lM : HM xM = some _ := hG ▸ upd_same); clear hG))
theorem ins_ne {H : Hp} {a b C C' dx dx' : Addr} {fs fs' : List (Str × V)} (h : H a = some (.ins C dx fs)) (h' : H b = some (.ins C' dx' fs')) (n : fs.length ≠ fs'.length) : a ≠ b := by
  intro e
  subst e
  rw [h] at h'
  injection h' with h'
  injection h' with _ _ h'
  exact n (by rw [h'])
/-- all but two objects are as they were -/
def Off2 (l m : Addr) (H H' : Hp) : Prop := ∀ b o, H b = some o → b ≠ l → b ≠ m → H' b = some o
/-- a trial's object, behind n steps -/
def TrAt (K : PySem.W.Frag) (H : Hp) (ta ra pa z : Addr) (p : List Str) (cost : Nat) (right : Int → Bool) (g : Int) (n : Nat) : Prop :=
  (∃ dx, H ta = some (.ins (He.ga K "Trial") dx [("program", .ref pa), ("puzzle", .ref z), ("running", .ref ra), ("steps", .int n), ("waits", .int (trAt p cost right g n).waits), ("answer", optV (trAt p cost right g n).ans)])) ∧
  RunAt K H ra pa g (trAt p cost right g n).run ∧ H pa = some (.tup (p.map V.str))
theorem tr_ok {p : List Str} {cost : Nat} {right : Int → Bool} {g : Int} (hc : 1 ≤ cost) (hg : -1000000000000000000 ≤ g ∧ g ≤ 1000000000000000000) : ∀ n, RunOk p.length (trAt p cost right g n).run ∧ ((trAt p cost right g n).waits ≠ 0 → ∃ x, (trAt p cost right g n).ans = some x)
  | 0 => ⟨⟨Nat.zero_le _, fun _ => ⟨(show boxOk 0 = true by decide), boxOk_iff.mpr hg⟩⟩, fun h => absurd rfl h⟩
  | n + 1 => by
    obtain ⟨h1, h2⟩ := tr_ok hc hg n
    show RunOk p.length (triedF p cost right (trAt p cost right g n)).2.run ∧ _
    have e : trAt p cost right g (n + 1) = (triedF p cost right (trAt p cost right g n)).2 := rfl
    rw [e]
    unfold triedF
    by_cases hz : (trAt p cost right g n).waits = 0
    · rw [if_pos hz]
      refine ⟨adv_ok h1, fun h => ?_⟩
      cases ha : (adv p (trAt p cost right g n).run).1 with
      | none => exact absurd (by show (if (adv p (trAt p cost right g n).run).1 = none then 0 else cost) = 0; rw [ha, if_pos rfl]) h
      | some x => exact ⟨x, ha⟩
    · rw [if_neg hz]
      exact ⟨h1, fun _ => h2 hz⟩
section
variable {P : Program} {w : World} {K : PySem.W.Frag} {mg : Str → Option Value} {base : Heap}
def sp_Trial_init : PySem.W.Frag → Sp := fun K vs H Q _ => ∃ ta pa z dx, ∃ (p : List Str) (g : Int), vs = [.ref ta, .ref pa, .ref z, .int g] ∧ H ta = some (.ins (He.ga K "Trial") dx []) ∧ H pa = some (.tup (p.map V.str)) ∧ p.length ≤ 200 ∧ (∀ x ∈ p, x ∈ W7) ∧ -1000000000000000000 ≤ g ∧ g ≤ 1000000000000000000 ∧
  ∀ ra H', Off ta H H' → H ra = none → (∀ cost right, TrAt K H' ta ra pa z p cost right g 0) → Q .non H'
theorem k_Trial (T : TX w K mg) : C8.Mak P w K mg base 6 "Trial" (He.ga K "Trial") (sp_Trial_init K) [] := by
  obtain ⟨f, fd, me, F, b⟩ := T.m_Trial_init
  have nd := sc_Trial_init.nd
  refine mak1 me (T.mk_Trial) T.v_Trial F b sc_Trial_init (fun vs H Q E h => ?_) (fun cdv A outer s H vs Q E hr h => ?_)
  · obtain ⟨ta, pa, z, dx, p, g, rfl, _⟩ := h
    rfl
  · obtain ⟨ta, pa, z, dx, p, g, rfl, h0, hp, h200, hw, g1, g2, q⟩ := h
    have hpt : pa ≠ ta := ne_of hp h0 (by intro z; cases z)
    refine ⟨_, (pss_cons (ps_fld (pv 0) (pv 1) rfl)
    (pss_cons (ps_fld (pv 0) (pv 2) rfl)
    (pss_cons (ps_fld (pv 0) (C8.pe_mk (k_Run T) hr (by decide) (by rfl) (pa_cons (pv 1) (pa_cons (pv 3) pa_nil))) rfl)
    (pss_cons (ps_fld (pv 0) pe_int rfl)
    (pss_cons (ps_fld (pv 0) pe_int rfl)
    (pss_one (ps_fld (pv 0) pe_non rfl))))))), ?_⟩
    walk_at "st"
    walk_at "rd"
    refine g_sf [("program", .ref pa)] h0 T.cl_Trial T.n_Trial_program (show (0 : Nat) < 1000 by decide) (by kernel_rfl) fun H1 o1 l1 => ?_
    walk_at "rd"
    refine g_sf [("program", .ref pa), ("puzzle", .ref z)] l1 T.cl_Trial T.n_Trial_puzzle (show (1 : Nat) < 1000 by decide) (by kernel_rfl) fun H2 o2 l2 => ?_
    walk_at "rd"
    walk_at "mk"
    rename_i ra dxr nra nd hne H3 s3 l3
    have o13 : Off ta H H3 := fun b o h1 h2 => s3 _ _ (o2 _ _ (o1 _ _ h1 h2) h2)
    refine ⟨ra, pa, dxr, p, g, rfl, l3, o13 _ _ hp hpt, h200, hw, g1, g2, fun H4 o4 r4 => ⟨rfl, ?_⟩⟩
    have l4 : H4 ta = some (.ins (He.ga K "Trial") dx [("program", .ref pa), ("puzzle", .ref z)]) := o4 _ _ (s3 _ _ l2) (ne_of_none l2 nra)
    walk_at "rd"
    refine g_sf [("program", .ref pa), ("puzzle", .ref z), ("running", .ref ra)] l4 T.cl_Trial T.n_Trial_running (show (2 : Nat) < 1000 by decide) (by kernel_rfl) fun H5 o5 l5 => ?_
    walk_at "rd"
    refine g_sf [("program", .ref pa), ("puzzle", .ref z), ("running", .ref ra), ("steps", .int (0 : Nat))] l5 T.cl_Trial T.n_Trial_steps (show (3 : Nat) < 1000 by decide) (by kernel_rfl) fun H6 o6 l6 => ?_
    walk_at "rd"
    refine g_sf [("program", .ref pa), ("puzzle", .ref z), ("running", .ref ra), ("steps", .int (0 : Nat)), ("waits", .int (0 : Nat))] l6 T.cl_Trial T.n_Trial_waits (show (4 : Nat) < 1000 by decide) (by kernel_rfl) fun H7 o7 l7 => ?_
    walk_at "rd"
    refine g_sf [("program", .ref pa), ("puzzle", .ref z), ("running", .ref ra), ("steps", .int (0 : Nat)), ("waits", .int (0 : Nat)), ("answer", .non)] l7 T.cl_Trial T.n_Trial_answer (show (5 : Nat) < 1000 by decide) (by kernel_rfl) fun H8 o8 l8 => ?_
    have hrt : ra ≠ ta := ne_none l2 nra
    have nra0 : H ra = none := by
      cases e : H ra with
      | none => rfl
      | some o => have := o2 _ _ (o1 _ _ e hrt) hrt; rw [nra] at this; cases this
    have hpr : pa ≠ ra := ne_of_none hp nra0
    refine q ra H8 (fun b o h1 h2 => o8 _ _ (o7 _ _ (o6 _ _ (o5 _ _ (o4 _ _ (o13 _ _ h1 h2) (ne_of_none h1 nra0)) h2) h2) h2) h2) nra0 fun cost right => ⟨⟨dx, l8⟩, ?_, ?_⟩
    · obtain ⟨d, k, hr4⟩ := r4
      exact ⟨d, k, o8 _ _ (o7 _ _ (o6 _ _ (o5 _ _ hr4 hrt) hrt) hrt) hrt⟩
    · exact o8 _ _ (o7 _ _ (o6 _ _ (o5 _ _ (o4 _ _ (o13 _ _ hp hpt) hpr) hpt) hpt) hpt) hpt
def sp_Trial_tried : PySem.W.Frag → Sp := fun K vs H Q _ => ∃ ta ra pa z, ∃ (p : List Str) (items : List Itm) (rt : Int → Int → Bool) (g : Int) (n : Nat), vs = [.ref ta] ∧ TrAt K H ta ra pa z p items.length (rt g) g n ∧ PuzzleAt K H z items ∧ ItOk items rt ∧ p.length ≤ 200 ∧ -1000000000000000000 ≤ g ∧ g ≤ 1000000000000000000 ∧
  ∀ H', Off2 ta ra H H' → TrAt K H' ta ra pa z p items.length (rt g) g (n + 1) → Q (.bl (hit p items.length (rt g) g n)) H'
theorem c_Trial_tried (T : TX w K mg) : C8.Met P w K mg base 6 (He.ga K "Trial") "tried" (sp_Trial_tried K) [] := by
  obtain ⟨f, fd, me, F, b⟩ := T.m_Trial_tried
  have nd := sc_Trial_tried.nd
  refine C8.met0 T.cl_Trial me F b sc_Trial_tried (fun vs H Q E h => ?_) (fun cdv A outer s H vs Q E hr h => ?_)
  · obtain ⟨ta, ra, pa, z, p, its, rt, g, n, rfl, _⟩ := h
    rfl
  · obtain ⟨ta, ra, pa, z, p, items, rt, g, n, rfl, ⟨⟨dx, h0⟩, hrun, hp⟩, hz, ok, h200, g1, g2, q⟩ := h
    obtain ⟨rok, hans⟩ := tr_ok (p := p) (right := rt g) ok.pos ⟨g1, g2⟩ n
    have hstep : trAt p items.length (rt g) g (n + 1) = (triedF p items.length (rt g) (trAt p items.length (rt g) g n)).2 := rfl
    have hhit : hit p items.length (rt g) g n = (triedF p items.length (rt g) (trAt p items.length (rt g) g n)).1 := rfl
    unfold triedF at hstep hhit
    have hz2 := hz
    obtain ⟨dxz, cp, tx, hzo, hcp⟩ := hz2
    have hrun2 := hrun
    obtain ⟨dxr, k, hro⟩ := hrun2
    have hpt : pa ≠ ta := ne_of hp h0 (by intro z; cases z)
    have hpr : pa ≠ ra := ne_of hp hro (by intro z; cases z)
    have hrt : ra ≠ ta := ins_ne hro h0 (by simp)
    have hzt : z ≠ ta := ins_ne hzo h0 (by simp)
    have hzr : z ≠ ra := ins_ne hzo hro (by simp)
    have hct : cp ≠ ta := ne_of hcp h0 (by intro z; cases z)
    have hcr : cp ≠ ra := ne_of hcp hro (by intro z; cases z)
    generalize hT : trAt p items.length (rt g) g n = t at h0 hrun hro rok hans hstep hhit
    refine ⟨_, (pss_cons (ps_fld (pv 0) (pe_op op_add (pe_fld (pv 0) rfl) pe_int) rfl)
    (pss_cons (ps_if (pt_cmpR op_eq (pe_fld (pv 0) rfl) pe_int (nomark _))
      (pss_cons (ps_fld (pv 0) (C8.pe_mt0 (c_Run_advance T) hr (by decide) (pe_fld (pv 0) rfl)) rfl)
      (pss_cons (ps_fld (pv 0) (pe_ifExp (pt_cmpR op_isN1 (pe_fld (pv 0) rfl) pe_non (nomark _)) pe_int (pe_fld (pe_fld (pv 0) rfl) rfl)) rfl)
      (pss_one (ps_ret pe_bl))))
      pss_nil)
    (pss_cons (ps_fld (pv 0) (pe_op op_sub (pe_fld (pv 0) rfl) pe_int) rfl)
    (pss_one (ps_ret (pe_and (pe_cmpR op_eq (pe_fld (pv 0) rfl) pe_int (nomark _)) (pe_one (C8.pe_c (c_right_for T) hr (by decide) (by rfl) (pa_cons (pe_fld (pv 0) rfl) (pa_cons (pe_fld (pe_fld (pv 0) rfl) rfl) (pa_cons (pe_fld (pv 0) rfl) pa_nil))))))))))), ?_⟩
    walk_at "st"
    walk_at "rd"
    refine g_fl (v := .int n) h0 T.cl_Trial T.n_Trial_steps (by kernel_rfl) ?_
    walk_at "rd"
    rw [show (n : Int) + 1 = ((n + 1 : Nat) : Int) by omega]
    refine g_sf [("program", .ref pa), ("puzzle", .ref z), ("running", .ref ra), ("steps", .int ((n + 1 : Nat) : Int)), ("waits", .int t.waits), ("answer", optV t.ans)] h0 T.cl_Trial T.n_Trial_steps (show (6 : Nat) < 1000 by decide) (by kernel_rfl) fun H1 o1 l1 => ?_
    walk_at "rd"
    refine g_fl (v := .int t.waits) l1 T.cl_Trial T.n_Trial_waits (by kernel_rfl) ?_
    walk_at "rd"
    by_cases hw0 : t.waits = 0
    · rw [if_pos hw0] at hstep hhit
      replace hstep : trAt p items.length (rt g) g (n + 1) = ⟨(adv p t.run).2, if (adv p t.run).1 = none then 0 else items.length, (adv p t.run).1⟩ := hstep
      replace hhit : hit p items.length (rt g) g n = false := hhit
      refine ifD_t (by omega) ?_
      walk_at "rd"
      refine g_fl (v := .ref ra) l1 T.cl_Trial T.n_Trial_running (by kernel_rfl) ?_
      have hro1 := o1 _ _ hro hrt
      refine ⟨ra, dxr, _, rfl, hro1, by kernel_rfl, ?_⟩
      walk_at "rd"
      refine ⟨ra, pa, p, g, t.run, rfl, ⟨dxr, k, hro1⟩, o1 _ _ hp hpt, rok, fun H2 o2 r2 => ?_⟩
      have l2 := o2 _ _ l1 (Ne.symm hrt)
      generalize adv p t.run = av at r2 hstep hhit ⊢
      walk_at "rd"
      refine g_sf [("program", .ref pa), ("puzzle", .ref z), ("running", .ref ra), ("steps", .int ((n + 1 : Nat) : Int)), ("waits", .int t.waits), ("answer", optV av.1)] l2 T.cl_Trial T.n_Trial_answer (show (6 : Nat) < 1000 by decide) (by kernel_rfl) fun H3 o3 l3 => ?_
      walk_at "rd"
      refine g_fl (v := optV av.1) l3 T.cl_Trial T.n_Trial_answer (by kernel_rfl) ?_
      have o13 : Off2 ta ra H H3 := fun b o h1 h2 h3 => o3 _ _ (o2 _ _ (o1 _ _ h1 h2) h3) h2
      have hz3 := o13 _ _ hzo hzt hzr
      have fin : ∀ (wt : Nat) (H4 : Hp), (wt = if av.1 = none then 0 else items.length) → Off ta H3 H4 → H4 ta = some (.ins (He.ga K "Trial") dx [("program", .ref pa), ("puzzle", .ref z), ("running", .ref ra), ("steps", .int ((n + 1 : Nat) : Int)), ("waits", .int wt), ("answer", optV av.1)]) → Q (.bl false) H4 := by
        intro wt H4 hwt o4 l4
        rw [hhit] at q
        refine q H4 (fun b o h1 h2 h3 => o4 _ _ (o13 _ _ h1 h2 h3) h2) ⟨⟨dx, ?_⟩, ?_, o4 _ _ (o13 _ _ hp hpt hpr) hpt⟩
        · rw [hstep, ← hwt]
          exact l4
        · rw [hstep]
          obtain ⟨d, k2, hr2⟩ := r2
          exact ⟨d, k2, o4 _ _ (o3 _ _ hr2 hrt) hrt⟩
      cases ha : av.1 with
      | none =>
        rw [ha] at l3 fin
        rw [show optV none = V.non from rfl]
        walk_at "rd"
        refine g_sf [("program", .ref pa), ("puzzle", .ref z), ("running", .ref ra), ("steps", .int ((n + 1 : Nat) : Int)), ("waits", .int (0 : Nat)), ("answer", optV none)] l3 T.cl_Trial T.n_Trial_waits (show (6 : Nat) < 1000 by decide) (by kernel_rfl) fun H4 o4 l4 => ?_
        walk_at "rd"
        exact fin 0 H4 (by rw [if_pos rfl]) o4 l4
      | some x =>
        rw [ha] at l3 fin
        rw [show optV (some x) = V.int x from rfl]
        walk_at "rd"
        refine g_fl (v := .ref z) l3 T.cl_Trial T.n_Trial_puzzle (by kernel_rfl) ?_
        refine g_fl (v := .int items.length) hz3 T.cl_Puzzle T.n_Puzzle_cost (by kernel_rfl) ?_
        walk_at "rd"
        refine g_sf [("program", .ref pa), ("puzzle", .ref z), ("running", .ref ra), ("steps", .int ((n + 1 : Nat) : Int)), ("waits", .int items.length), ("answer", optV (some x))] l3 T.cl_Trial T.n_Trial_waits (show (6 : Nat) < 1000 by decide) (by kernel_rfl) fun H4 o4 l4 => ?_
        walk_at "rd"
        exact fin items.length H4 (by rw [if_neg (by intro z; cases z)]) o4 l4
    · rw [if_neg hw0] at hstep hhit
      obtain ⟨x, hx⟩ := hans hw0
      refine ifD_f (by omega) ?_
      walk_at "rd"
      refine g_fl (v := .int t.waits) l1 T.cl_Trial T.n_Trial_waits (by kernel_rfl) ?_
      walk_at "rd"
      rw [show (t.waits : Int) - 1 = ((t.waits - 1 : Nat) : Int) by omega]
      refine g_sf [("program", .ref pa), ("puzzle", .ref z), ("running", .ref ra), ("steps", .int ((n + 1 : Nat) : Int)), ("waits", .int ((t.waits - 1 : Nat) : Int)), ("answer", optV t.ans)] l1 T.cl_Trial T.n_Trial_waits (show (6 : Nat) < 1000 by decide) (by kernel_rfl) fun H2 o2 l2 => ?_
      have fin : ∀ H4 : Hp, Same H2 H4 → Q (.bl (hit p items.length (rt g) g n)) H4 := by
        intro H4 s4
        refine q H4 (fun b o h1 h2 h3 => s4 _ _ (o2 _ _ (o1 _ _ h1 h2) h2)) ⟨⟨dx, ?_⟩, ?_, s4 _ _ (o2 _ _ (o1 _ _ hp hpt) hpt)⟩
        · rw [hstep]
          exact s4 _ _ l2
        · rw [hstep]
          exact ⟨dxr, k, s4 _ _ (o2 _ _ (o1 _ _ hro hrt) hrt)⟩
      rw [hhit, hx] at fin
      walk_at "rd"
      refine g_fl (v := .int ((t.waits - 1 : Nat) : Int)) l2 T.cl_Trial T.n_Trial_waits (by kernel_rfl) ?_
      walk_at "rd"
      by_cases h1 : t.waits - 1 = 0
      · rw [decide_eq_true h1, Bool.true_and] at fin
        refine ifD_t (by omega) ?_
        walk_at "rd"
        refine g_fl (v := .ref z) l2 T.cl_Trial T.n_Trial_puzzle (by kernel_rfl) ?_
        walk_at "rd"
        refine g_fl (v := .ref ra) l2 T.cl_Trial T.n_Trial_running (by kernel_rfl) ?_
        refine g_fl (v := .int g) (o2 _ _ (o1 _ _ hro hrt) hrt) T.cl_Run T.n_Run_given (by kernel_rfl) ?_
        walk_at "rd"
        refine g_fl (v := .int x) l2 T.cl_Trial T.n_Trial_answer (by rw [hx]; kernel_rfl) ?_
        walk_at "rd"
        refine ⟨z, items, rt, g, x, rfl, ⟨dxz, cp, tx, o2 _ _ (o1 _ _ hzo hzt) hzt, o2 _ _ (o1 _ _ hcp hct) hct⟩, ok, fun H3 s3 => ?_⟩
        exact fin H3 s3
      · rw [decide_eq_false h1, Bool.false_and] at fin
        refine ifD_f (by omega) ?_
        exact fin H2 (Same.refl _)
end
end Dt
set_option Elab.async false
set_option linter.all false
set_option maxRecDepth 100000
set_option maxHeartbeats 4000000
namespace Dt
open PySem PySem.Spec L2
section
variable {J : It} {n : Nat} {G : Hp → Prop} {Y : Nat → Hp → V → Hp → Prop}
theorem lc2_it (w : Walk J n G Y) {g : TG} {tt : TT} {wi1 : TI} {g1 : TG} {tt1 : TT} {te : TE} {vs vs1 : List Nat} {σ : St} {H1 : Hp} {D : Addr} {Qd : Hp → Prop} (Pv : Nat → Hp → Prop) (h0 : Pv 0 (upd H1 D (.lst []))) (hG : ∀ i H, i ≤ n → Pv i H → G H)
    (hs : ∀ i x H H', i < n → Pv i H → Y i H x H' → g x (wipe σ vs) H' fun σ2 H2 => wipe σ2 vs = wipe σ vs ∧ tt σ2 H2 fun b H3 =>
      if b = true then wi1 σ2 H3 fun J1 H4 => ∃ W1 : Nat → Nat → Hp → Prop, (∃ m, W1 0 m H4) ∧ ∀ j k H, W1 j k H →
        (J1.stop j H ∧ Pv (i + 1) H) ∨ (J1.go j H ∧ ∃ Nx1 : Hp → Prop, (∀ H', Nx1 H' → ∃ k', k' < k ∧ W1 (j + 1) k' H') ∧ ∀ x H', J1.yld j H x H' → g1 x (wipe σ2 vs1) H' fun σ3 H5 => wipe σ3 vs1 = wipe σ2 vs1 ∧ tt1 σ3 H5 fun b H6 =>
          if b = true then te σ3 H6 fun y H7 => ∃ acc, H7 D = some (.lst acc) ∧ acc.length < sizeLine ∧ Nx1 (upd H7 D (.lst (acc ++ [y]))) else Nx1 H6)
      else Pv (i + 1) H3) (hd : ∀ H, Pv n H → Qd H) :
    ∃ W : Nat → Nat → Hp → Prop, (∃ m, W 0 m (upd H1 D (.lst []))) ∧ ∀ i m H, W i m H →
      (J.stop i H ∧ Qd H) ∨ (J.go i H ∧ ∃ Nx : Hp → Prop, (∀ H', Nx H' → ∃ m', m' < m ∧ W (i + 1) m' H') ∧ ∀ x H', J.yld i H x H' → g x (wipe σ vs) H' fun σ2 H2 => wipe σ2 vs = wipe σ vs ∧ tt σ2 H2 fun b H3 =>
        if b = true then wi1 σ2 H3 fun J1 H4 => ∃ W1 : Nat → Nat → Hp → Prop, (∃ m, W1 0 m H4) ∧ ∀ j k H, W1 j k H →
          (J1.stop j H ∧ Nx H) ∨ (J1.go j H ∧ ∃ Nx1 : Hp → Prop, (∀ H', Nx1 H' → ∃ k', k' < k ∧ W1 (j + 1) k' H') ∧ ∀ x H', J1.yld j H x H' → g1 x (wipe σ2 vs1) H' fun σ3 H5 => wipe σ3 vs1 = wipe σ2 vs1 ∧ tt1 σ3 H5 fun b H6 =>
            if b = true then te σ3 H6 fun y H7 => ∃ acc, H7 D = some (.lst acc) ∧ acc.length < sizeLine ∧ Nx1 (upd H7 D (.lst (acc ++ [y]))) else Nx1 H6)
        else Nx H3) := by
  refine ⟨fun i m H => m = n - i ∧ i ≤ n ∧ Pv i H, ⟨n, by simp, Nat.zero_le _, h0⟩, ?_⟩
  rintro i m H ⟨rfl, hi, p⟩
  have q := hG i H hi p
  by_cases hlt : i < n
  · refine .inr ⟨w.goes i H hlt q, Pv (i + 1), fun H' p' => ⟨n - (i + 1), by omega, rfl, hlt, p'⟩, fun x H' y => hs i x H H' hlt p (w.yields i H x H' hlt q y)⟩
  · have e : i = n := by omega
    subst e
    exact .inl ⟨w.stops H q, hd H p⟩
theorem in_it (w : Walk J n G Y) {g1 : TG} {tt1 : TT} {te : TE} {vs1 : List Nat} {σ2 : St} {H4 : Hp} {D : Addr} {Nx : Hp → Prop} (Pv : Nat → Hp → Prop) (h0 : Pv 0 H4) (hG : ∀ i H, i ≤ n → Pv i H → G H)
    (hs : ∀ j x H H', j < n → Pv j H → Y j H x H' → g1 x (wipe σ2 vs1) H' fun σ3 H5 => wipe σ3 vs1 = wipe σ2 vs1 ∧ tt1 σ3 H5 fun b H6 =>
      if b = true then te σ3 H6 fun y H7 => ∃ acc, H7 D = some (.lst acc) ∧ acc.length < sizeLine ∧ Pv (j + 1) (upd H7 D (.lst (acc ++ [y]))) else Pv (j + 1) H6) (hd : ∀ H, Pv n H → Nx H) :
    ∃ W1 : Nat → Nat → Hp → Prop, (∃ m, W1 0 m H4) ∧ ∀ j k H, W1 j k H →
      (J.stop j H ∧ Nx H) ∨ (J.go j H ∧ ∃ Nx1 : Hp → Prop, (∀ H', Nx1 H' → ∃ k', k' < k ∧ W1 (j + 1) k' H') ∧ ∀ x H', J.yld j H x H' → g1 x (wipe σ2 vs1) H' fun σ3 H5 => wipe σ3 vs1 = wipe σ2 vs1 ∧ tt1 σ3 H5 fun b H6 =>
        if b = true then te σ3 H6 fun y H7 => ∃ acc, H7 D = some (.lst acc) ∧ acc.length < sizeLine ∧ Nx1 (upd H7 D (.lst (acc ++ [y]))) else Nx1 H6) := by
  refine ⟨fun i m H => m = n - i ∧ i ≤ n ∧ Pv i H, ⟨n, by simp, Nat.zero_le _, h0⟩, ?_⟩
  rintro i m H ⟨rfl, hi, p⟩
  have q := hG i H hi p
  by_cases hlt : i < n
  · refine .inr ⟨w.goes i H hlt q, Pv (i + 1), fun H' p' => ⟨n - (i + 1), by omega, rfl, hlt, p'⟩, fun x H' y => hs i x H H' hlt p (w.yields i H x H' hlt q y)⟩
  · have e : i = n := by omega
    subst e
    exact .inl ⟨w.stops H q, hd H p⟩
end
section
variable {σ : St} {H : Hp} {Q : VK} {wi wi1 : TI} {g g1 : TG} {tt tt1 : TT} {te : TE} {vs vs1 : List Nat}
theorem g_lc2 (h : wi σ H fun J H1 => ∀ D, H1 D = none → ∃ W : Nat → Nat → Hp → Prop, (∃ m, W 0 m (upd H1 D (.lst []))) ∧ ∀ i m H, W i m H →
  (J.stop i H ∧ Q (.ref D) H) ∨ (J.go i H ∧ ∃ Nx : Hp → Prop, (∀ H', Nx H' → ∃ m', m' < m ∧ W (i + 1) m' H') ∧ ∀ x H', J.yld i H x H' → g x (wipe σ vs) H' fun σ2 H2 => wipe σ2 vs = wipe σ vs ∧ tt σ2 H2 fun b H3 =>
    if b = true then wi1 σ2 H3 fun J1 H4 => ∃ W1 : Nat → Nat → Hp → Prop, (∃ m, W1 0 m H4) ∧ ∀ j k H, W1 j k H →
      (J1.stop j H ∧ Nx H) ∨ (J1.go j H ∧ ∃ Nx1 : Hp → Prop, (∀ H', Nx1 H' → ∃ k', k' < k ∧ W1 (j + 1) k' H') ∧ ∀ x H', J1.yld j H x H' → g1 x (wipe σ2 vs1) H' fun σ3 H5 => wipe σ3 vs1 = wipe σ2 vs1 ∧ tt1 σ3 H5 fun b H6 =>
        if b = true then te σ3 H6 fun y H7 => ∃ acc, H7 D = some (.lst acc) ∧ acc.length < sizeLine ∧ Nx1 (upd H7 D (.lst (acc ++ [y]))) else Nx1 H6)
    else Nx H3)) : tLc2 wi g tt wi1 g1 tt1 te vs vs1 σ H Q := h
end
/-- a == b, two lists, one of them empty -/
def rEqE (K : PySem.W.Frag) : R2 := fun x y H Q => ∃ a b xs ys, x = .ref a ∧ y = .ref b ∧ SqL K H a xs ∧ SqL K H b ys ∧ ys = [] ∧ Q (.bl (decide (xs = []))) H
theorem op_eqE {X : Cx} (hu : X.A.units < cLine) : OpR X (compareOp .Eq) (rEqE X.K) := by
  intro pins s σ H x y v u Q I rx ry h
  obtain ⟨a, b, xs, ys, rfl, rfl, ha, hb, hys, q⟩ := h
  cases (show v = Value.ref a from rx)
  cases (show u = Value.ref b from ry)
  obtain ⟨us, r1, p1, _⟩ := I.list ha
  obtain ⟨ws, r2, p2, _⟩ := I.list hb
  subst hys
  have e2 : ws.length = 0 := r2.length.symm
  by_cases hx : xs = []
  · subst hx
    have e1 : us.length = 0 := r1.length.symm
    refine SeqAt.RcAt.lists (e := fun _ => true) p1.isList p2.isList (by rw [List.size_toArray, List.size_toArray, e1, e2]) hu (fun j h1 h2 => ?_) X.prog X.w _ _ ?_
    · rw [List.size_toArray] at h1; omega
    · exact ⟨.bl _, H, I, (show RelV (.bl (decide (([] : List V) = []))) (Value.bool ((List.range us.toArray.size).all fun _ => true)) by rw [List.size_toArray, e1]; rfl), q⟩
  · have e1 : us.length ≠ 0 := by
      rw [← r1.length]
      exact fun z => hx (List.eq_nil_of_length_eq_zero z)
    refine SeqAt.RcAt.lists_lengths p1.isList p2.isList (by rw [List.size_toArray, List.size_toArray, e2]; simp; exact fun z => e1 (by rw [z]; rfl)) hu X.prog X.w _ _ ?_
    refine ⟨.bl _, H, I, ?_, q⟩
    rw [decide_eq_false hx]
    rfl
end Dt
set_option Elab.async false
set_option linter.all false
set_option maxRecDepth 100000
set_option maxHeartbeats 4000000
namespace Dt
open PySem PySem.Spec L2
local macro_rules | `(tactic| walk_at "st") => `(tactic| (simp only [L2.start, List.map_cons, List.map_nil, List.length_cons, List.length_nil, List.replicate_succ, List.replicate_zero, List.cons_append, List.nil_append, Nat.zero_add, Nat.reduceAdd, Nat.reduceSub]))
local macro_rules | `(tactic| walk_at "r1") => `(tactic| with_reducible first
  | refine g_seq ?_
  | refine g_next ?_
  | refine g_asg ?_
  | refine g_ifS ?_
  | refine g_ret ?_
  | refine g_retN ?_
  | refine g_drop ?_
  | refine g_brk ?_
  | refine g_c ?_
  | refine g_op ?_
  | refine g_un ?_
  | refine g_I0 ?_
  | refine g_U ?_
  | refine g_eqI ?_
  | refine g_neI ?_
  | refine g_eqS ?_
  | refine g_neS ?_
  | refine g_test ?_
  | refine g_B ?_
  | refine g_bl ?_
  | refine g_if ?_
  | refine g_not ?_
  | refine g_and ?_
  | refine g_or ?_
  | refine g_andV ?_
  | refine g_orV ?_
  | refine g_notV ?_
  | refine g_blif ?_
  | refine g_chain ?_
  | refine g_nil ?_
  | refine g_cons ?_
  | refine g_cb ?_
  | refine g_call ?_
  | refine g_tup ?_
  | refine g_lst ?_
  | refine g_tfld ?_
  | refine g_dget ?_
  | refine g_mk ?_
  | refine g_lc2 ?_
  | refine g_gfld ?_
  | refine g_meth ?_
  | refine g_sfld ?_
  | refine g_din ?_
  | refine g_dput ?_
  | refine g_isN_int ?_
  | refine g_isN_str ?_
  | refine g_isN_ref ?_
  | refine g_isN_non ?_
  | refine g_nN_int ?_
  | refine g_nN_str ?_
  | refine g_nN_ref ?_
  | refine g_nN_non ?_
  | refine g_lc ?_
  | refine g_dc ?_
  | refine g_for ?_
  | refine g_iStr ?_
  | refine g_iList ?_
  | refine g_iTup ?_
  | refine g_iR1 ?_
  | refine g_iR2 ?_
  | refine g_iR3 ?_
  | refine g_iEnum ?_
  | refine g_iZip ?_
  | refine g_iZipA ?_
  | refine g_bm ?_
  | refine g_bm0 ?_
  | refine g_m1 ?_
  | refine g_sl ?_
  | refine g_poN ?_
  | refine g_poS ?_
  | refine g_poI ?_
  | refine g_yes ?_
  | refine g_gtup ?_
  | refine g_gcons ?_
  | refine g_gnil ?_
  | refine g_par ?_
  | refine g_isi_ii ?_
  | refine g_isi_ib ?_
  | refine g_isi_ss ?_
  | refine g_inC ?_
  | refine g_int1 ?_
  | refine g_int1b ?_
  | refine g_abs ?_
  | refine g_ltS ?_
  | refine iteT ?_
  | refine iteNT ?_
  | refine iteNF ?_
  | refine iteF ?_)
local macro_rules | `(tactic| walk_at "sd") => `(tactic| first | assumption | rfl | decide | omega)
local macro_rules | `(tactic| walk_at "hp") => `(tactic| first | assumption | exact upd_same | exact Same.get (by assumption) (by walk_at "hp") | exact Off.get (by assumption) (by walk_at "hp") (by walk_at "ne"))
local macro_rules | `(tactic| walk_at "ne") => `(tactic| first | assumption | (refine Ne.symm ?_; assumption) | exact ne_of_none (by walk_at "hp") (by assumption) | exact ne_none (by walk_at "hp") (by assumption) | exact ne_of (by walk_at "hp") (by walk_at "hp") (by intro z; cases z))
local macro_rules | `(tactic| walk_at "sq") => `(tactic| first | assumption | exact SqL.rd (by walk_at "hp") | exact SqT.rd (by walk_at "hp") | exact Same.seq (by assumption) (by walk_at "sq") | exact Same.seqT (by assumption) (by walk_at "sq"))
local macro_rules | `(tactic| walk_at "rI") => `(tactic| ((with_reducible refine g_I ?_ ?_); (focus (first | (refine Or.inl ⟨?_, ?_⟩ <;> (first | decide | omega)) | (refine Or.inr ⟨?_, ?_⟩ <;> (first | decide | omega)) | (show (0 : Int) < _; first | decide | omega | assumption) | (refine And.intro ?_ ?_ <;> (first | decide | omega | (refine And.intro ?_ ?_ <;> (first | decide | omega))))))))
local macro_rules | `(tactic| walk_at "r2") => `(tactic| first
  | ((with_reducible refine g_tvar ?_); (refine ⟨_, rfl, ?_⟩))
  | ((with_reducible refine g_name' (σ' := ?s) ?e ?h); (case e => (simp only [wipe, List.set_cons_zero, List.set_cons_succ]; first | done | rfl)))
  | (refine And.intro (show wipe _ _ = wipe _ _ from rfl) ?_)
  | walk_at "rI")
local macro_rules | `(tactic| walk_at "rd") => `(tactic| repeat (first | walk_at "r1" | walk_at "r2"))
local macro_rules | `(tactic| walk_at "gn") => `(tactic| (intro pA hA; generalize hG : upd _ _ _ = H2A; (have sA : Same _ H2A := hG ▸ Same.upd hA); (have lA : H2A pA = some _ := hG ▸ upd_same); clear hG))
local macro_rules | `(tactic| walk_at "mk") => `(tactic| (intro xM dxM h1M h2M hneM; generalize hG : upd (upd _ _ _) _ _ = HM; (have sM : Same _ HM := hG ▸ Same.updW (Same.upd h2M) h1M); (have lM : HM xM = some _ := hG ▸ upd_same); clear hG))
/-! ### the throng, as numbers -/
abbrev cF (names : List Str) (l : Nat) : Nat := (rows (chF names) l).length
structure ThS where
  due : Nat
  nb : Nat
  ws : List (Nat × Nat)
  st : Nat → Nat → Nat
/-- the trials of a due, in their order -/
def lotsP (names : List Str) (nb D : Nat) : List (Nat × Nat) := (List.range nb).flatMap fun k => if D % 2 ^ (endLen names + k) = 0 then (List.range (cF names (endLen names + k))).map fun i => (endLen names + k, i) else []
def nbP (names : List Str) (S : ThS) : Nat := if S.due + 2 ^ endLen names = 2 ^ (endLen names + S.nb) then S.nb + 1 else S.nb
def fillP (names : List Str) (S : ThS) : ThS := if S.ws = [] then ⟨S.due + 2 ^ endLen names, nbP names S, (lotsP names (nbP names S) (S.due + 2 ^ endLen names)).reverse, S.st⟩ else S
theorem lotsP_len {names : List Str} (ok : NamesOk names) {D : Nat} : ∀ nb, (lotsP names nb D).length ≤ 2 ^ (endLen names + nb)
  | 0 => Nat.zero_le _
  | nb + 1 => by
    have ih := lotsP_len ok (D := D) nb
    have e : lotsP names (nb + 1) D = lotsP names nb D ++ (if D % 2 ^ (endLen names + nb) = 0 then (List.range (cF names (endLen names + nb))).map fun i => (endLen names + nb, i) else []) := by
      unfold lotsP
      rw [List.range_succ, List.flatMap_append]
      simp
    rw [e, List.length_append, ← Nat.add_assoc, Nat.pow_succ]
    have h1 := rows_le ok (endLen names + nb)
    by_cases h : D % 2 ^ (endLen names + nb) = 0
    · rw [if_pos h, List.length_map, List.length_range]
      show _ + (rows (chF names) (endLen names + nb)).length ≤ _
      omega
    · rw [if_neg h]
      show _ + 0 ≤ _
      omega
def Vld (names : List Str) (nb l i : Nat) : Prop := endLen names ≤ l ∧ l < endLen names + nb ∧ i < cF names l
/-! ### the throng's object -/
abbrev thFs (t z : Addr) (g : Int) (e D : Nat) (bl wl : Addr) : List (Str × V) := [("tongue", .ref t), ("puzzle", .ref z), ("given", .int g), ("least", .int e), ("due", .int D), ("begun", .ref bl), ("waiting", .ref wl)]
structure ThIn (K : PySem.W.Frag) (H0 H : Hp) (lot t z : Addr) (names : List Str) (items : List Itm) (rt : Int → Int → Bool) (g : Int) (S : ThS) (dx bl wl : Addr) (bas las : List Addr) (tr : Nat → Nat → Addr × Addr × Addr) : Prop where
  same : Same H0 H
  flot : H0 lot = none
  fbl : H0 bl = none
  fwl : H0 wl = none
  bw : bl ≠ wl
  olot : H lot = some (.ins (He.ga K "Throng") dx (thFs t z g (endLen names) S.due bl wl))
  obl : H bl = some (.lst (bas.map V.ref))
  lbas : bas.length = S.nb
  llas : las.length = S.nb
  beg : ∀ (k : Nat) (ba la : Addr), bas[k]? = some ba → las[k]? = some la → H ba = some (.tup [.int ((2 ^ (endLen names + k) : Nat) : Int), .ref la]) ∧ la ≠ bl ∧ la ≠ wl ∧ H la = some (.lst ((List.range (cF names (endLen names + k))).map fun i => V.ref (tr (endLen names + k) i).1))
  owl : H wl = some (.lst (S.ws.map fun id => V.ref (tr id.1 id.2).1))
  trs : ∀ (l i : Nat) (p : List Str), endLen names ≤ l → l < endLen names + S.nb → (rows (chF names) l)[i]? = some p → TrAt K H (tr l i).1 (tr l i).2.1 (tr l i).2.2 z p items.length (rt g) g (S.st l i) ∧ H0 (tr l i).1 = none ∧ H0 (tr l i).2.1 = none
  dis : ∀ l i l' i', Vld names S.nb l i → Vld names S.nb l' i' → (l, i) ≠ (l', i') → (tr l i).1 ≠ (tr l' i').1 ∧ (tr l i).2.1 ≠ (tr l' i').2.1
def ThAt (K : PySem.W.Frag) (H0 H : Hp) (lot t z : Addr) (names : List Str) (items : List Itm) (rt : Int → Int → Bool) (g : Int) (S : ThS) : Prop := ∃ dx bl wl bas las tr, ThIn K H0 H lot t z names items rt g S dx bl wl bas las tr
theorem ins_neK {H : Hp} {a b C C' dx dx' : Addr} {fs fs' : List (Str × V)} (h : H a = some (.ins C dx fs)) (h' : H b = some (.ins C' dx' fs')) (n : fs.map (·.1) ≠ fs'.map (·.1)) : a ≠ b := by
  intro e
  subst e
  rw [h] at h'
  injection h' with h'
  injection h' with _ _ h'
  exact n (by rw [h'])
theorem TrAt.keep {K : PySem.W.Frag} {H H' : Hp} {ta ra pa z : Addr} {p : List Str} {cost : Nat} {right : Int → Bool} {g : Int} {n : Nat} (h : TrAt K H ta ra pa z p cost right g n) (k1 : ∀ o, H ta = some o → H' ta = some o) (k2 : ∀ o, H ra = some o → H' ra = some o) (k3 : ∀ o, H pa = some o → H' pa = some o) :
    TrAt K H' ta ra pa z p cost right g n := by
  obtain ⟨⟨dx, h1⟩, ⟨dr, k, h2⟩, h3⟩ := h
  exact ⟨⟨dx, k1 _ h1⟩, ⟨dr, k, k2 _ h2⟩, k3 _ h3⟩
section
variable {K : PySem.W.Frag} {H0 H H' : Hp} {lot t z : Addr} {names : List Str} {items : List Itm} {rt : Int → Int → Bool} {g : Int} {S : ThS} {dx bl wl : Addr} {bas las : List Addr} {tr : Nat → Nat → Addr × Addr × Addr}
theorem ThIn.nes (h : ThIn K H0 H lot t z names items rt g S dx bl wl bas las tr) {l i : Nat} {p : List Str} (h1 : endLen names ≤ l) (h2 : l < endLen names + S.nb) (h3 : (rows (chF names) l)[i]? = some p) : (tr l i).1 ≠ lot ∧ (tr l i).2.1 ≠ lot ∧ (tr l i).2.2 ≠ lot := by
  obtain ⟨⟨⟨d, o1⟩, ⟨dr, k, o2⟩, o3⟩, _⟩ := h.trs l i p h1 h2 h3
  exact ⟨ins_neK o1 h.olot (by show (["program", "puzzle", "running", "steps", "waits", "answer"] : List Str) ≠ (["tongue", "puzzle", "given", "least", "due", "begun", "waiting"] : List Str); decide +kernel), ins_neK o2 h.olot (by show (["program", "given", "left", "right", "spot", "steps", "has_fallen"] : List Str) ≠ (["tongue", "puzzle", "given", "least", "due", "begun", "waiting"] : List Str); decide +kernel), ne_of o3 h.olot (by intro z; cases z)⟩
theorem ThIn.mono (h : ThIn K H0 H lot t z names items rt g S dx bl wl bas las tr) (s : Same H H') : ThIn K H0 H' lot t z names items rt g S dx bl wl bas las tr where
  same := h.same.trans s
  flot := h.flot
  fbl := h.fbl
  fwl := h.fwl
  bw := h.bw
  olot := s _ _ h.olot
  obl := s _ _ h.obl
  lbas := h.lbas
  llas := h.llas
  beg := fun k ba la h1 h2 => by
    obtain ⟨a1, a2, a3, a4⟩ := h.beg k ba la h1 h2
    exact ⟨s _ _ a1, a2, a3, s _ _ a4⟩
  owl := s _ _ h.owl
  trs := fun l i p h1 h2 h3 => by
    obtain ⟨a1, a2, a3⟩ := h.trs l i p h1 h2 h3
    exact ⟨a1.keep (fun o => s _ o) (fun o => s _ o) (fun o => s _ o), a2, a3⟩
  dis := h.dis
/-- the due set -/
theorem ThIn.setDue (h : ThIn K H0 H lot t z names items rt g S dx bl wl bas las tr) {D : Nat} (s : Off lot H H') (l' : H' lot = some (.ins (He.ga K "Throng") dx (thFs t z g (endLen names) D bl wl))) : ThIn K H0 H' lot t z names items rt g { S with due := D } dx bl wl bas las tr where
  same := Off.to h.same s h.flot
  flot := h.flot
  fbl := h.fbl
  fwl := h.fwl
  bw := h.bw
  olot := l'
  obl := s _ _ h.obl (ne_of h.obl h.olot (by intro z; cases z))
  lbas := h.lbas
  llas := h.llas
  beg := fun k ba la h1 h2 => by
    obtain ⟨a1, a2, a3, a4⟩ := h.beg k ba la h1 h2
    exact ⟨s _ _ a1 (ne_of a1 h.olot (by intro z; cases z)), a2, a3, s _ _ a4 (ne_of a4 h.olot (by intro z; cases z))⟩
  owl := s _ _ h.owl (ne_of h.owl h.olot (by intro z; cases z))
  trs := fun l i p h1 h2 h3 => by
    obtain ⟨a1, a2, a3⟩ := h.trs l i p h1 h2 h3
    obtain ⟨b1, b2, b3⟩ := h.nes h1 h2 h3
    exact ⟨a1.keep (fun o e => s _ o e b1) (fun o e => s _ o e b2) (fun o e => s _ o e b3), a2, a3⟩
  dis := h.dis
/-- a new waiting list -/
theorem ThIn.setWait (h : ThIn K H0 H lot t z names items rt g S dx bl wl bas las tr) {wl' : Addr} {ws : List (Nat × Nat)} (s : Off lot H H') (l' : H' lot = some (.ins (He.ga K "Throng") dx (thFs t z g (endLen names) S.due bl wl'))) (f1 : H0 wl' = none) (f2 : bl ≠ wl')
    (f3 : ∀ (k : Nat) (la : Addr), las[k]? = some la → la ≠ wl') (w' : H' wl' = some (.lst (ws.map fun id => V.ref (tr id.1 id.2).1))) : ThIn K H0 H' lot t z names items rt g { S with ws := ws } dx bl wl' bas las tr where
  same := Off.to h.same s h.flot
  flot := h.flot
  fbl := h.fbl
  fwl := f1
  bw := f2
  olot := l'
  obl := s _ _ h.obl (ne_of h.obl h.olot (by intro z; cases z))
  lbas := h.lbas
  llas := h.llas
  beg := fun k ba la h1 h2 => by
    obtain ⟨a1, a2, a3, a4⟩ := h.beg k ba la h1 h2
    exact ⟨s _ _ a1 (ne_of a1 h.olot (by intro z; cases z)), a2, f3 k la h2, s _ _ a4 (ne_of a4 h.olot (by intro z; cases z))⟩
  owl := w'
  trs := fun l i p h1 h2 h3 => by
    obtain ⟨a1, a2, a3⟩ := h.trs l i p h1 h2 h3
    obtain ⟨b1, b2, b3⟩ := h.nes h1 h2 h3
    exact ⟨a1.keep (fun o e => s _ o e b1) (fun o e => s _ o e b2) (fun o e => s _ o e b3), a2, a3⟩
  dis := h.dis
/-- the waiting list changed in its place -/
theorem ThIn.popped (h : ThIn K H0 H lot t z names items rt g S dx bl wl bas las tr) {ws : List (Nat × Nat)} (s : Off wl H H') (w' : H' wl = some (.lst (ws.map fun id => V.ref (tr id.1 id.2).1))) : ThIn K H0 H' lot t z names items rt g { S with ws := ws } dx bl wl bas las tr where
  same := Off.to h.same s h.fwl
  flot := h.flot
  fbl := h.fbl
  fwl := h.fwl
  bw := h.bw
  olot := s _ _ h.olot (ne_of h.olot h.owl (by intro z; cases z))
  obl := s _ _ h.obl h.bw
  lbas := h.lbas
  llas := h.llas
  beg := fun k ba la h1 h2 => by
    obtain ⟨a1, a2, a3, a4⟩ := h.beg k ba la h1 h2
    exact ⟨s _ _ a1 (ne_of a1 h.owl (by intro z; cases z)), a2, a3, s _ _ a4 a3⟩
  owl := w'
  trs := fun l i p h1 h2 h3 => by
    obtain ⟨a1, a2, a3⟩ := h.trs l i p h1 h2 h3
    have a1' := a1
    obtain ⟨⟨d, o1⟩, ⟨dr, k, o2⟩, o3⟩ := a1'
    exact ⟨a1.keep (fun o e => s _ o e (ne_of o1 h.owl (by intro z; cases z))) (fun o e => s _ o e (ne_of o2 h.owl (by intro z; cases z))) (fun o e => s _ o e (ne_of o3 h.owl (by intro z; cases z))), a2, a3⟩
  dis := h.dis
/-- trials of a new length -/
theorem ThIn.begin (h : ThIn K H0 H lot t z names items rt g S dx bl wl bas las tr) {ba la : Addr} {ts : List (Addr × Addr × Addr)} (s : Off bl H H') (l' : H' bl = some (.lst ((bas ++ [ba]).map V.ref))) (b1 : H ba = some (.tup [.int ((2 ^ (endLen names + S.nb) : Nat) : Int), .ref la])) (b2 : la ≠ bl) (b3 : la ≠ wl)
    (lts : ts.length = cF names (endLen names + S.nb)) (b4 : H la = some (.lst (ts.map fun x => V.ref x.1)))
    (h0 : ∀ i, S.st (endLen names + S.nb) i = 0)
    (b5 : ∀ (i : Nat) (x : Addr × Addr × Addr) (p : List Str), ts[i]? = some x → (rows (chF names) (endLen names + S.nb))[i]? = some p → TrAt K H x.1 x.2.1 x.2.2 z p items.length (rt g) g 0 ∧ H0 x.1 = none ∧ H0 x.2.1 = none)
    (b6 : ∀ (i j : Nat) (x y : Addr × Addr × Addr), i ≠ j → ts[i]? = some x → ts[j]? = some y → x.1 ≠ y.1 ∧ x.2.1 ≠ y.2.1)
    (b7 : ∀ (i : Nat) (x : Addr × Addr × Addr) (l j : Nat), ts[i]? = some x → Vld names S.nb l j → x.1 ≠ (tr l j).1 ∧ x.2.1 ≠ (tr l j).2.1) :
    ∃ tr', ThIn K H0 H' lot t z names items rt g { S with nb := S.nb + 1, ws := S.ws } dx bl wl (bas ++ [ba]) (las ++ [la]) tr' ∨ S.ws ≠ [] := by
  by_cases hws : S.ws = []
  case neg => exact ⟨tr, .inr hws⟩
  refine ⟨fun l => if l = endLen names + S.nb then fun i => ts.getD i (0, 0, 0) else tr l, .inl ?_⟩
  have old : ∀ l, l < endLen names + S.nb → (if l = endLen names + S.nb then fun i => ts.getD i (0, 0, 0) else tr l) = tr l := fun l hl => if_neg (by omega)
  have new : (if endLen names + S.nb = endLen names + S.nb then fun i => ts.getD i (0, 0, 0) else tr (endLen names + S.nb)) = fun i => ts.getD i (0, 0, 0) := if_pos rfl
  have get : ∀ i x, ts[i]? = some x → ts.getD i (0, 0, 0) = x := fun i x hx => by rw [List.getD_eq_getElem?_getD, hx]; rfl
  exact {
    same := Off.to h.same s h.fbl
    flot := h.flot
    fbl := h.fbl
    fwl := h.fwl
    bw := h.bw
    olot := s _ _ h.olot (ne_of h.olot h.obl (by intro z; cases z))
    obl := l'
    lbas := by rw [List.length_append, h.lbas]; rfl
    llas := by rw [List.length_append, h.llas]; rfl
    beg := fun k ba' la' h1 h2 => by
      by_cases hk : k < S.nb
      · rw [List.getElem?_append_left (by rw [h.lbas]; exact hk)] at h1
        rw [List.getElem?_append_left (by rw [h.llas]; exact hk)] at h2
        obtain ⟨a1, a2, a3, a4⟩ := h.beg k ba' la' h1 h2
        refine ⟨s _ _ a1 (ne_of a1 h.obl (by intro z; cases z)), a2, a3, ?_⟩
        rw [old _ (by omega)]
        exact s _ _ a4 a2
      · have hk2 : k = S.nb := by
          have := (List.getElem?_eq_some_iff.mp h1).1
          rw [List.length_append, h.lbas, List.length_singleton] at this
          omega
        subst hk2
        rw [List.getElem?_append_right (by rw [h.lbas]; exact Nat.le_refl _), h.lbas, Nat.sub_self] at h1
        rw [List.getElem?_append_right (by rw [h.llas]; exact Nat.le_refl _), h.llas, Nat.sub_self] at h2
        have e1 : ba = ba' := by simpa using h1
        have e2 : la = la' := by simpa using h2
        subst e1 e2
        refine ⟨s _ _ b1 (ne_of b1 h.obl (by intro z; cases z)), b2, b3, ?_⟩
        rw [new, s _ _ b4 b2]
        congr 2
        apply List.ext_getElem
        · rw [List.length_map, List.length_map, List.length_range, lts]
        · intro i h1 h2
          rw [List.length_map] at h1
          rw [List.getElem_map, List.getElem_map, List.getElem_range]
          show V.ref (ts[i]'h1).1 = V.ref (ts.getD i (0, 0, 0)).1
          rw [get i (ts[i]'h1) (List.getElem?_eq_getElem h1)]
    owl := by
      show H' wl = some (.lst (S.ws.map _))
      have e := h.owl
      rw [hws] at e ⊢
      exact s _ _ e (Ne.symm h.bw)
    trs := fun l i p h1 h2 h3 => by
      by_cases hl : l < endLen names + S.nb
      · rw [old l hl]
        obtain ⟨a1, a2, a3⟩ := h.trs l i p h1 hl h3
        have a1' := a1
        obtain ⟨⟨d, o1⟩, ⟨dr, k, o2⟩, o3⟩ := a1'
        exact ⟨a1.keep (fun o e => s _ o e (ne_of o1 h.obl (by intro z; cases z))) (fun o e => s _ o e (ne_of o2 h.obl (by intro z; cases z))) (fun o e => s _ o e (ne_of o3 h.obl (by intro z; cases z))), a2, a3⟩
      · have hl2 : l = endLen names + S.nb := by
          have h2' : l < endLen names + (S.nb + 1) := h2
          omega
        subst hl2
        rw [new]
        have hi := (List.getElem?_eq_some_iff.mp h3).1
        obtain ⟨x, hit⟩ : ∃ x, ts[i]? = some x := ⟨_, List.getElem?_eq_getElem (by rw [lts]; exact hi)⟩
        show TrAt K H' (ts.getD i (0, 0, 0)).1 (ts.getD i (0, 0, 0)).2.1 (ts.getD i (0, 0, 0)).2.2 z p items.length (rt g) g (S.st _ i) ∧ H0 (ts.getD i (0, 0, 0)).1 = none ∧ H0 (ts.getD i (0, 0, 0)).2.1 = none
        rw [get i x hit, h0 i]
        obtain ⟨a1, a2, a3⟩ := b5 i x p hit h3
        have a1' := a1
        obtain ⟨⟨d, o1⟩, ⟨dr, k, o2⟩, o3⟩ := a1'
        exact ⟨a1.keep (fun o e => s _ o e (ne_of o1 h.obl (by intro z; cases z))) (fun o e => s _ o e (ne_of o2 h.obl (by intro z; cases z))) (fun o e => s _ o e (ne_of o3 h.obl (by intro z; cases z))), a2, a3⟩
    dis := fun l i l' i' v v' hne => by
      have hv : ∀ l i, Vld names (S.nb + 1) l i → (l < endLen names + S.nb ∧ Vld names S.nb l i) ∨ (l = endLen names + S.nb ∧ ∃ x, ts[i]? = some x) := by
        intro l i v
        by_cases hl : l < endLen names + S.nb
        · exact .inl ⟨hl, v.1, hl, v.2.2⟩
        · have hl2 : l = endLen names + S.nb := by have := v.2.1; omega
          refine .inr ⟨hl2, ts[i]'(by rw [lts, ← hl2]; exact v.2.2), List.getElem?_eq_getElem _⟩
      rcases hv l i v with ⟨hl, w⟩ | ⟨hl, x, hx⟩
      · rcases hv l' i' v' with ⟨hl', w'⟩ | ⟨hl', x', hx'⟩
        · rw [old l hl, old l' hl']
          exact h.dis l i l' i' w w' hne
        · subst hl'
          rw [old l hl, new]
          show (tr l i).1 ≠ (ts.getD i' (0, 0, 0)).1 ∧ (tr l i).2.1 ≠ (ts.getD i' (0, 0, 0)).2.1
          rw [get i' x' hx']
          obtain ⟨c1, c2⟩ := b7 i' x' l i hx' w
          exact ⟨Ne.symm c1, Ne.symm c2⟩
      · subst hl
        rcases hv l' i' v' with ⟨hl', w'⟩ | ⟨hl', x', hx'⟩
        · rw [old l' hl', new]
          show (ts.getD i (0, 0, 0)).1 ≠ (tr l' i').1 ∧ (ts.getD i (0, 0, 0)).2.1 ≠ (tr l' i').2.1
          rw [get i x hx]
          exact b7 i x l' i' hx w'
        · subst hl'
          rw [new]
          show (ts.getD i (0, 0, 0)).1 ≠ (ts.getD i' (0, 0, 0)).1 ∧ (ts.getD i (0, 0, 0)).2.1 ≠ (ts.getD i' (0, 0, 0)).2.1
          rw [get i x hx, get i' x' hx']
          exact b6 i i' x x' (fun e => hne (by rw [e])) hx hx' }
end
end Dt
set_option Elab.async false
set_option linter.all false
set_option maxRecDepth 100000
set_option maxHeartbeats 4000000
namespace Dt
open PySem PySem.Spec L2
local macro_rules | `(tactic| walk_at "st") => `(tactic| (simp only [L2.start, List.map_cons, List.map_nil, List.length_cons, List.length_nil, List.replicate_succ, List.replicate_zero, List.cons_append, List.nil_append, Nat.zero_add, Nat.reduceAdd, Nat.reduceSub]))
local macro_rules | `(tactic| walk_at "r1") => `(tactic| with_reducible first
  | refine g_seq ?_
  | refine g_next ?_
  | refine g_asg ?_
  | refine g_ifS ?_
  | refine g_ret ?_
  | refine g_retN ?_
  | refine g_drop ?_
  | refine g_brk ?_
  | refine g_c ?_
  | refine g_op ?_
  | refine g_un ?_
  | refine g_I0 ?_
  | refine g_U ?_
  | refine g_eqI ?_
  | refine g_neI ?_
  | refine g_eqS ?_
  | refine g_neS ?_
  | refine g_test ?_
  | refine g_B ?_
  | refine g_bl ?_
  | refine g_if ?_
  | refine g_not ?_
  | refine g_and ?_
  | refine g_or ?_
  | refine g_andV ?_
  | refine g_orV ?_
  | refine g_notV ?_
  | refine g_blif ?_
  | refine g_chain ?_
  | refine g_nil ?_
  | refine g_cons ?_
  | refine g_cb ?_
  | refine g_call ?_
  | refine g_tup ?_
  | refine g_lst ?_
  | refine g_tfld ?_
  | refine g_dget ?_
  | refine g_mk ?_
  | refine g_lc2 ?_
  | refine g_gfld ?_
  | refine g_meth ?_
  | refine g_sfld ?_
  | refine g_din ?_
  | refine g_dput ?_
  | refine g_isN_int ?_
  | refine g_isN_str ?_
  | refine g_isN_ref ?_
  | refine g_isN_non ?_
  | refine g_nN_int ?_
  | refine g_nN_str ?_
  | refine g_nN_ref ?_
  | refine g_nN_non ?_
  | refine g_lc ?_
  | refine g_dc ?_
  | refine g_for ?_
  | refine g_iStr ?_
  | refine g_iList ?_
  | refine g_iTup ?_
  | refine g_iR1 ?_
  | refine g_iR2 ?_
  | refine g_iR3 ?_
  | refine g_iEnum ?_
  | refine g_iZip ?_
  | refine g_iZipA ?_
  | refine g_bm ?_
  | refine g_bm0 ?_
  | refine g_m1 ?_
  | refine g_sl ?_
  | refine g_poN ?_
  | refine g_poS ?_
  | refine g_poI ?_
  | refine g_yes ?_
  | refine g_gtup ?_
  | refine g_gcons ?_
  | refine g_gnil ?_
  | refine g_par ?_
  | refine g_isi_ii ?_
  | refine g_isi_ib ?_
  | refine g_isi_ss ?_
  | refine g_inC ?_
  | refine g_int1 ?_
  | refine g_int1b ?_
  | refine g_abs ?_
  | refine g_ltS ?_
  | refine iteT ?_
  | refine iteNT ?_
  | refine iteNF ?_
  | refine iteF ?_)
local macro_rules | `(tactic| walk_at "sd") => `(tactic| first | assumption | rfl | decide | omega)
local macro_rules | `(tactic| walk_at "hp") => `(tactic| first | assumption | exact upd_same | exact Same.get (by assumption) (by walk_at "hp") | exact Off.get (by assumption) (by walk_at "hp") (by walk_at "ne"))
local macro_rules | `(tactic| walk_at "ne") => `(tactic| first | assumption | (refine Ne.symm ?_; assumption) | exact ne_of_none (by walk_at "hp") (by assumption) | exact ne_none (by walk_at "hp") (by assumption) | exact ne_of (by walk_at "hp") (by walk_at "hp") (by intro z; cases z))
local macro_rules | `(tactic| walk_at "sq") => `(tactic| first | assumption | exact SqL.rd (by walk_at "hp") | exact SqT.rd (by walk_at "hp") | exact Same.seq (by assumption) (by walk_at "sq") | exact Same.seqT (by assumption) (by walk_at "sq"))
local macro_rules | `(tactic| walk_at "rI") => `(tactic| ((with_reducible refine g_I ?_ ?_); (focus (first | (refine Or.inl ⟨?_, ?_⟩ <;> (first | decide | omega)) | (refine Or.inr ⟨?_, ?_⟩ <;> (first | decide | omega)) | (show (0 : Int) < _; first | decide | omega | assumption) | (refine And.intro ?_ ?_ <;> (first | decide | omega | (refine And.intro ?_ ?_ <;> (first | decide | omega))))))))
local macro_rules | `(tactic| walk_at "r2") => `(tactic| first
  | ((with_reducible refine g_tvar ?_); (refine ⟨_, rfl, ?_⟩))
  | ((with_reducible refine g_name' (σ' := ?s) ?e ?h); (case e => (simp only [wipe, List.set_cons_zero, List.set_cons_succ]; first | done | rfl)))
  | (refine And.intro (show wipe _ _ = wipe _ _ from rfl) ?_)
  | walk_at "rI")
local macro_rules | `(tactic| walk_at "rd") => `(tactic| repeat (first | walk_at "r1" | walk_at "r2"))
local macro_rules | `(tactic| walk_at "gn") => `(tactic| (intro pA hA; generalize hG : upd _ _ _ = H2A; (have sA : Same _ H2A := hG ▸ Same.upd hA); (have lA : H2A pA = some _ := hG ▸ upd_same); clear hG))
local macro_rules | `(tactic| walk_at "mk") => `(tactic| (intro xM dxM h1M h2M hneM; generalize hG : upd (upd _ _ _) _ _ = HM; (have sM : Same _ HM := hG ▸ Same.updW (Same.upd h2M) h1M); (have lM : HM xM = some _ := hG ▸ upd_same); clear hG))
theorem names_last {names : List Str} (h : names.length = 8) : atI (names.map V.str) (-1) = some (.str (names.getD 7 Str.empty)) := by
  have e := names_split h
  have e2 : names.map V.str = (names.take 7).map V.str ++ [V.str (names.getD 7 Str.empty)] := by
    conv => lhs; rw [e]
    rw [List.map_append]
    rfl
  rw [e2]
  exact atI_last _ _
theorem same_none {H H' : Hp} {a : Addr} (e : Same H H') (h : H' a = none) : H a = none := by
  cases q : H a with
  | none => rfl
  | some o => rw [e _ _ q] at h; cases h
theorem fillP_nil {names : List Str} {S : ThS} (h : S.ws = []) : fillP names S = ⟨S.due + 2 ^ endLen names, nbP names S, (lotsP names (nbP names S) (S.due + 2 ^ endLen names)).reverse, S.st⟩ := by
  unfold fillP
  rw [if_pos h]
section
variable {P : Program} {w : World} {K : PySem.W.Frag} {mg : Str → Option Value} {base : Heap}
def sp_Throng_init : PySem.W.Frag → Sp := fun K vs H Q _ => ∃ lot t z dx H0, ∃ (names : List Str) (items : List Itm) (rt : Int → Int → Bool) (g : Int), vs = [.ref lot, .ref t, .ref z, .int g] ∧ Same H0 H ∧ H0 lot = none ∧ H lot = some (.ins (He.ga K "Throng") dx []) ∧ TongueAt K H0 t names ∧ NamesOk names ∧
  ∀ H', ThAt K H0 H' lot t z names items rt g ⟨0, 0, [], fun _ _ => 0⟩ → Q .non H'
theorem k_Throng (T : TX w K mg) : C8.Mak P w K mg base 1 "Throng" (He.ga K "Throng") (sp_Throng_init K) [] := by
  obtain ⟨f, fd, me, F, b⟩ := T.m_Throng_init
  have nd := sc_Throng_init.nd
  refine mak1 me (T.mk_Throng) T.v_Throng F b sc_Throng_init (fun vs H Q E h => ?_) (fun cdv A outer s H vs Q E hr h => ?_)
  · obtain ⟨lot, t, z, dx, H0, ns, its, rt, g, rfl, _⟩ := h
    rfl
  · obtain ⟨lot, t, z, dx, H0, names, items, rt, g, rfl, s0, f0, h0, tg, ok, q⟩ := h
    have el := endLen_le ok
    have el2 : (names.getD 7 Str.empty).length ≤ 8 := el.2
    obtain ⟨dxt, nt, hto, hnt⟩ := tg.same s0
    have htl : t ≠ lot := ins_ne hto h0 (by simp)
    have hnl : nt ≠ lot := ne_of hnt h0 (by intro z; cases z)
    refine ⟨_, (pss_cons (ps_fld (pv 0) (pv 1) rfl)
    (pss_cons (ps_fld (pv 0) (pv 2) rfl)
    (pss_cons (ps_fld (pv 0) (pv 3) rfl)
    (pss_cons (ps_fld (pv 0) (pe_callB kc_lenS (by rfl) T.z_len (by decide +kernel) (pa_cons (pe_ix ix_tup (pe_fld (pv 1) rfl) (pe_un un_neg pe_int) (fun _ _ => rfl)) pa_nil)) rfl)
    (pss_cons (ps_fld (pv 0) pe_int rfl)
    (pss_cons (ps_fld (pv 0) (pe_lst pa_nil) rfl)
    (pss_one (ps_fld (pv 0) (pe_lst pa_nil) rfl)))))))), ?_⟩
    walk_at "st"
    walk_at "rd"
    refine g_sf [("tongue", .ref t)] h0 T.cl_Throng T.n_Throng_tongue (show (0 : Nat) < 1000 by decide) (by kernel_rfl) fun H1 o1 l1 => ?_
    walk_at "rd"
    refine g_sf [("tongue", .ref t), ("puzzle", .ref z)] l1 T.cl_Throng T.n_Throng_puzzle (show (1 : Nat) < 1000 by decide) (by kernel_rfl) fun H2 o2 l2 => ?_
    walk_at "rd"
    refine g_sf [("tongue", .ref t), ("puzzle", .ref z), ("given", .int g)] l2 T.cl_Throng T.n_Throng_given (show (2 : Nat) < 1000 by decide) (by kernel_rfl) fun H3 o3 l3 => ?_
    walk_at "rd"
    refine g_fl (v := .ref nt) (o3 _ _ (o2 _ _ (o1 _ _ hto htl) htl) htl) T.cl_Tongue T.n_Tongue_names (by kernel_rfl) ?_
    walk_at "rd"
    refine g_ixT (SqT.rd (o3 _ _ (o2 _ _ (o1 _ _ hnt hnl) hnl) hnl)) (names_last ok.len) ?_
    walk_at "rd"
    refine g_lenS (by rw [sizeLine_eq]; omega) ?_
    walk_at "rd"
    refine g_sf [("tongue", .ref t), ("puzzle", .ref z), ("given", .int g), ("least", .int (endLen names))] l3 T.cl_Throng T.n_Throng_least (show (3 : Nat) < 1000 by decide) (by kernel_rfl) fun H4 o4 l4 => ?_
    walk_at "rd"
    refine g_sf [("tongue", .ref t), ("puzzle", .ref z), ("given", .int g), ("least", .int (endLen names)), ("due", .int (0 : Nat))] l4 T.cl_Throng T.n_Throng_due (show (4 : Nat) < 1000 by decide) (by kernel_rfl) fun H5 o5 l5 => ?_
    walk_at "rd"
    refine ⟨show (0 : Nat) ≤ sizeLine by decide, fun bl nbl => ?_⟩
    have s6 := Same.upd (o := .lst []) nbl
    have l6 := upd_same (H := H5) (a := bl) (o := .lst [])
    generalize upd H5 bl (.lst []) = H6 at s6 l6
    walk_at "rd"
    refine g_sf [("tongue", .ref t), ("puzzle", .ref z), ("given", .int g), ("least", .int (endLen names)), ("due", .int (0 : Nat)), ("begun", .ref bl)] (s6 _ _ l5) T.cl_Throng T.n_Throng_begun (show (5 : Nat) < 1000 by decide) (by kernel_rfl) fun H7 o7 l7 => ?_
    walk_at "rd"
    refine ⟨show (0 : Nat) ≤ sizeLine by decide, fun wl nwl => ?_⟩
    have s8 := Same.upd (o := .lst []) nwl
    have l8 := upd_same (H := H7) (a := wl) (o := .lst [])
    generalize upd H7 wl (.lst []) = H8 at s8 l8
    walk_at "rd"
    refine g_sf (thFs t z g (endLen names) 0 bl wl) (s8 _ _ l7) T.cl_Throng T.n_Throng_waiting (show (6 : Nat) < 1000 by decide) (by kernel_rfl) fun H9 o9 l9 => ?_
    have hbl : bl ≠ lot := ne_none l5 nbl
    have hwl : wl ≠ lot := ne_none l7 nwl
    have l67 := o7 _ _ l6 hbl
    have hbw : bl ≠ wl := ne_of_none l67 nwl
    have o05 : Off lot H H5 := fun b o h1 h2 => o5 _ _ (o4 _ _ (o3 _ _ (o2 _ _ (o1 _ _ h1 h2) h2) h2) h2) h2
    have s05 : Same H0 H5 := Off.to s0 o05 f0
    have s07 : Same H0 H7 := Off.to (s05.trans s6) o7 f0
    refine q H9 ⟨dx, bl, wl, [], [], fun _ _ => (0, 0, 0), ?_⟩
    exact {
      same := Off.to (s07.trans s8) o9 f0
      flot := f0
      fbl := same_none s05 nbl
      fwl := same_none s07 nwl
      bw := hbw
      olot := l9
      obl := o9 _ _ (s8 _ _ l67) hbl
      lbas := rfl
      llas := rfl
      beg := fun k ba la h1 => by simp at h1
      owl := o9 _ _ l8 hwl
      trs := fun l i p h1 h2 => by have h2' : l < endLen names + 0 := h2; omega
      dis := fun l i l' i' v => by have h2' : l < endLen names + 0 := v.2.1; have := v.1; omega }
def sp_Throng_fill : PySem.W.Frag → Sp := fun K vs H Q _ => ∃ H0 lot t z, ∃ (names : List Str) (items : List Itm) (rt : Int → Int → Bool) (g : Int) (S : ThS), vs = [.ref lot] ∧ TongueAt K H0 t names ∧ NamesOk names ∧ -1000000000000000000 ≤ g ∧ g ≤ 1000000000000000000 ∧ ThAt K H0 H lot t z names items rt g S ∧
  (S.ws = [] → S.due + 2 ^ endLen names < 2 ^ 23 ∧ (∀ i, S.st (endLen names + S.nb) i = 0) ∧ (fillP names S).ws ≠ [] ∧ endLen names + nbP names S ≤ 23) ∧ ∀ H', ThAt K H0 H' lot t z names items rt g (fillP names S) → Q .non H'
theorem c_Throng_fill (T : TX w K mg) : C8.Met P w K mg base 8 (He.ga K "Throng") "fill" (sp_Throng_fill K) [] := by
  obtain ⟨f, fd, me, F, b⟩ := T.m_Throng_fill
  have nd := sc_Throng_fill.nd
  refine C8.met0 T.cl_Throng me F b sc_Throng_fill (fun vs H Q E h => ?_) (fun cdv A outer s H vs Q E hr h => ?_)
  · obtain ⟨H0, lot, t, z, ns, its, rt, g, S, rfl, _⟩ := h
    rfl
  · obtain ⟨H0, lot, t, z, names, items, rt, g, S, rfl, tg, ok, g1, g2, th, pre, q⟩ := h
    have hu := hu_of hr
    have hu0 := Nat.lt_of_succ_lt hu
    have el := endLen_le ok
    refine ⟨_, (pss_one (ps_while PassesOwn.never (pt_cmpR (op_eqE hu0) (pe_fld (pv 0) rfl) (pe_lst pa_nil) (nomark _))
      (pss_cons (ps_fld (pv 0) (pe_op op_add (pe_fld (pv 0) rfl) (pe_op ko_shl pe_int (pe_fld (pv 0) rfl))) rfl)
      (pss_cons (ps_set (i := 1) nd rfl (Or.inl rfl) (pe_op op_add (pe_fld (pv 0) rfl) (pe_callB kc_len (by rfl) T.z_len (by decide +kernel) (pa_cons (pe_fld (pv 0) rfl) pa_nil))))
      (pss_cons (ps_if (pt_cmpR op_eq (pe_fld (pv 0) rfl) (pe_op ko_shl pe_int (pv 1)) (nomark _))
        (pss_cons (ps_setLc (i := 3) rfl nd rfl rfl (sw_true rfl rfl rfl (by decide +kernel)) (pi_list (C8.pe_c (c_all_of T) hr (by decide) (by rfl) (pa_cons (pe_fld (pv 0) rfl) (pa_cons (pv 1) pa_nil)))) (blkOk_by (own := [("each", 4)]) (N := n_Throng_fill) (sc := defScope s_Throng_fill) (by decide +kernel)) (fun _ _ _ _ _ => (pg_name (i := 4) nd rfl (Or.inl rfl))) (fun _ _ _ _ _ => pts_nil) (fun _ _ _ _ _ => (C8.pe_mk (k_Trial T) hr (by decide) (by rfl) (pa_cons (pv 4) (pa_cons (pe_K (K := K) (t := fun K => tFld K _ _) rfl (pe_fld (pv 0) rfl)) (pa_cons (pe_K (K := K) (t := fun K => tFld K _ _) rfl (pe_fld (pv 0) rfl)) pa_nil))))))
        (pss_one (ps_expr (pe_bm PySem.F.plainAttrs_list PySem.F.slot_list_append PySem.F.type_list_append mt_append (pe_fld (pv 0) rfl) (pa_cons (pe_tup (pa_cons (pe_op ko_shl pe_int (pv 1)) (pa_cons (pv 3) pa_nil))) pa_nil)))))
        pss_nil)
      (pss_cons (ps_setLc (i := 2) rfl nd rfl rfl (sw_true rfl rfl rfl (by decide +kernel)) (pi_list (pe_fld (pv 0) rfl)) (blkOk_by (own := [("factor", 5), ("trials", 3)]) (N := n_Throng_fill) (sc := defScope s_Throng_fill) (by decide +kernel)) (fun _ _ _ _ _ => (pg_2 (K := K) (i := 5) (j := 3) rfl rfl nd rfl (Or.inl rfl) (by first | exact .inl rfl | exact .inr rfl) rfl (Or.inl rfl) (by first | exact .inl rfl | exact .inr rfl) rfl rfl rfl rfl)) (fun _ _ _ _ _ => (pts_one (pt_cmpR op_eq (pe_op op_mod (pe_K (K := K) (t := fun K => tFld K _ _) rfl (pe_fld (pv 0) rfl)) (pv 5)) pe_int (nomark _)))) (fun _ _ _ _ _ => (pv 3)))
      (pss_one (ps_fld (pv 0) (pe_revL (pe_lc2 (vs1 := [6]) rfl nd (pi_list (pv 2)) (blkOk_by (own := [("trials", 3), ("trial", 6)]) (N := n_Throng_fill) (sc := defScope s_Throng_fill) (by decide +kernel)) (by decide) (fun _ _ _ _ _ => (pg_name (i := 3) nd rfl (Or.inl rfl))) (fun _ _ _ _ _ => pts_nil) (fun _ _ _ _ _ => (pi_K (K := K) (t := fun K => iList K _) rfl (pi_list (pv 3)))) (fun _ _ _ _ _ => (pg_name (i := 6) nd rfl (Or.inl rfl))) (fun _ _ _ _ _ => pts_nil) (fun _ _ _ _ _ => (pv 6)))) rfl)))))))), ?_⟩
    walk_at "st"
    refine g_while ⟨fun m σ H' => (∃ a b c d e f, σ = [some (.ref lot), a, b, c, d, e, f]) ∧ ∃ S', ThAt K H0 H' lot t z names items rt g S' ∧ ((m = 1 ∧ S' = S ∧ S.ws = []) ∨ (m = 0 ∧ S' = fillP names S ∧ S'.ws ≠ [])), ?_, fun m σ H1 hw => ?_⟩
    · by_cases hws : S.ws = []
      · exact ⟨1, ⟨_, _, _, _, _, _, rfl⟩, S, th, .inl ⟨rfl, rfl, hws⟩⟩
      · refine ⟨0, ⟨_, _, _, _, _, _, rfl⟩, S, th, .inr ⟨rfl, ?_, hws⟩⟩
        unfold fillP
        rw [if_neg hws]
    obtain ⟨⟨a0, b0, c0, d0, e0, f0, rfl⟩, S', ⟨dx, bl, wl, bas, las, tr, th1⟩, hor⟩ := hw
    walk_at "rd"
    refine g_fl (v := .ref wl) th1.olot T.cl_Throng T.n_Throng_waiting (by kernel_rfl) ?_
    walk_at "rd"
    refine ⟨show (0 : Nat) ≤ sizeLine by decide, fun nl nnl => ?_⟩
    have s2 := Same.upd (o := .lst []) nnl
    have l2 := upd_same (H := H1) (a := nl) (o := .lst [])
    generalize upd H1 nl (.lst []) = H2 at s2 l2
    walk_at "rd"
    have th2 := th1.mono s2
    refine ⟨wl, nl, _, _, rfl, rfl, SqL.rd th2.owl, SqL.rd l2, rfl, ?_⟩
    walk_at "rd"
    rcases hor with ⟨rfl, rfl, hws⟩ | ⟨rfl, rfl, hws⟩
    case inr =>
      refine ifD_f (fun z => hws (List.map_eq_nil_iff.mp z)) ?_
      exact q H2 ⟨dx, bl, wl, bas, las, tr, th2⟩
    obtain ⟨pr1, pr2, pr3, pr4⟩ := pre hws
    refine ifD_t (by rw [hws]; rfl) ?_
    refine ⟨fun σ H' => ∃ m', m' < 1 ∧ ((∃ a b c d e f, σ = [some (.ref lot), a, b, c, d, e, f]) ∧ ∃ S'', ThAt K H0 H' lot t z names items rt g S'' ∧ ((m' = 1 ∧ S'' = S' ∧ S'.ws = []) ∨ (m' = 0 ∧ S'' = fillP names S' ∧ S''.ws ≠ []))), fun σ' H' h => h, ?_⟩
    walk_at "rd"
    refine g_fl (v := .int S'.due) th2.olot T.cl_Throng T.n_Throng_due (by kernel_rfl) ?_
    walk_at "rd"
    refine g_fl (v := .int (endLen names)) th2.olot T.cl_Throng T.n_Throng_least (by kernel_rfl) ?_
    refine g_shlN (shl_ok (n := 1) (by decide) (by have := el.2; omega)) ?_
    walk_at "rd"
    rw [show ((S'.due : Int) + 1 * 2 ^ endLen names) = ((S'.due + 2 ^ endLen names : Nat) : Int) by rw [Int.one_mul, Int.natCast_add, Int.natCast_pow]; rfl]
    refine g_sf (thFs t z g (endLen names) (S'.due + 2 ^ endLen names) bl wl) th2.olot T.cl_Throng T.n_Throng_due (show (7 : Nat) < 1000 by decide) (by kernel_rfl) fun H3 o3 l3 => ?_
    have th3 := th2.setDue o3 l3
    walk_at "rd"
    refine g_fl (v := .int (endLen names)) th3.olot T.cl_Throng T.n_Throng_least (by kernel_rfl) ?_
    walk_at "rd"
    refine g_fl (v := .ref bl) th3.olot T.cl_Throng T.n_Throng_begun (by kernel_rfl) ?_
    walk_at "rd"
    refine g_lenL (SqL.rd th3.obl) ?_
    walk_at "rd"
    rw [List.length_map, th3.lbas, show ((endLen names : Int) + ((S'.nb : Nat) : Int)) = ((endLen names + S'.nb : Nat) : Int) by omega]
    refine g_fl (v := .int (S'.due + 2 ^ endLen names : Nat)) th3.olot T.cl_Throng T.n_Throng_due (by kernel_rfl) ?_
    walk_at "rd"
    have hnbx : ∃ nbx, nbx = nbP names S' := ⟨_, rfl⟩
    obtain ⟨nbx, hnbx⟩ := hnbx
    have hnb2 := hnbx
    unfold nbP at hnb2
    by_cases hD : S'.due + 2 ^ endLen names = 2 ^ (endLen names + S'.nb)
    case' pos =>
      rw [if_pos hD] at hnb2
      have hL22 : endLen names + S'.nb ≤ 22 := by omega
      refine g_shlN (shl_ok (n := 1) (by decide) (by omega)) ?_
      walk_at "rd"
      refine ifD_t (by rw [hD, Int.one_mul, Int.natCast_pow]; rfl) ?_
      walk_at "rd"
      refine g_fl (v := .ref t) th3.olot T.cl_Throng T.n_Throng_tongue (by kernel_rfl) ?_
      walk_at "rd"
      refine ⟨t, names, endLen names + S'.nb, rfl, tg.same th3.same, ok, by omega, fun ra H4 s4 rat => ?_⟩
      obtain ⟨pas, hr1, hr2⟩ := rat
      have th4 := th3.mono s4
      refine ⟨ra, rfl, ⟨_, SqL.rd hr1⟩, fun D nD => ?_⟩
      refine lc_it walk_list (fun i H' => Same H4 H' ∧ ∃ ts : List (Addr × Addr × Addr), ts.length = i ∧ H' D = some (.lst (ts.map fun x => V.ref x.1)) ∧ (∀ (j : Nat) (x : Addr × Addr × Addr) (p : List Str), ts[j]? = some x → (rows (chF names) (endLen names + S'.nb))[j]? = some p → TrAt K H' x.1 x.2.1 x.2.2 z p items.length (rt g) g 0 ∧ H4 x.1 = none ∧ H4 x.2.1 = none) ∧ ∀ (j j' : Nat) (x x' : Addr × Addr × Addr), j ≠ j' → ts[j]? = some x → ts[j']? = some x' → x.1 ≠ x'.1 ∧ x.2.1 ≠ x'.2.1) ⟨Same.upd nD, [], rfl, upd_same, fun j x p h => by simp at h, fun j j' x x' _ h => by simp at h⟩ (fun _ _ _ pv => SqL.rd (pv.1 _ _ hr1)) (fun i v H5 H6 hi pv y => ?_) (fun H5 pv => ?_)
      · obtain ⟨s5, ts, hts, lD, hT, hdis⟩ := pv
        obtain ⟨rfl, hv⟩ := y
        obtain ⟨pa, hpa, rfl⟩ := get_map hv
        rw [List.length_map, hr2.1] at hi
        have hpi : (rows (chF names) (endLen names + S'.nb))[i]? = some (rows (chF names) (endLen names + S'.nb))[i] := List.getElem?_eq_getElem hi
        generalize (rows (chF names) (endLen names + S'.nb))[i] = p at hpi
        have hmem := rows_mem ok (List.mem_of_getElem? hpi)
        have hplen := lenP_ge ok hmem.1
        rw [hmem.2] at hplen
        have hpt : H6 pa = some (.tup (p.map V.str)) := s5 _ _ (hr2.2 i pa p hpa hpi)
        walk_at "rd"
        refine g_fl (v := .ref z) (s5 _ _ th4.olot) T.cl_Throng T.n_Throng_puzzle (by kernel_rfl) ?_
        walk_at "rd"
        refine g_fl (v := .int g) (s5 _ _ th4.olot) T.cl_Throng T.n_Throng_given (by kernel_rfl) ?_
        walk_at "rd"
        walk_at "mk"
        rename_i ta dxt nta ntd hned H7 s7 l7
        refine ⟨ta, pa, z, dxt, p, g, rfl, l7, s7 _ _ hpt, by omega, hmem.1, g1, g2, fun ra H8 o8 nra tra => ⟨rfl, ?_⟩⟩
        have s68 : Same H6 H8 := Off.to s7 o8 nta
        have nra6 := same_none s7 nra
        have tra8 := tra items.length (rt g)
        have hlen := rows_le ok (endLen names + S'.nb)
        have hpow : 2 ^ (endLen names + S'.nb) ≤ 2 ^ 22 := Nat.pow_le_pow_right (by decide) hL22
        refine ⟨_, s68 _ _ lD, by rw [List.length_map, hts, sizeLine_eq]; omega, Same.updW (s5.trans s68) nD, ts ++ [(ta, ra, pa)], by rw [List.length_append, hts]; rfl, by rw [upd_same, List.map_append]; rfl, fun j x p' h1 h2 => ?_, fun j j' x x' hjj h1 h2 => ?_⟩
        · by_cases hj : j < ts.length
          · rw [List.getElem?_append_left hj] at h1
            obtain ⟨a1, a2, a3⟩ := hT j x p' h1 h2
            have a1' := a1
            obtain ⟨⟨d, o1⟩, ⟨dr, k, o2⟩, o3⟩ := a1'
            refine ⟨a1.keep (fun o e => ?_) (fun o e => ?_) (fun o e => ?_), a2, a3⟩
            · exact (Off.upd (l := D)) _ _ (s68 _ _ e) (ne_of o1 lD (by intro z; cases z))
            · exact (Off.upd (l := D)) _ _ (s68 _ _ e) (ne_of o2 lD (by intro z; cases z))
            · exact (Off.upd (l := D)) _ _ (s68 _ _ e) (ne_of o3 lD (by intro z; cases z))
          · have hj2 : j = ts.length := by
              have := (List.getElem?_eq_some_iff.mp h1).1
              rw [List.length_append, List.length_singleton] at this
              omega
            subst hj2
            rw [List.getElem?_append_right (Nat.le_refl _), Nat.sub_self] at h1
            have e1 : (ta, ra, pa) = x := by simpa using h1
            subst e1
            rw [hts] at h2
            have e2 : p = p' := Option.some.inj (hpi.symm.trans h2)
            subst e2
            have a1' := tra8
            obtain ⟨⟨d, o1⟩, ⟨dr, k, o2⟩, o3⟩ := a1'
            have lD8 := s68 _ _ lD
            refine ⟨tra8.keep (fun o e => ?_) (fun o e => ?_) (fun o e => ?_), same_none s5 nta, same_none s5 nra6⟩
            · exact (Off.upd (l := D)) _ _ e (ne_of o1 lD8 (by intro z; cases z))
            · exact (Off.upd (l := D)) _ _ e (ne_of o2 lD8 (by intro z; cases z))
            · exact (Off.upd (l := D)) _ _ e (ne_of o3 lD8 (by intro z; cases z))
        · have old : ∀ (j : Nat) (x : Addr × Addr × Addr), ts[j]? = some x → x.1 ≠ ta ∧ x.2.1 ≠ ra := by
            intro j x hx
            have hjl := (List.getElem?_eq_some_iff.mp hx).1
            have hjr : (rows (chF names) (endLen names + S'.nb))[j]? = some (rows (chF names) (endLen names + S'.nb))[j] := List.getElem?_eq_getElem (by omega)
            obtain ⟨⟨⟨d, o1⟩, ⟨dr, k, o2⟩, o3⟩, _⟩ := hT j x _ hx hjr
            exact ⟨ne_of_none o1 nta, ne_of_none o2 nra6⟩
          have spl : ∀ (j : Nat) (x : Addr × Addr × Addr), (ts ++ [(ta, ra, pa)])[j]? = some x → (j < ts.length ∧ ts[j]? = some x) ∨ (j = ts.length ∧ x = (ta, ra, pa)) := by
            intro j x hx
            by_cases hj : j < ts.length
            · rw [List.getElem?_append_left hj] at hx
              exact .inl ⟨hj, hx⟩
            · have hj2 : j = ts.length := by
                have := (List.getElem?_eq_some_iff.mp hx).1
                rw [List.length_append, List.length_singleton] at this
                omega
              subst hj2
              rw [List.getElem?_append_right (Nat.le_refl _), Nat.sub_self] at hx
              exact .inr ⟨rfl, by simpa using hx.symm⟩
          rcases spl j x h1 with ⟨hj, k1⟩ | ⟨hj, rfl⟩
          · rcases spl j' x' h2 with ⟨hj', k2⟩ | ⟨hj', rfl⟩
            · exact hdis j j' x x' hjj k1 k2
            · exact old j x k1
          · rcases spl j' x' h2 with ⟨hj', k2⟩ | ⟨hj', rfl⟩
            · obtain ⟨c1, c2⟩ := old j' x' k2
              exact ⟨Ne.symm c1, Ne.symm c2⟩
            · exact absurd (hj.trans hj'.symm) hjj
      obtain ⟨s5, ts, hts, lD, hT, hdis⟩ := pv
      rw [List.length_map, hr2.1] at hts
      have th5 := th4.mono s5
      walk_at "rd"
      refine g_fl (v := .ref bl) th5.olot T.cl_Throng T.n_Throng_begun (by kernel_rfl) ?_
      refine ⟨tyL (SqL.rd th5.obl), ?_⟩
      walk_at "rd"
      refine g_shlN (shl_ok (n := 1) (by decide) (by omega)) ?_
      walk_at "rd"
      refine ⟨show (2 : Nat) ≤ sizeLine by decide, fun ba nba => ?_⟩
      rw [show ((1 : Int) * 2 ^ (endLen names + S'.nb)) = ((2 ^ (endLen names + S'.nb) : Nat) : Int) by rw [Int.one_mul, Int.natCast_pow]; rfl]
      have s6 := Same.upd (o := .tup [.int ((2 ^ (endLen names + S'.nb) : Nat) : Int), .ref D]) nba
      have l6 := upd_same (H := H5) (a := ba) (o := .tup [.int ((2 ^ (endLen names + S'.nb) : Nat) : Int), .ref D])
      generalize upd H5 ba (.tup [.int ((2 ^ (endLen names + S'.nb) : Nat) : Int), .ref D]) = H6 at s6 l6
      have th6 := th5.mono s6
      walk_at "rd"
      refine ⟨bl, _, _, rfl, rfl, th6.obl, by rw [List.length_map, th6.lbas, sizeLine_eq]; show S'.nb < _; omega, ?_⟩
      have hb := th6.begin (ba := ba) (la := D) (ts := ts) (H' := upd H6 bl (.lst (bas.map V.ref ++ [V.ref ba]))) Off.upd (by rw [upd_same, List.map_append]; rfl) l6 (ne_none th4.obl nD) (ne_none th4.owl nD) hts (s6 _ _ lD) pr2 (fun i x p h1 h2 => by
        obtain ⟨a1, a2, a3⟩ := hT i x p h1 h2
        exact ⟨a1.keep (fun o => s6 _ o) (fun o => s6 _ o) (fun o => s6 _ o), same_none th4.same a2, same_none th4.same a3⟩) hdis (fun i x l j hx v => by
        have hil := (List.getElem?_eq_some_iff.mp hx).1
        have hir : (rows (chF names) (endLen names + S'.nb))[i]? = some (rows (chF names) (endLen names + S'.nb))[i] := List.getElem?_eq_getElem (by omega)
        obtain ⟨_, a2, a3⟩ := hT i x _ hx hir
        have hjr : (rows (chF names) l)[j]? = some ((rows (chF names) l)[j]'v.2.2) := List.getElem?_eq_getElem v.2.2
        obtain ⟨⟨⟨d, o1⟩, ⟨dr, k, o2⟩, o3⟩, _⟩ := th4.trs l j _ v.1 v.2.1 hjr
        exact ⟨ne_none o1 a2, ne_none o2 a3⟩)
      obtain ⟨tr5, hb⟩ := hb
      have th7 : ∃ bas5 las5 tr5, ThIn K H0 (upd H6 bl (.lst (bas.map V.ref ++ [V.ref ba]))) lot t z names items rt g ⟨S'.due + 2 ^ endLen names, nbx, [], S'.st⟩ dx bl wl bas5 las5 tr5 := by
        rcases hb with hb | hb
        · refine ⟨bas ++ [ba], las ++ [D], tr5, ?_⟩
          rw [hnb2]
          have e : S'.ws = [] := hws
          rw [← e]
          exact hb
        · exact absurd hws hb
      generalize upd H6 bl (.lst (bas.map V.ref ++ [V.ref ba])) = H7 at th7
      walk_at "rd"
    case' neg =>
      rw [if_neg hD] at hnb2
      have hle : endLen names + S'.nb ≤ 23 := by rw [← hnbx, hnb2] at pr4; exact pr4
      refine g_shlN (shl_ok (n := 1) (by decide) (by omega)) ?_
      walk_at "rd"
      refine ifD_f (fun z => hD ?_) ?_
      · rw [Int.one_mul] at z
        have z2 : ((S'.due + 2 ^ endLen names : Nat) : Int) = ((2 ^ (endLen names + S'.nb) : Nat) : Int) := by rw [z, Int.natCast_pow]; rfl
        exact Int.ofNat.inj z2
      have th7 : ∃ bas5 las5 tr5, ThIn K H0 H3 lot t z names items rt g ⟨S'.due + 2 ^ endLen names, nbx, [], S'.st⟩ dx bl wl bas5 las5 tr5 := by
        refine ⟨bas, las, tr, ?_⟩
        rw [hnb2]
        have e : S'.ws = [] := hws
        rw [← e]
        exact th3
      revert th7
      generalize H3 = H7
      intro th7
      walk_at "rd"
    all_goals
      clear th th1 th2 th3
      obtain ⟨bas5, las5, tr5, th7⟩ := th7
      have hnn : endLen names + nbx ≤ 23 := by rw [hnbx]; exact pr4
      refine g_fl (v := .ref bl) th7.olot T.cl_Throng T.n_Throng_begun (by kernel_rfl) ?_
      refine ⟨bl, rfl, ⟨_, SqL.rd th7.obl⟩, fun E nE => ?_⟩
      refine lc_it walk_list (PvL H7 E (fun k : Nat => if decide ((S'.due + 2 ^ endLen names) % 2 ^ (endLen names + k) = 0) = true then some (V.ref (las5.getD k 0)) else none) (List.range nbx)) (pvl_start nE) (fun _ _ _ pv => SqL.rd (pv.1 _ _ th7.obl)) (fun k v H8 H9 hi pv y => ?_) (fun H8 pv => ?_)
      · obtain ⟨rfl, hv⟩ := y
        obtain ⟨ba, hba, rfl⟩ := get_map hv
        rw [List.length_map, th7.lbas] at hi
        have hi' : k < nbx := hi
        obtain ⟨la, hla⟩ : ∃ la, las5[k]? = some la := ⟨_, List.getElem?_eq_getElem (by rw [th7.llas]; exact hi)⟩
        have hgl : las5.getD k 0 = la := by rw [List.getD_eq_getElem?_getD, hla]; rfl
        have th9 := th7.mono pv.1
        obtain ⟨hb1, _⟩ := th9.beg k ba la hba hla
        walk_at "rd"
        refine ⟨ba, _, rfl, SqT.rd hb1, rfl, ?_⟩
        walk_at "rd"
        refine g_fl (v := .int (S'.due + 2 ^ endLen names : Nat)) th9.olot T.cl_Throng T.n_Throng_due (by kernel_rfl) ?_
        walk_at "rd"
        refine g_I (C := fun _ j => 0 < j) (Int.natCast_pos.mpr (Nat.two_pow_pos _)) ?_
        rw [← Int.natCast_emod]
        walk_at "rd"
        by_cases hm : (S'.due + 2 ^ endLen names) % 2 ^ (endLen names + k) = 0
        · refine ifD_t (by rw [hm]; rfl) ?_
          walk_at "rd"
          exact pvl_yes nE pv (Same.refl _) (range_get hi') (by rw [if_pos (decide_eq_true hm), hgl]) (by rw [List.length_range, sizeLine_eq]; omega)
        · refine ifD_f (fun z => hm (Int.ofNat.inj z)) ?_
          exact pvl_no pv (Same.refl _) (range_get hi') (by rw [if_neg (by rw [decide_eq_true_iff]; exact hm)])
      · rw [List.length_map, th7.lbas] at pv
        obtain ⟨s8, lE⟩ := pvl_end (xs := List.range nbx) (by rw [List.length_range]; exact pv)
        rw [fm_if] at lE
        have th8 := th7.mono s8
        walk_at "rd"
        unfold tRevL
        walk_at "rd"
        refine ⟨E, rfl, ⟨_, SqL.rd lE⟩, fun D2 nD2 => ?_⟩
        have hks : ∀ k, k ∈ (List.range nbx).filter (fun k => decide ((S'.due + 2 ^ endLen names) % 2 ^ (endLen names + k) = 0)) → k < nbx := fun k hk => List.mem_range.mp (List.mem_filter.mp hk).1
        have hflat : (lotsP names nbx (S'.due + 2 ^ endLen names)).map (fun id => V.ref (tr5 id.1 id.2).1) = ((List.range nbx).filter (fun k => decide ((S'.due + 2 ^ endLen names) % 2 ^ (endLen names + k) = 0))).flatMap fun k => (List.range (cF names (endLen names + k))).map fun i => V.ref (tr5 (endLen names + k) i).1 := by
          unfold lotsP
          induction List.range nbx with
          | nil => rfl
          | cons k l ih =>
            rw [List.flatMap_cons, List.map_append, ih, List.filter_cons]
            by_cases hm : (S'.due + 2 ^ endLen names) % 2 ^ (endLen names + k) = 0
            · rw [if_pos hm, if_pos (decide_eq_true hm), List.flatMap_cons, List.map_map]
              rfl
            · rw [if_neg hm, if_neg (by rw [decide_eq_true_iff]; exact hm)]
              rfl
        have hlen0 := lotsP_len ok (D := S'.due + 2 ^ endLen names) nbx
        have hpow : 2 ^ (endLen names + nbx) ≤ 2 ^ 23 := Nat.pow_le_pow_right (by decide) hnn
        have hlen1 : (((List.range nbx).filter (fun k => decide ((S'.due + 2 ^ endLen names) % 2 ^ (endLen names + k) = 0))).flatMap fun k => (List.range (cF names (endLen names + k))).map fun i => V.ref (tr5 (endLen names + k) i).1).length ≤ 2 ^ 23 := by
          rw [← hflat, List.length_map]
          omega
        generalize (List.range nbx).filter (fun k => decide ((S'.due + 2 ^ endLen names) % 2 ^ (endLen names + k) = 0)) = ks at lE hks hflat hlen1
        refine lc2_it walk_list (fun i H' => Same H8 H' ∧ H' D2 = some (.lst ((ks.take i).flatMap fun k => (List.range (cF names (endLen names + k))).map fun j => V.ref (tr5 (endLen names + k) j).1))) ⟨Same.upd nD2, upd_same⟩ (fun _ _ _ pv => SqL.rd (pv.1 _ _ lE)) (fun i v H9 HA hi pv y => ?_) (fun H9 pv => ?_)
        · obtain ⟨s9, l9⟩ := pv
          obtain ⟨rfl, hv⟩ := y
          obtain ⟨k, hk, rfl⟩ := get_map hv
          have hkn := hks k (List.mem_of_getElem? hk)
          obtain ⟨la, hla⟩ : ∃ la, las5[k]? = some la := ⟨_, List.getElem?_eq_getElem (by rw [th7.llas]; exact hkn)⟩
          obtain ⟨ba, hba⟩ : ∃ ba, bas5[k]? = some ba := ⟨_, List.getElem?_eq_getElem (by rw [th7.lbas]; exact hkn)⟩
          have hgl : las5.getD k 0 = la := by rw [List.getD_eq_getElem?_getD, hla]; rfl
          obtain ⟨_, _, _, hla4⟩ := (th8.mono s9).beg k ba la hba hla
          have hbig : ∀ j, j ≤ cF names (endLen names + k) → (((ks.take i).flatMap fun k => (List.range (cF names (endLen names + k))).map fun j => V.ref (tr5 (endLen names + k) j).1) ++ (List.range j).map fun j => V.ref (tr5 (endLen names + k) j).1).length ≤ 2 ^ 23 := by
            intro j hj
            refine Nat.le_trans ?_ hlen1
            have e : ks = ks.take i ++ k :: ks.drop (i + 1) := by
              have e1 : ks.drop i = k :: ks.drop (i + 1) := List.drop_eq_getElem?_toList_append.trans (by rw [hk]; rfl)
              rw [← e1, List.take_append_drop]
            conv => rhs; rw [e]
            rw [List.flatMap_append, List.flatMap_cons, List.length_append, List.length_append, List.length_append, List.length_map, List.length_map, List.length_range, List.length_range]
            omega
          rw [hgl]
          walk_at "rd"
          refine ⟨la, rfl, ⟨_, SqL.rd hla4⟩, ?_⟩
          refine in_it (walk_list (xs := (List.range (cF names (endLen names + k))).map fun i => V.ref (tr5 (endLen names + k) i).1)) (fun j H' => Same H8 H' ∧ H' D2 = some (.lst (((ks.take i).flatMap fun k => (List.range (cF names (endLen names + k))).map fun j => V.ref (tr5 (endLen names + k) j).1) ++ (List.range j).map fun j => V.ref (tr5 (endLen names + k) j).1))) ⟨s9, by rw [List.range_zero, List.map_nil, List.append_nil]; exact l9⟩ (fun _ _ _ pv => SqL.rd ?_) (fun j v HB HC hj pv y => ?_) (fun HB pv => ?_)
          · exact (((th8.mono pv.1).beg k ba la hba hla).2.2.2)
          · obtain ⟨sB, lB⟩ := pv
            obtain ⟨rfl, hv2⟩ := y
            rw [List.length_map, List.length_range] at hj
            rw [List.getElem?_map, range_get hj] at hv2
            have ev : v = V.ref (tr5 (endLen names + k) j).1 := (Option.some.inj hv2).symm
            subst ev
            have hb1 := hbig j (Nat.le_of_lt hj)
            walk_at "rd"
            refine ⟨_, lB, by rw [sizeLine_eq]; omega, Same.updW sB nD2, ?_⟩
            rw [upd_same, List.range_succ, List.map_append, List.append_assoc]
            rfl
          · obtain ⟨sB, lB⟩ := pv
            rw [List.length_map, List.length_range] at lB
            refine ⟨sB, ?_⟩
            rw [lB, take_succ' hk, List.flatMap_append, List.flatMap_cons, List.flatMap_nil, List.append_nil]
        · obtain ⟨s9, l9⟩ := pv
          rw [List.length_map, List.take_length, ← hflat] at l9
          have th9 := th8.mono s9
          walk_at "rd"
          refine ⟨D2, _, rfl, SqL.rd l9, fun w2 nw2 => ?_⟩
          have sA := Same.upd (o := .lst (List.reverse ((lotsP names nbx (S'.due + 2 ^ endLen names)).map (fun id => V.ref (tr5 id.1 id.2).1)))) nw2
          have lA := upd_same (H := H9) (a := w2) (o := .lst (List.reverse ((lotsP names nbx (S'.due + 2 ^ endLen names)).map (fun id => V.ref (tr5 id.1 id.2).1))))
          generalize upd H9 w2 (.lst (List.reverse ((lotsP names nbx (S'.due + 2 ^ endLen names)).map (fun id => V.ref (tr5 id.1 id.2).1)))) = HA at sA lA
          have thA := th9.mono sA
          walk_at "rd"
          refine g_sf (thFs t z g (endLen names) (S'.due + 2 ^ endLen names) bl w2) thA.olot T.cl_Throng T.n_Throng_waiting (show (7 : Nat) < 1000 by decide) (by kernel_rfl) fun HB oB lB => ?_
          have hw2 : w2 ≠ lot := ne_none th9.olot nw2
          have thB := thA.setWait (wl' := w2) (ws := (lotsP names nbx (S'.due + 2 ^ endLen names)).reverse) oB lB (same_none th9.same nw2) (ne_of_none th9.obl nw2) (fun k la hla => by
            have hk := (List.getElem?_eq_some_iff.mp hla).1
            obtain ⟨ba, hba⟩ : ∃ ba, bas5[k]? = some ba := ⟨_, List.getElem?_eq_getElem (by rw [th7.lbas, ← th7.llas]; exact hk)⟩
            exact ne_of_none (th9.beg k ba la hba hla).2.2.2 nw2) (by rw [List.map_reverse]; exact oB _ _ lA hw2)
          refine ⟨0, by decide, ⟨_, _, _, _, _, _, rfl⟩, fillP names S', ⟨dx, bl, w2, bas5, las5, tr5, ?_⟩, .inr ⟨rfl, rfl, pr3⟩⟩
          rw [fillP_nil hws, ← hnbx]
          exact thB
end
end Dt
set_option Elab.async false
set_option linter.all false
set_option maxRecDepth 100000
set_option maxHeartbeats 4000000
namespace Dt
open PySem PySem.Spec L2
local macro_rules | `(tactic| walk_at "st") => `(tactic| (simp only [L2.start, List.map_cons, List.map_nil, List.length_cons, List.length_nil, List.replicate_succ, List.replicate_zero, List.cons_append, List.nil_append, Nat.zero_add, Nat.reduceAdd, Nat.reduceSub]))
local macro_rules | `(tactic| walk_at "r1") => `(tactic| with_reducible first
  | refine g_seq ?_
  | refine g_next ?_
  | refine g_asg ?_
  | refine g_ifS ?_
  | refine g_ret ?_
  | refine g_retN ?_
  | refine g_drop ?_
  | refine g_brk ?_
  | refine g_c ?_
  | refine g_op ?_
  | refine g_un ?_
  | refine g_I0 ?_
  | refine g_U ?_
  | refine g_eqI ?_
  | refine g_neI ?_
  | refine g_eqS ?_
  | refine g_neS ?_
  | refine g_test ?_
  | refine g_B ?_
  | refine g_bl ?_
  | refine g_if ?_
  | refine g_not ?_
  | refine g_and ?_
  | refine g_or ?_
  | refine g_andV ?_
  | refine g_orV ?_
  | refine g_notV ?_
  | refine g_blif ?_
  | refine g_chain ?_
  | refine g_nil ?_
  | refine g_cons ?_
  | refine g_cb ?_
  | refine g_call ?_
  | refine g_tup ?_
  | refine g_lst ?_
  | refine g_tfld ?_
  | refine g_dget ?_
  | refine g_mk ?_
  | refine g_lc2 ?_
  | refine g_gfld ?_
  | refine g_meth ?_
  | refine g_sfld ?_
  | refine g_din ?_
  | refine g_dput ?_
  | refine g_isN_int ?_
  | refine g_isN_str ?_
  | refine g_isN_ref ?_
  | refine g_isN_non ?_
  | refine g_nN_int ?_
  | refine g_nN_str ?_
  | refine g_nN_ref ?_
  | refine g_nN_non ?_
  | refine g_lc ?_
  | refine g_dc ?_
  | refine g_for ?_
  | refine g_iStr ?_
  | refine g_iList ?_
  | refine g_iTup ?_
  | refine g_iR1 ?_
  | refine g_iR2 ?_
  | refine g_iR3 ?_
  | refine g_iEnum ?_
  | refine g_iZip ?_
  | refine g_iZipA ?_
  | refine g_bm ?_
  | refine g_bm0 ?_
  | refine g_m1 ?_
  | refine g_sl ?_
  | refine g_poN ?_
  | refine g_poS ?_
  | refine g_poI ?_
  | refine g_yes ?_
  | refine g_gtup ?_
  | refine g_gcons ?_
  | refine g_gnil ?_
  | refine g_par ?_
  | refine g_isi_ii ?_
  | refine g_isi_ib ?_
  | refine g_isi_ss ?_
  | refine g_inC ?_
  | refine g_int1 ?_
  | refine g_int1b ?_
  | refine g_abs ?_
  | refine g_ltS ?_
  | refine iteT ?_
  | refine iteNT ?_
  | refine iteNF ?_
  | refine iteF ?_)
local macro_rules | `(tactic| walk_at "sd") => `(tactic| first | assumption | rfl | decide | omega)
local macro_rules | `(tactic| walk_at "hp") => `(tactic| first | assumption | exact upd_same | exact Same.get (by assumption) (by walk_at "hp") | exact Off.get (by assumption) (by walk_at "hp") (by walk_at "ne"))
local macro_rules | `(tactic| walk_at "ne") => `(tactic| first | assumption | (refine Ne.symm ?_; assumption) | exact ne_of_none (by walk_at "hp") (by assumption) | exact ne_none (by walk_at "hp") (by assumption) | exact ne_of (by walk_at "hp") (by walk_at "hp") (by intro z; cases z))
local macro_rules | `(tactic| walk_at "sq") => `(tactic| first | assumption | exact SqL.rd (by walk_at "hp") | exact SqT.rd (by walk_at "hp") | exact Same.seq (by assumption) (by walk_at "sq") | exact Same.seqT (by assumption) (by walk_at "sq"))
local macro_rules | `(tactic| walk_at "rI") => `(tactic| ((with_reducible refine g_I ?_ ?_); (focus (first | (refine Or.inl ⟨?_, ?_⟩ <;> (first | decide | omega)) | (refine Or.inr ⟨?_, ?_⟩ <;> (first | decide | omega)) | (show (0 : Int) < _; first | decide | omega | assumption) | (refine And.intro ?_ ?_ <;> (first | decide | omega | (refine And.intro ?_ ?_ <;> (first | decide | omega))))))))
local macro_rules | `(tactic| walk_at "r2") => `(tactic| first
  | ((with_reducible refine g_tvar ?_); (refine ⟨_, rfl, ?_⟩))
  | ((with_reducible refine g_name' (σ' := ?s) ?e ?h); (case e => (simp only [wipe, List.set_cons_zero, List.set_cons_succ]; first | done | rfl)))
  | (refine And.intro (show wipe _ _ = wipe _ _ from rfl) ?_)
  | walk_at "rI")
local macro_rules | `(tactic| walk_at "rd") => `(tactic| repeat (first | walk_at "r1" | walk_at "r2"))
local macro_rules | `(tactic| walk_at "gn") => `(tactic| (intro pA hA; generalize hG : upd _ _ _ = H2A; (have sA : Same _ H2A := hG ▸ Same.upd hA); (have lA : H2A pA = some _ := hG ▸ upd_same); clear hG))
local macro_rules | `(tactic| walk_at "mk") => `(tactic| (intro xM dxM h1M h2M hneM; generalize hG : upd (upd _ _ _) _ _ = HM; (have sM : Same _ HM := hG ▸ Same.updW (Same.upd h2M) h1M); (have lM : HM xM = some _ := hG ▸ upd_same); clear hG))
def stU (st : Nat → Nat → Nat) (l i : Nat) : Nat → Nat → Nat := fun l' i' => if l' = l ∧ i' = i then st l i + 1 else st l' i'
/-- behind a tick: the last of the waiting has tried -/
def tickS (names : List Str) (S : ThS) (l i : Nat) : ThS := ⟨(fillP names S).due, (fillP names S).nb, (fillP names S).ws.dropLast, stU (fillP names S).st l i⟩
theorem keys_TR : (["program", "puzzle", "running", "steps", "waits", "answer"] : List Str) ≠ (["program", "given", "left", "right", "spot", "steps", "has_fallen"] : List Str) := by decide +kernel
section
variable {K : PySem.W.Frag} {H0 H H' : Hp} {lot t z : Addr} {names : List Str} {items : List Itm} {rt : Int → Int → Bool} {g : Int} {S : ThS} {dx bl wl : Addr} {bas las : List Addr} {tr : Nat → Nat → Addr × Addr × Addr}
theorem ThIn.stepped (h : ThIn K H0 H lot t z names items rt g S dx bl wl bas las tr) {l i : Nat} {p : List Str} (v : Vld names S.nb l i) (hp : (rows (chF names) l)[i]? = some p) (s : Off2 (tr l i).1 (tr l i).2.1 H H')
    (ht : TrAt K H' (tr l i).1 (tr l i).2.1 (tr l i).2.2 z p items.length (rt g) g (S.st l i + 1)) : ThIn K H0 H' lot t z names items rt g { S with st := stU S.st l i } dx bl wl bas las tr := by
  obtain ⟨t1, f1, f2⟩ := h.trs l i p v.1 v.2.1 hp
  obtain ⟨n1, n2, n3⟩ := h.nes v.1 v.2.1 hp
  obtain ⟨⟨d, o1⟩, ⟨dr, k, o2⟩, o3⟩ := t1
  exact {
    same := fun b o hb => s _ _ (h.same _ _ hb) (ne_of_none hb f1) (ne_of_none hb f2)
    flot := h.flot
    fbl := h.fbl
    fwl := h.fwl
    bw := h.bw
    olot := s _ _ h.olot (Ne.symm n1) (Ne.symm n2)
    obl := s _ _ h.obl (ne_of h.obl o1 (by intro z; cases z)) (ne_of h.obl o2 (by intro z; cases z))
    lbas := h.lbas
    llas := h.llas
    beg := fun k ba la h1 h2 => by
      obtain ⟨a1, a2, a3, a4⟩ := h.beg k ba la h1 h2
      exact ⟨s _ _ a1 (ne_of a1 o1 (by intro z; cases z)) (ne_of a1 o2 (by intro z; cases z)), a2, a3, s _ _ a4 (ne_of a4 o1 (by intro z; cases z)) (ne_of a4 o2 (by intro z; cases z))⟩
    owl := s _ _ h.owl (ne_of h.owl o1 (by intro z; cases z)) (ne_of h.owl o2 (by intro z; cases z))
    trs := fun l' i' p' h1 h2 h3 => by
      obtain ⟨a1, a2, a3⟩ := h.trs l' i' p' h1 h2 h3
      by_cases e : (l', i') = (l, i)
      · obtain ⟨rfl, rfl⟩ := Prod.mk.inj e
        have ep : p = p' := Option.some.inj (hp.symm.trans h3)
        subst ep
        refine ⟨?_, a2, a3⟩
        show TrAt K H' _ _ _ z p items.length (rt g) g (stU S.st l' i' l' i')
        have e2 : stU S.st l' i' l' i' = S.st l' i' + 1 := if_pos ⟨rfl, rfl⟩
        rw [e2]
        exact ht
      · obtain ⟨c1, c2⟩ := h.dis l' i' l i ⟨h1, h2, (List.getElem?_eq_some_iff.mp h3).1⟩ v e
        have a1' := a1
        obtain ⟨⟨d', p1⟩, ⟨dr', k', p2⟩, p3⟩ := a1'
        refine ⟨?_, a2, a3⟩
        show TrAt K H' _ _ _ z p' items.length (rt g) g (stU S.st l i l' i')
        have e2 : stU S.st l i l' i' = S.st l' i' := if_neg (fun z => e (by rw [z.1, z.2]))
        rw [e2]
        exact a1.keep (fun o q => s _ _ q c1 (ins_neK p1 o2 keys_TR)) (fun o q => s _ _ q (ins_neK p2 o1 (Ne.symm keys_TR)) c2) (fun o q => s _ _ q (ne_of p3 o1 (by intro z; cases z)) (ne_of p3 o2 (by intro z; cases z)))
    dis := h.dis }
end
section
variable {P : Program} {w : World} {K : PySem.W.Frag} {mg : Str → Option Value} {base : Heap}
def sp_Throng_tried : PySem.W.Frag → Sp := fun K vs H Q _ => ∃ H0 lot t z, ∃ (names : List Str) (items : List Itm) (rt : Int → Int → Bool) (g : Int) (S : ThS) (l i : Nat) (p : List Str), vs = [.ref lot] ∧ TongueAt K H0 t names ∧ NamesOk names ∧ PuzzleAt K H0 z items ∧ ItOk items rt ∧ -1000000000000000000 ≤ g ∧ g ≤ 1000000000000000000 ∧ ThAt K H0 H lot t z names items rt g S ∧
  (S.ws = [] → S.due + 2 ^ endLen names < 2 ^ 23 ∧ (∀ i, S.st (endLen names + S.nb) i = 0) ∧ endLen names + nbP names S ≤ 23) ∧ (fillP names S).ws.getLast? = some (l, i) ∧ Vld names (fillP names S).nb l i ∧ l ≤ 200 ∧ (rows (chF names) l)[i]? = some p ∧
  ∀ H', ThAt K H0 H' lot t z names items rt g (tickS names S l i) →
    (hit p items.length (rt g) g ((fillP names S).st l i) = true → ∀ ta ra pa, TrAt K H' ta ra pa z p items.length (rt g) g ((fillP names S).st l i + 1) → Q (.ref ta) H') ∧ (hit p items.length (rt g) g ((fillP names S).st l i) = false → Q .non H')
theorem c_Throng_tried (T : TX w K mg) : C8.Met P w K mg base 9 (He.ga K "Throng") "tried" (sp_Throng_tried K) [] := by
  obtain ⟨f, fd, me, F, b⟩ := T.m_Throng_tried
  have nd := sc_Throng_tried.nd
  refine C8.met0 T.cl_Throng me F b sc_Throng_tried (fun vs H Q E h => ?_) (fun cdv A outer s H vs Q E hr h => ?_)
  · obtain ⟨H0, lot, t, z, ns, its, rt, g, S, l, i, p, rfl, _⟩ := h
    rfl
  · obtain ⟨H0, lot, t, z, names, items, rt, g, S, l, i, p, rfl, tg, ok, hz, iok, g1, g2, th, pre, hlast, v, hl200, hp, q⟩ := h
    have hmem := rows_mem ok (List.mem_of_getElem? hp)
    have hplen := lenP_ge ok hmem.1
    rw [hmem.2] at hplen
    refine ⟨_, (pss_cons (ps_expr (C8.pe_mt0 (c_Throng_fill T) hr (by decide) (pv 0)))
    (pss_cons (ps_set (i := 1) nd rfl (Or.inl rfl) (pe_bm0 PySem.F.plainAttrs_list PySem.F.slot_list_pop PySem.F.type_list_pop mt_pop (pe_fld (pv 0) rfl)))
    (pss_one (ps_ret (pe_ifExp (pt_val (C8.pe_mt0 (c_Trial_tried T) hr (by decide) (pv 1))) (pv 1) pe_non))))), ?_⟩
    have th' := th
    obtain ⟨dx, bl, wl, bas, las, tr, th0⟩ := th'
    walk_at "st"
    walk_at "rd"
    refine ⟨lot, dx, _, rfl, th0.olot, by kernel_rfl, ?_⟩
    walk_at "rd"
    have hne : (fillP names S).ws ≠ [] := fun e => by rw [e] at hlast; cases hlast
    refine ⟨H0, lot, t, z, names, items, rt, g, S, rfl, tg, ok, g1, g2, th, fun hws => ⟨(pre hws).1, (pre hws).2.1, hne, (pre hws).2.2⟩, fun H1 th1 => ?_⟩
    clear th0
    obtain ⟨dx, bl, wl, bas, las, tr, th1⟩ := th1
    have hl9 : p.length ≤ 200 := by omega
    walk_at "rd"
    refine g_fl (v := .ref wl) th1.olot T.cl_Throng T.n_Throng_waiting (by kernel_rfl) ?_
    refine ⟨tyL (SqL.rd th1.owl), ?_⟩
    have hdl : (fillP names S).ws = (fillP names S).ws.dropLast ++ [(l, i)] := by
      obtain ⟨hne', he⟩ := List.getLast?_eq_some_iff.mp hlast
      rw [he, List.dropLast_concat]
    refine ⟨wl, _, .ref (tr l i).1, rfl, rfl, th1.owl, ?_, ?_⟩
    · rw [List.length_map, List.getElem?_map]
      have e : (fillP names S).ws[(fillP names S).ws.length - 1]? = some (l, i) := by rw [← List.getLast?_eq_getElem?]; exact hlast
      rw [e]
      rfl
    · have th2 := th1.popped (ws := (fillP names S).ws.dropLast) (H' := upd H1 wl (.lst ((fillP names S).ws.map fun id => V.ref (tr id.1 id.2).1).dropLast)) Off.upd (by rw [upd_same, List.map_dropLast])
      generalize upd H1 wl (.lst ((fillP names S).ws.map fun id => V.ref (tr id.1 id.2).1).dropLast) = H2 at th2
      obtain ⟨t1, f1, f2⟩ := th2.trs l i p v.1 v.2.1 hp
      have t1' := t1
      obtain ⟨⟨dt, o1⟩, _, _⟩ := t1'
      walk_at "rd"
      refine ⟨(tr l i).1, dt, _, rfl, o1, by kernel_rfl, ?_⟩
      walk_at "rd"
      refine ⟨(tr l i).1, (tr l i).2.1, (tr l i).2.2, z, p, items, rt, g, _, rfl, t1, hz.same th2.same, iok, hl9, g1, g2, fun H3 o3 t3 => ?_⟩
      have th3 := th2.stepped v hp o3 t3
      have q3 := q H3 ⟨dx, bl, wl, bas, las, tr, th3⟩
      walk_at "rd"
      cases hh : hit p items.length (rt g) g ((fillP names S).st l i) with
      | true =>
        walk_at "rd"
        exact q3.1 hh _ _ _ t3
      | false =>
        walk_at "rd"
        exact q3.2 hh
end
end Dt
set_option Elab.async false
set_option linter.all false
set_option maxRecDepth 100000
set_option maxHeartbeats 4000000
/-! Rs: super().__init__(..) in a class of the text. -/
namespace Dt
open PySem PySem.Spec PySem.Calls PyProof.Rows L2
open PySem.W (ksEnv ksFn)
/-- what super() asks, in the def f of the class D, on an instance of C: the next is f2 -/
structure SupFacts (P : Program) (K : PySem.W.Frag) (C D f f2 cda cc : Addr) (fd : FuncData) : Prop where
  hf : ∃ oc od osl, K.lookup f = some ⟨oc, od, .func fd, osl⟩
  hp : ∃ ar : Arg, (fd.params.posonlyargs ++ fd.params.args).head? = some ar ∧ ar.arg = "self"
  hcode : ∃ ccl cdd vs ccs file tf, K.lookup cda = some ⟨ccl, cdd, .fields vs, ccs⟩ ∧ vs[2]? = some (.str file tf) ∧ ((P.main.file : Str) == file) = true
  hcell : ∃ cl cld csl, K.lookup cc = some ⟨cl, cld, .cell (some (.ref D)), csl⟩
  hD : ∃ cdD, PySem.W.clsIn K D = some cdD
  hsub : PySem.W.mroIn K C (.ref D) = some true
  htop : (P.main.scope.names.lookup ("super" : Str)).isSome = false
  hany : PySem.W.nsIn K cStatics "thirdparty.any" = some none
  hm : PySem.W.ks_superIn K C D "__init__" = some (some (.ref f2))
  ht : PySem.W.typeIn K (.ref f2) = some (.type "function")
  fi : PySem.W.fnIn K f2 = true
/-- super().__init__(..) -/
def sSup (C f2 : Addr) (sp : Sp) (ta : TA) : TS := fun D σ H => ∃ x dx fs, σ[0]? = some (some (.ref x)) ∧ H x = some (.ins C dx fs) ∧ ∀ q, H q = none → ta σ (upd H q (.met f2 x)) fun vs H1 => H1 q = some (.met f2 x) ∧ sp (.ref x :: vs) H1 (fun _ H2 => D.nx σ H2) C8.E0
section
variable {X : Cx} {C D f f2 cda cc : Addr} {fd : FuncData} {k : Nat} {sp : Sp} {t : TA} {q : Str} {scope : Scope} {body : List Stmt} {e : Expr} {es : List Expr} {p0 p1 apos pos spos : Pos} {pl : Sem Bool}
theorem sup_stmt (SF : SupFacts X.prog X.K C D f f2 cda cc fd) (hX : X.env = ksEnv q scope X.env.locals f (.ref cda) cc) (hmg : X.mg "super" = none) (hk : scope.kind = .function) (hks : scope.names.lookup ("super" : Str) = some .globalImplicit)
    (hkc : scope.names.lookup ("__class__" : Str) = some .free) (hka : scope.names.lookup ("self" : Str) = some .local) (hN : X.N[0]? = some ("self" : Str)) (F : FnR X.prog X.w X.K X.mg X.base C8.CX0 k f2 sp) (hr : Room k X.A) (ha : PA X (e :: es) t)
    (hboot : bootBuiltins "super" = some (.type "super"))
    (hi : interactive X.env = false) (hs : swapsWith (.Call (.Attribute (.Call (.Name "super" p0) [] [] p1) "__init__" apos) (e :: es) [] pos) none spos.line X.env = pure false)
    (he : eval (.Call (.Attribute (.Call (.Name "super" p0) [] [] p1) "__init__" apos) (e :: es) [] pos) X.env = (do
      let ov ← attributeBase (.Call (.Name "super" p0) [] [] p1) "__init__" X.env (eval (.Call (.Name "super" p0) [] [] p1) X.env)
      standAt apos.atName
      let (f, first) ← holding [ov] (getMethod ov "__init__" pl)
      callWith pos f first (backTo pos (starEach (e :: es) X.env)) []))
    (hst : starEach (e :: es) X.env = (false, eval e X.env) :: starEach es X.env) (hpl : (backTo pos (starEach es X.env)).any (·.1) = false) :
    ∀ (pins : List (Addr × Obj)) (s : Shared) (σ : L2.St) (H : Hp) (D' : Ends), Inv X pins σ H s → sSup C f2 sp t D' σ H →
      _root_.PySem.wpAt (model X.prog X.w) X.A (.func body X.env) (exec (.Expr (.Call (.Attribute (.Call (.Name "super" p0) [] [] p1) "__init__" apos) (e :: es) [] pos) spos) X.env) (SP X pins D') X.xe s := by
  intro pins s σ H D' I h
  obtain ⟨x, dx, fs, hσ, hx, hq⟩ := h
  refine PySem.ks_wpAt_Expr_any ?_ hi hs
  refine PySem.ks_wpAt_MethodCall (pl := pl) ?_ he
  obtain ⟨oc, od, osl, hf⟩ := SF.hf
  obtain ⟨ar, hp, har⟩ := SF.hp
  obtain ⟨ccl, cdd, vs, ccs, file, tf, hcode, hvs, hfile⟩ := SF.hcode
  obtain ⟨cl, cld, csl, hcell⟩ := SF.hcell
  obtain ⟨cdD, hD⟩ := SF.hD
  have KX := I.kIn
  have hD0 := hD
  obtain ⟨oD, hD1, hD2⟩ : ∃ oD, s.heap.get? D = some oD ∧ oD.data = .cls cdD := by
    unfold PySem.W.clsIn at hD
    split at hD
    · rename_i c d cd' sl ho
      cases hD
      exact ⟨_, KX _ _ ho, rfl⟩
    · cases hD
  have hkS : X.env.kindOf "super" = some .globalImplicit := by rw [hX]; exact hks
  have hkC : X.env.kindOf "__class__" = some .free := by rw [hX]; exact hkc
  have hkA : X.env.kindOf ar.arg = some .local := by rw [hX, har]; exact hka
  have hkE : X.env.scope.kind = .function := by rw [hX]; exact hk
  refine PySem.ks_wpAt_super_base (env := X.env) hkS hkC (by decide +kernel) (by rw [hX]) (KX _ _ hf) rfl hp (by rw [hX]) (KX _ _ hcode) rfl hvs hfile SF.htop ?_
  obtain ⟨mb, hb1, hb2⟩ := I.mod.blt
  refine PySem.W.ks_loadName_global hkE hkS (Calls.loadGlobal_builtin (by rw [I.ok.glob]; exact I.mod.glob.keeps I.bk) hmg (by rw [I.ok.blt]; exact hb1.keeps I.bk) ((hb2 "super" (by decide +kernel)).trans hboot) ⟨rfl, ?_⟩)
  refine wpAny_loadName_free hkE hkC (c := cc) (by rw [hX]; rfl) ⟨_, KX _ _ hcell, rfl⟩ ?_
  obtain ⟨m, hns, hl⟩ := I.loc
  obtain ⟨u, ru, hlk⟩ := hl 0 "self" (.ref x) hN hσ (.inl (by rw [hX]; exact hka))
  have hu : u = Value.ref x := ru
  subst hu
  have hmv : m ar.arg = some (.ref x) := by
    rw [har]
    rcases hlk with ⟨_, h2⟩ | ⟨h1, _⟩
    · exact h2
    · rw [har] at hkA
      rcases h1 with h1 | h1
      · exact absurd (h1.symm.trans hkA) (by decide)
      · exact absurd (h1.symm.trans hkA) (by decide)
  refine wpAny_loadName_local hkE hkA hns hmv ?_
  obtain ⟨mA, O, rO⟩ := ins_get I.hok hx
  obtain ⟨odx, J, _⟩ := O.look
  obtain ⟨hh, gg, dd, tt, oo⟩ := s
  refine PySem.ks_wpAny_isType_cls hD1 hD2 ⟨rfl, ?_⟩
  refine PySem.ks_wpAny_call_super hD1 hD2 J.at_ J.cls (fun c ec => ?_) (PySem.W.looks_mroIn KX SF.hsub) (fun h' eh k => ?_)
  · have := J.no
    unfold PySem.W.notCls at this
    rw [ec] at this
    exact Bool.noConfusion this
  have I2 : Inv X pins σ H ⟨h', gg, dd, tt, oo⟩ := I.kept (t' := tt) k
  have KX2 := I2.kIn
  have hm := SF.hm
  cases hc : PySem.W.clsIn X.K C with
  | none => unfold PySem.W.ks_superIn at hm; rw [hc] at hm; cases hm
  | some cd =>
    unfold PySem.W.ks_superIn at hm
    rw [hc] at hm
    obtain ⟨of, hof, hofc⟩ : ∃ of, h'.get? f2 = some of ∧ of.cls = .type "function" := by
      have ht' : (X.K.lookup f2).map (·.cls) = some (.type "function") := SF.ht
      cases z : X.K.lookup f2 with
      | none => rw [z] at ht'; cases ht'
      | some of => rw [z] at ht'; exact ⟨of, KX2 _ _ z, Option.some.inj ht'⟩
    refine PySem.ks_wpAny_getMethod_super eh (PySem.W.looks_opaque KX2 SF.hany) (l₀ := cd.mro) ?_ rfl KX2 hm hof hofc (PySem.W.ks_ne KX J hc) (by decide +kernel) ?_
    · exact fun A Q E s k q => wpAny_bind ((PySem.W.looks_clsIn KX2 hc) A _ E s k (wpAny_pure q))
    have nq : H h'.objs.size = none := I2.hok.fresh (Nat.le_refl _)
    have I3 : Inv X pins σ (upd H h'.objs.size (.met f2 x)) ⟨h'.push (PySem.W.methodObj (.ref f2) (.ref x)), gg, dd, tt + 1, oo⟩ :=
      I2.laid (t' := tt + 1) (a := h'.objs.size) (o := .met f2 x) (fun b u z => Heap.get?_push_of_some _ z) (Nat.le_refl _)
        (show (h'.push (PySem.W.methodObj (.ref f2) (.ref x))).get? h'.objs.size = some (PySem.W.methodObj (.ref f2) (.ref x)) from Heap.get?_push_size h' rfl)
    refine callwith_met (X := X) (g := f2) (a := x) (first := []) (keywords := []) ?_ SF.fi ?_
    · rw [hst]
      show (false || (backTo pos (starEach es X.env)).any (·.1) || false) = false
      rw [hpl]
      rfl
    have hz : wpAny (model X.prog X.w) X.A (spliced (backTo pos (starEach (e :: es) X.env))) (fun us s₁ => PySem.W.MethP X.K h'.objs.size f2 (.ref x) s₁.heap ∧ wpAny (model X.prog X.w) X.A (call (.ref h'.objs.size) ([] ++ us) []) (fun _ => SP X pins D' Flow.next) X.xe s₁) X.xe
        ⟨h'.push (PySem.W.methodObj (.ref f2) (.ref x)), gg, dd, tt + 1, oo⟩ := by
      refine thn (ha.run pos pins _ σ _ _ I3 (hq _ nq)) ?_
      rintro us s4 ⟨ws, H4, I4, r4, hm4, q4⟩
      refine ⟨met_P I4 hm4, wpAny_call (call_met I4 hm4 (codeAny_mono (run_fnR (us := .ref x :: us) (vs := .ref x :: ws) F hr C8.pass0 I4 (.cons rfl r4) q4) fun r s5 h5 => ?_))⟩
      cases r with
      | error er => exact h5
      | ok fl =>
        cases fl with
        | ret v =>
          obtain ⟨v2, H5, I5, _, q5⟩ := (show EP X pins σ (fun _ H2 => D'.nx σ H2) v s5 from h5)
          exact ⟨σ, H5, I5, q5⟩
        | next => exact False.elim h5
        | brk => exact False.elim h5
        | cont => exact False.elim h5
    rw [hst] at hz ⊢
    exact Calls.evalArgs_plain hz
end
/-! ### the def that says it -/
/-- names: the parameters first; nothing but __class__ is free -/
structure FnScopeS (N ps : List Str) (sc : Scope) : Prop where
  kind : sc.kind = .function
  co : sc.isCoroutine = false
  gen : sc.isGenerator = false
  nd : N.Nodup
  pre : N.take ps.length = ps
  par : ∀ x ∈ ps, sc.names.lookup x = some .local
  nocell : ∀ y ∈ sc.names, y.2 ≠ .cell
  free : ∀ y ∈ sc.names, y.2 = .free → y.1 = ("__class__" : Str)
  sup : sc.names.lookup ("super" : Str) = some .globalImplicit
  cls : sc.names.lookup ("__class__" : Str) = some .free
  self : N[0]? = some ("self" : Str)
  selfL : sc.names.lookup ("self" : Str) = some .local
def cxS (P : Program) (w : World) (K : PySem.W.Frag) (mg : Str → Option Value) (base : Heap) (N : List Str) (qual : Str) (scope : Scope) (f : Addr) (cd : Value) (cc : Addr) (A : Around) (outer : List Env) (s : Shared) (H : Hp) (E : XK) : Cx where
  prog := P
  w := w
  K := K
  mg := mg
  base := base
  A := A.deeper (ksEnv qual scope s.heap.objs.size f cd cc)
  N := N
  s_0 := s
  H_0 := H
  env := ksEnv qual scope s.heap.objs.size f cd cc
  outer := outer
  stack := ksEnv qual scope s.heap.objs.size f cd cc :: outer
  ex := []
  calm := true
  fn := fun x => decide (x ≠ ("__class__" : Str))
  pn := []
  xe := fun e s' => wpAny (model P w) (A.deeper (ksEnv qual scope s.heap.objs.size f cd cc)) (leaving (ksEnv qual scope s.heap.objs.size f cd cc) e) (fun _ s'' => C8.CX0 outer H s E e s'') (fun e' s'' => C8.CX0 outer H s E e' s'') s'
theorem mem_nodup_lookup {x : Str} {v : Value} : ∀ {l : List (Str × Value)}, (l.map (·.1)).Nodup → (x, v) ∈ l → l.lookup x = some v
  | [], _, h => by cases h
  | (a, b) :: l, nd, h => by
    rw [List.map_cons, List.nodup_cons] at nd
    rw [List.lookup_cons]
    rcases List.mem_cons.mp h with h1 | h1
    · obtain ⟨rfl, rfl⟩ := Prod.mk.inj h1
      rw [beq_self_eq_true]
    · by_cases e : x = a
      · subst e
        exact absurd (List.mem_map.mpr ⟨(x, v), h1, rfl⟩ : x ∈ l.map (·.1)) nd.1
      · rw [beq_false_of_ne e]
        exact mem_nodup_lookup nd.2 h1
theorem zip_lookup {ps : List Str} {us : List Value} (nd : ps.Nodup) (hl : us.length = ps.length) {i : Nat} {x : Str} {u : Value} (hx : ps[i]? = some x) (hu : us[i]? = some u) : (ps.zip us).reverse.lookup x = some u := by
  refine mem_nodup_lookup ?_ (List.mem_reverse.mpr ?_)
  · rw [List.map_reverse, List.map_fst_zip (by omega)]
    exact (List.reverse_perm ps).nodup_iff.mpr nd
  · exact List.mem_of_getElem? (List.getElem?_zip_eq_some.mpr ⟨hx, hu⟩)
theorem inv_startS {P : Program} {w : World} {K : PySem.W.Frag} {mg : Str → Option Value} {base : Heap} {N ps : List Str} {qual : Str} {scope : Scope} {f : Addr} {cd : Value} {cc : Addr} {A : Around} {outer : List Env} {s : Shared} {H : Hp} {E : XK} {us : List Value} {vs : List V} {h₀ : Heap} {tk : Nat}
    (S : FnScopeS N ps scope) (hd : A.handled = none) (e0 : Env0 P w K mg base A outer s H) (hl : vs.length = ps.length) (r : Vals vs us) (hns : h₀.Ns s.heap.objs.size (fun x => (ps.zip us).reverse.lookup x)) (hk : ∀ b o, s.heap.get? b = some o → h₀.get? b = some o)
    (hcell : ∃ cl cld csl v, K.lookup cc = some ⟨cl, cld, .cell v, csl⟩) :
    Inv (cxS P w K mg base N qual scope f cd cc A outer s H E) [] (L2.start N vs) H { s with heap := h₀, toks := tk } := by
  have hpl : ps.length ≤ N.length := by have := congrArg List.length S.pre; rw [List.length_take] at this; omega
  obtain ⟨cl, cld, csl, vc, hcell⟩ := hcell
  have noA : ∀ b : Addr, b ∉ (cxS P w K mg base N qual scope f cd cc A outer s H E).ex := fun b z => absurd (show b ∈ ([] : List Addr) from z) (by simp)
  have lk : ∀ x c, (cxS P w K mg base N qual scope f cd cc A outer s H E).env.cells.lookup x = some c → x = "__class__" ∧ c = cc := by
    intro x c h
    have h2 : ([(("__class__" : Str), cc)] : List (Str × Addr)).lookup x = some c := h
    rw [List.lookup_cons] at h2
    by_cases e : x = ("__class__" : Str)
    · subst e
      rw [beq_self_eq_true] at h2
      exact ⟨rfl, (Option.some.inj h2).symm⟩
    · rw [beq_false_of_ne e] at h2
      cases h2
  have kb : base.get? cc = some ⟨cl, cld, .cell vc, csl⟩ := e0.mod.kin _ _ hcell
  refine ⟨⟨e0.mod, S.kind, rfl, rfl, Nat.le_refl _, fun y z c h1 h2 => (lk y c h1).1.trans (lk z c h2).1.symm, fun y hy => ?_, fun y c hf h => ?_, fun _ => hd, Around.frames_deeper e0.frames, .inr ⟨rfl, rfl⟩, fun b z => absurd z (noA b), e0.bs, e0.bsz, fun b _ _ => noA b, fun b z => absurd z (noA b), e0.funs, e0.frf⟩,
    rfl, e0.bare, Un.kept hk, ⟨_, hns, fun i y v h1 h2 h3 => ?_⟩, fun y c h => ?_, e0.hok.fresh (Nat.le_refl _), fun y c h => ?_, fun p hp => absurd (show p ∈ ([] : List (Addr × Obj)) from hp) (by simp), e0.hok.kept hk, ?_⟩
  · have hy : scope.names.lookup y = some .cell ∨ scope.names.lookup y = some .free := hy
    rcases hy with hy | hy
    · exact absurd rfl (S.nocell _ (PySem.mem_of_lookup hy))
    · have e := S.free _ (PySem.mem_of_lookup hy) rfl
      have e : y = ("__class__" : Str) := e
      subst e
      exact ⟨cc, rfl⟩
  · have e := (lk y c h).1
    have hf : decide (y ≠ ("__class__" : Str)) = true := hf
    exact absurd e (of_decide_eq_true hf)
  · have hi : i < vs.length := by
      unfold L2.start at h2
      by_cases hi : i < vs.length
      · exact hi
      · rw [List.getElem?_append_right (by simpa using hi)] at h2
        rw [List.getElem?_replicate] at h2
        split at h2 <;> cases h2
    have ha : vs[i]? = some v := by
      unfold L2.start at h2
      rw [List.getElem?_append_left (by simpa using hi), List.getElem?_map] at h2
      cases e : vs[i]? with
      | none => rw [e] at h2; cases h2
      | some a => rw [e] at h2; cases h2; rfl
    obtain ⟨u, hu, rv⟩ := r.get ha
    have hp : ps[i]? = some y := by
      rw [← S.pre, List.getElem?_take_of_lt (by omega)]; exact h1
    have ndP : ps.Nodup := by rw [← S.pre]; exact S.nd.sublist (List.take_sublist _ _)
    refine ⟨u, rv, .inl ⟨S.par y (List.mem_of_getElem? hp), zip_lookup ndP (by rw [← r.length]; exact hl) hp hu⟩⟩
  · obtain ⟨_, rfl⟩ := lk y c h
    exact ⟨vc, _, hk _ _ (e0.bs _ _ kb).1, rfl⟩
  · obtain ⟨_, rfl⟩ := lk y c h
    exact (e0.bs _ _ kb).2
  · unfold L2.start
    show _ = N.length
    rw [List.length_append, List.length_map, List.length_replicate]
    omega
theorem fn_sup {P : Program} {w : World} {K : PySem.W.Frag} {mg : Str → Option Value} {base : Heap} {k : Nat} {C D f f2 cda cc : Addr} {name qual : Str} {params : Arguments} {e : Expr} {es : List Expr} {rest : List Stmt} {p0 p1 apos pos spos : Pos} {scope : Scope} {dV kV doc pm ct : Value} {an : Option Addr} {N ps : List Str} {sp sp2 : Sp}
    (SF : SupFacts P K C D f f2 cda cc (ksFn name qual params (.Expr (.Call (.Attribute (.Call (.Name "super" p0) [] [] p1) "__init__" apos) (e :: es) [] pos) spos :: rest) scope dV kV doc pm an (.ref cda) ct cc)) (hcd : PySem.W.codeIn K (.ref cda) qual = true) (S : FnScopeS N ps scope)
    (len : ∀ vs H Q E, sp vs H Q E → vs.length = ps.length) (hmg : mg "super" = none) (hboot : bootBuiltins "super" = some (.type "super")) (F2 : FnR P w K mg base C8.CX0 k f2 sp2)
    (hsyn : ∀ L, interactive (ksEnv qual scope L f (.ref cda) cc) = false ∧ swapsWith (.Call (.Attribute (.Call (.Name "super" p0) [] [] p1) "__init__" apos) (e :: es) [] pos) none spos.line (ksEnv qual scope L f (.ref cda) cc) = pure false ∧
      (∃ pl : Sem Bool, eval (.Call (.Attribute (.Call (.Name "super" p0) [] [] p1) "__init__" apos) (e :: es) [] pos) (ksEnv qual scope L f (.ref cda) cc) = (do
        let ov ← attributeBase (.Call (.Name "super" p0) [] [] p1) "__init__" (ksEnv qual scope L f (.ref cda) cc) (eval (.Call (.Name "super" p0) [] [] p1) (ksEnv qual scope L f (.ref cda) cc))
        standAt apos.atName
        let (fx, first) ← holding [ov] (getMethod ov "__init__" pl)
        callWith pos fx first (backTo pos (starEach (e :: es) (ksEnv qual scope L f (.ref cda) cc))) [])) ∧
      starEach (e :: es) (ksEnv qual scope L f (.ref cda) cc) = (false, eval e (ksEnv qual scope L f (.ref cda) cc)) :: starEach es (ksEnv qual scope L f (.ref cda) cc) ∧ (backTo pos (starEach es (ksEnv qual scope L f (.ref cda) cc))).any (·.1) = false)
    (hbody : ∀ (A : Around) (outer : List Env) (s : Shared) (H : Hp) (vs : List V) (Q : VK) (E : XK), Room k (A.deeper (ksEnv qual scope s.heap.objs.size f (.ref cda) cc)) → sp vs H Q E →
      ∃ ta tr, PA (cxS P w K mg base N qual scope f (.ref cda) cc A outer s H E) (e :: es) ta ∧ PSs (cxS P w K mg base N qual scope f (.ref cda) cc A outer s H E) rest tr ∧ sSup C f2 sp2 ta { nx := tr { nx := fun _ H' => Q .non H', rt := Q }, rt := Q } (L2.start N vs) H) :
    FnOk P w K mg base C8.CX0 (k + 1) f (ksFn name qual params (.Expr (.Call (.Attribute (.Call (.Name "super" p0) [] [] p1) "__init__" apos) (e :: es) [] pos) spos :: rest) scope dV kV doc pm an (.ref cda) ct cc) ps sp := by
  refine ⟨len, fun A outer s H args us vs Q E hr e0 hb r hsp => ?_⟩
  have hl := len _ _ _ _ hsp
  have KX : K.In s.heap := e0.mod.kin.keeps fun b o e => (e0.bs b o e).1
  have lim : s.heap.NoLimit := e0.mod.nolimit.keeps fun b o e => (e0.bs b o e).1
  obtain ⟨oc, od, osl, lk⟩ := SF.hf
  refine PySem.ks_codeAny_call_defAt (binds := ps.zip us) hr.depth (KX _ _ lk) rfl lim (PySem.W.codeRec_of KX hcd) rfl hb S.nocell (fun x hx => S.par _ (List.of_mem_zip hx).1) (fun h₀ hns hk => ?_) S.co S.gen S.kind
  obtain ⟨ta, tr, ha, hrest, hq⟩ := hbody A outer s H vs Q E (hr.deeper _) hsp
  have hcell : ∃ cl cld csl v, K.lookup cc = some ⟨cl, cld, .cell v, csl⟩ := by
    obtain ⟨cl, cld, csl, h⟩ := SF.hcell
    exact ⟨cl, cld, csl, _, h⟩
  have I : Inv (cxS P w K mg base N qual scope f (.ref cda) cc A outer s H E) [] (L2.start N vs) H { s with heap := h₀, toks := s.toks + (ps.zip us).length } := inv_startS S hr.hd e0 hl r hns hk hcell
  obtain ⟨y1, y2, ⟨pl, y3⟩, y4, y5⟩ := hsyn s.heap.objs.size
  have z := sup_stmt (X := cxS P w K mg base N qual scope f (.ref cda) cc A outer s H E) (body := .Expr (.Call (.Attribute (.Call (.Name "super" p0) [] [] p1) "__init__" apos) (e :: es) [] pos) spos :: rest) SF rfl hmg S.kind S.sup S.cls S.selfL S.self F2 (hr.deeper _) ha hboot y1 y2 y3 y4 y5 [] _ _ _ _ I hq
  refine PySem.ks_wpAt_execs_cons (PySem.ks_wpAt_mono z (fun fl s2 h2 => ?_) (fun e s2 h2 => h2))
  have fin : ∀ {σ' : L2.St} {H' : Hp} {v : V} {u : Value} {s3 : Shared}, Inv (cxS P w K mg base N qual scope f (.ref cda) cc A outer s H E) [] σ' H' s3 → RelV v u → Q v H' → CE outer P w H s Q u s3 :=
    fun {σ' H' v u s3} J rv q => ⟨v, H', J.os, J.bare, J.base, J.hok, rv, q⟩
  cases fl with
  | next =>
    obtain ⟨σ2, H2, I2, q2⟩ := h2
    refine PySem.wpAt_of_wpAny (wpAny_mono (hrest.run [] _ _ _ _ I2 q2) (fun fl3 s3 h3 => ?_) fun e s3 h3 => h3)
    cases fl3 with
    | ret u =>
      obtain ⟨v, σ', H', J, rv, q⟩ := h3
      exact fin J rv q
    | next =>
      obtain ⟨σ', H', J, q⟩ := h3
      exact fin (v := V.non) (u := Value.none) J rfl q
    | brk =>
      obtain ⟨_, _, _, q⟩ := h3
      exact False.elim q
    | cont =>
      obtain ⟨_, _, _, q⟩ := h3
      exact False.elim q
  | ret u =>
    obtain ⟨v, σ', H', J, rv, q⟩ := h2
    exact fin J rv q
  | brk =>
    obtain ⟨_, _, _, q⟩ := h2
    exact False.elim q
  | cont =>
    obtain ⟨_, _, _, q⟩ := h2
    exact False.elim q
end Dt
set_option Elab.async false
set_option linter.all false
set_option maxRecDepth 100000
set_option maxHeartbeats 4000000
namespace Dt
open PySem PySem.Spec L2
local macro_rules | `(tactic| walk_at "st") => `(tactic| (simp only [L2.start, List.map_cons, List.map_nil, List.length_cons, List.length_nil, List.replicate_succ, List.replicate_zero, List.cons_append, List.nil_append, Nat.zero_add, Nat.reduceAdd, Nat.reduceSub]))
local macro_rules | `(tactic| walk_at "r1") => `(tactic| with_reducible first
  | refine g_seq ?_
  | refine g_next ?_
  | refine g_asg ?_
  | refine g_ifS ?_
  | refine g_ret ?_
  | refine g_retN ?_
  | refine g_drop ?_
  | refine g_brk ?_
  | refine g_c ?_
  | refine g_op ?_
  | refine g_un ?_
  | refine g_I0 ?_
  | refine g_U ?_
  | refine g_eqI ?_
  | refine g_neI ?_
  | refine g_eqS ?_
  | refine g_neS ?_
  | refine g_test ?_
  | refine g_B ?_
  | refine g_bl ?_
  | refine g_if ?_
  | refine g_not ?_
  | refine g_and ?_
  | refine g_or ?_
  | refine g_andV ?_
  | refine g_orV ?_
  | refine g_notV ?_
  | refine g_blif ?_
  | refine g_chain ?_
  | refine g_nil ?_
  | refine g_cons ?_
  | refine g_cb ?_
  | refine g_call ?_
  | refine g_tup ?_
  | refine g_lst ?_
  | refine g_tfld ?_
  | refine g_dget ?_
  | refine g_mk ?_
  | refine g_lc2 ?_
  | refine g_gfld ?_
  | refine g_meth ?_
  | refine g_sfld ?_
  | refine g_din ?_
  | refine g_dput ?_
  | refine g_isN_int ?_
  | refine g_isN_str ?_
  | refine g_isN_ref ?_
  | refine g_isN_non ?_
  | refine g_nN_int ?_
  | refine g_nN_str ?_
  | refine g_nN_ref ?_
  | refine g_nN_non ?_
  | refine g_lc ?_
  | refine g_dc ?_
  | refine g_for ?_
  | refine g_iStr ?_
  | refine g_iList ?_
  | refine g_iTup ?_
  | refine g_iR1 ?_
  | refine g_iR2 ?_
  | refine g_iR3 ?_
  | refine g_iEnum ?_
  | refine g_iZip ?_
  | refine g_iZipA ?_
  | refine g_bm ?_
  | refine g_bm0 ?_
  | refine g_m1 ?_
  | refine g_sl ?_
  | refine g_poN ?_
  | refine g_poS ?_
  | refine g_poI ?_
  | refine g_yes ?_
  | refine g_gtup ?_
  | refine g_gcons ?_
  | refine g_gnil ?_
  | refine g_par ?_
  | refine g_isi_ii ?_
  | refine g_isi_ib ?_
  | refine g_isi_ss ?_
  | refine g_inC ?_
  | refine g_int1 ?_
  | refine g_int1b ?_
  | refine g_abs ?_
  | refine g_ltS ?_
  | refine iteT ?_
  | refine iteNT ?_
  | refine iteNF ?_
  | refine iteF ?_)
local macro_rules | `(tactic| walk_at "sd") => `(tactic| first | assumption | rfl | decide | omega)
local macro_rules | `(tactic| walk_at "hp") => `(tactic| first | assumption | exact upd_same | exact Same.get (by assumption) (by walk_at "hp") | exact Off.get (by assumption) (by walk_at "hp") (by walk_at "ne"))
local macro_rules | `(tactic| walk_at "ne") => `(tactic| first | assumption | (refine Ne.symm ?_; assumption) | exact ne_of_none (by walk_at "hp") (by assumption) | exact ne_none (by walk_at "hp") (by assumption) | exact ne_of (by walk_at "hp") (by walk_at "hp") (by intro z; cases z))
local macro_rules | `(tactic| walk_at "sq") => `(tactic| first | assumption | exact SqL.rd (by walk_at "hp") | exact SqT.rd (by walk_at "hp") | exact Same.seq (by assumption) (by walk_at "sq") | exact Same.seqT (by assumption) (by walk_at "sq"))
local macro_rules | `(tactic| walk_at "rI") => `(tactic| ((with_reducible refine g_I ?_ ?_); (focus (first | (refine Or.inl ⟨?_, ?_⟩ <;> (first | decide | omega)) | (refine Or.inr ⟨?_, ?_⟩ <;> (first | decide | omega)) | (show (0 : Int) < _; first | decide | omega | assumption) | (refine And.intro ?_ ?_ <;> (first | decide | omega | (refine And.intro ?_ ?_ <;> (first | decide | omega))))))))
local macro_rules | `(tactic| walk_at "r2") => `(tactic| first
  | ((with_reducible refine g_tvar ?_); (refine ⟨_, rfl, ?_⟩))
  | ((with_reducible refine g_name' (σ' := ?s) ?e ?h); (case e => (simp only [wipe, List.set_cons_zero, List.set_cons_succ]; first | done | rfl)))
  | (refine And.intro (show wipe _ _ = wipe _ _ from rfl) ?_)
  | walk_at "rI")
local macro_rules | `(tactic| walk_at "rd") => `(tactic| repeat (first | walk_at "r1" | walk_at "r2"))
local macro_rules | `(tactic| walk_at "gn") => `(tactic| (intro pA hA; generalize hG : upd _ _ _ = H2A; (have sA : Same _ H2A := hG ▸ Same.upd hA); (have lA : H2A pA = some _ := hG ▸ upd_same); clear hG))
local macro_rules | `(tactic| walk_at "mk") => `(tactic| (intro xM dxM h1M h2M hneM; generalize hG : upd (upd _ _ _) _ _ = HM; (have sM : Same _ HM := hG ▸ Same.updW (Same.upd h2M) h1M); (have lM : HM xM = some _ := hG ▸ upd_same); clear hG))
/-- the mine: the cells, the next draw (at most k), what is left of a big cell -/
def MineAt (H : Hp) (m cl : Addr) (k : Nat) : Prop := ∃ (cells : List Int) (at_ rest : Nat), H m = some (.lst [.ref cl, .int at_, .int rest]) ∧ H cl = some (.lst (cells.map V.int)) ∧ cl ≠ m ∧ cells.length ≤ 63 ∧ at_ ≤ k
theorem MineAt.same {H H' : Hp} {m cl : Addr} {k : Nat} (e : Same H H') (h : MineAt H m cl k) : MineAt H' m cl k := by
  obtain ⟨cells, a, r, h1, h2, h3, h4, h5⟩ := h
  exact ⟨cells, a, r, e _ _ h1, e _ _ h2, h3, h4, h5⟩
theorem MineAt.mono {H : Hp} {m cl : Addr} {j k : Nat} (h : MineAt H m cl j) (hk : j ≤ k) : MineAt H m cl k := by
  obtain ⟨cells, a, r, h1, h2, h3, h4, h5⟩ := h
  exact ⟨cells, a, r, h1, h2, h3, h4, Nat.le_trans h5 hk⟩
theorem dp_ints {K : PySem.W.Frag} {H : Hp} : ∀ ns : List Int, DpAll K H (ns.map V.int) (ns.map PyData.int)
  | [] => .nil
  | n :: ns => .cons (.int n) (dp_ints ns)
theorem Off.trans {l : Addr} {H H' H'' : Hp} (a : Off l H H') (b : Off l H' H'') : Off l H H'' := fun x o h n => b _ _ (a _ _ h n) n
theorem Off.same {l : Addr} {H H' H'' : Hp} (a : Off l H H') (b : Same H' H'') : Off l H H'' := fun x o h n => b _ _ (a _ _ h n)
theorem Same.off {l : Addr} {H H' H'' : Hp} (a : Same H H') (b : Off l H' H'') : Off l H H'' := fun x o h n => b _ _ (a _ _ h) n
theorem mix_le {mx : Int} {a : Nat} (h0 : 0 ≤ mx) (h1 : mx < 2147483549) (ha : a ≤ 100000) : (mx * (2 * (a : Int) + 2551) + 71233 * (a : Int) * (a : Int) + 31159).natAbs < 2 ^ 64 := by
  obtain ⟨x, rfl⟩ := Int.eq_ofNat_of_zero_le h0
  have e : ((x : Int) * (2 * (a : Int) + 2551) + 71233 * (a : Int) * (a : Int) + 31159) = ((x * (2 * a + 2551) + 71233 * a * a + 31159 : Nat) : Int) := by
    simp only [Int.natCast_add, Int.natCast_mul]
    rfl
  rw [e, Int.natAbs_natCast]
  have p1 : x * (2 * a + 2551) ≤ 2147483549 * 202551 := Nat.mul_le_mul (by omega) (by omega)
  have p2 : 71233 * a * a ≤ 71233 * 100000 * 100000 := Nat.mul_le_mul (Nat.mul_le_mul_left _ ha) ha
  omega
section
variable {P : Program} {w : World} {K : PySem.W.Frag} {mg : Str → Option Value} {base : Heap}
def sp_law_mine : PySem.W.Frag → Sp := fun K vs H Q _ => ∃ a, ∃ cells : List Int, vs = [.ref a] ∧ SqL K H a (cells.map V.int) ∧ cells.length ≤ 63 ∧ ∀ m cl H', Same H H' → H m = none → MineAt H' m cl 0 → Q (.ref m) H'
theorem c_law_mine (T : TX w K mg) : C8.Cal P w K mg base 1 "_law_mine" (sp_law_mine K) [] := by
  obtain ⟨f, fd, F, b⟩ := T.d_law_mine
  have nd := sc_law_mine.nd
  refine C8.cal0 F b .nil sc_law_mine (fun vs H Q E h => ?_) (fun cdv A outer s H vs Q E hr h => ?_)
  · obtain ⟨a, cells, rfl, _⟩ := h
    rfl
  · obtain ⟨a, cells, rfl, ha, h63, q⟩ := h
    refine ⟨_, (pss_one (ps_ret (pe_lst (pa_cons (pe_lc rfl nd (pi_list (pe_slice sl_list (pv 0) po_none (po_some pe_int))) (blkOk_by (own := [("_law_cell", 1)]) (N := n_law_mine) (sc := defScope s_law_mine) (by decide +kernel)) (fun _ _ _ _ _ => (pg_name (i := 1) nd rfl (Or.inl rfl))) (fun _ _ _ _ _ => pts_nil) (fun _ _ _ _ _ => (pe_callTy kc_int (by rfl) T.z_int (by decide +kernel) (pa_cons (pv 1) pa_nil)))) (pa_cons pe_int (pa_cons pe_int pa_nil)))))), ?_⟩
    walk_at "st"
    walk_at "rd"
    refine ⟨a, _, rfl, ha, fun p np => ?_⟩
    have hc : cutV (cells.map V.int) none (some 63) = cells.map V.int := by
      refine (cutV_to (k := 63)).trans ?_
      exact List.take_of_length_le (by rw [List.length_map]; exact h63)
    rw [hc]
    have s1 := Same.upd (o := .lst (cells.map V.int)) np
    have l1 := upd_same (H := H) (a := p) (o := .lst (cells.map V.int))
    generalize upd H p (.lst (cells.map V.int)) = H1 at s1 l1
    refine ⟨p, rfl, ⟨_, SqL.rd l1⟩, fun D nD => ?_⟩
    refine lc_it walk_list (PvL H1 D (fun i : Int => some (V.int i)) cells) (pvl_start nD) (fun _ _ _ pv => SqL.rd (pv.1 _ _ l1)) (fun i x H3 H4 hi pv y => ?_) (fun H3 pv => ?_)
    · obtain ⟨rfl, hx1⟩ := y
      obtain ⟨x, hx2, rfl⟩ := get_map hx1
      walk_at "rd"
      exact pvl_yes nD pv (Same.refl _) hx2 rfl (by rw [sizeLine_eq]; omega)
    · rw [List.length_map] at pv
      obtain ⟨s4, l4⟩ := pvl_end pv
      rw [fm_map] at l4
      walk_at "rd"
      refine ⟨show (3 : Nat) ≤ sizeLine by decide, fun m nm => ?_⟩
      have s5 := Same.upd (o := .lst [.ref D, .int 0, .int 0]) nm
      exact q m D _ ((s1.trans s4).trans s5) (same_none (s1.trans s4) nm) ⟨cells, 0, 0, upd_same, s5 _ _ l4, ne_of_none l4 nm, h63, Nat.le_refl _⟩
def sp_law_delve : PySem.W.Frag → Sp := fun K vs H Q _ => ∃ m cl, ∃ (k n : Nat), vs = [.ref m, .int n] ∧ MineAt H m cl k ∧ k < 100000 ∧ 0 < n ∧ n ≤ 100 ∧ ∀ (r : Nat) H', r < n → Off m H H' → MineAt H' m cl (k + 1) → Q (.int r) H'
theorem c_law_delve (T : TX w K mg) : C8.Cal P w K mg base 1 "_law_delve" (sp_law_delve K) [] := by
  obtain ⟨f, fd, F, b⟩ := T.d_law_delve
  have nd := sc_law_delve.nd
  refine C8.cal0 F b .nil sc_law_delve (fun vs H Q E h => ?_) (fun cdv A outer s H vs Q E hr h => ?_)
  · obtain ⟨m, cl, k, n, rfl, _⟩ := h
    rfl
  · obtain ⟨m, cl, k, n, rfl, ⟨cells, at_, rest, hm, hcl, hne, h63, hat⟩, hk, hn0, hn, q⟩ := h
    have fin : ∀ (i : Int) (H' : Hp) (rest' : Nat) (at' : Nat), at' ≤ k + 1 → Off m H H' → H' m = some (.lst [.ref cl, .int at', .int rest']) → Q (.int (i % (n : Int))) H' := by
      intro i H' rest' at' h1 o l
      have h2 : i % (n : Int) = (((i % (n : Int)).toNat : Nat) : Int) := by
        have := Int.emod_nonneg i (show (n : Int) ≠ 0 by omega)
        omega
      rw [h2]
      refine q _ _ ?_ o ⟨cells, at', rest', l, o _ _ hcl hne, hne, h63, h1⟩
      have := Int.emod_lt_of_pos i (show (0 : Int) < n by omega)
      have := Int.emod_nonneg i (show (n : Int) ≠ 0 by omega)
      omega
    refine ⟨_, (pss_cons (ps_if (pt_cmpR op_gt (pe_ix ix_list (pv 0) pe_int (fun _ _ => rfl)) pe_int (nomark _))
      (pss_cons (ps_set (i := 5) nd rfl (Or.inl rfl) (pe_callTy kc_int (by rfl) T.z_int (by decide +kernel) (pa_cons (pe_ix ix_list (pv 0) pe_int (fun _ _ => rfl)) pa_nil)))
      (pss_cons (ps_asg (pe_op op_fdiv (pv 5) (pv 1)) (pg_sub (pv 0) pe_int set_list))
      (pss_one (ps_ret (pe_op op_mod (pe_callTy kc_int (by rfl) T.z_int (by decide +kernel) (pa_cons (pv 5) pa_nil)) (pv 1))))))
      pss_nil)
    (pss_cons (ps_set (i := 2) nd rfl (Or.inl rfl) (pe_ix ix_list (pv 0) pe_int (fun _ _ => rfl)))
    (pss_cons (ps_asg (pe_op op_add (pv 2) pe_int) (pg_sub (pv 0) pe_int set_list))
    (pss_cons (ps_set (i := 3) nd rfl (Or.inl rfl) (pe_op op_add (pe_op op_mul pe_int (pv 2)) pe_int))
    (pss_cons (ps_if (pt_cmpR (op_neD hr.units) (pe_ix ix_list (pv 0) pe_int (fun _ _ => rfl)) (pe_lst pa_nil) (nomark _))
      (pss_one (ps_set (i := 3) nd rfl (Or.inl rfl) (pe_ix ix_list (pe_ix ix_list (pv 0) pe_int (fun _ _ => rfl)) (pe_op op_mod (pe_callTy kc_int (by rfl) T.z_int (by decide +kernel) (pa_cons (pv 2) pa_nil)) (pe_callB kc_len (by rfl) T.z_len (by decide +kernel) (pa_cons (pe_ix ix_list (pv 0) pe_int (fun _ _ => rfl)) pa_nil))) (fun _ _ => rfl))))
      pss_nil)
    (pss_cons (ps_if (PW.pt (pw_and (pt_cmpR op_lt (pv 2) (pe_callB kc_len (by rfl) T.z_len (by decide +kernel) (pa_cons (pe_ix ix_list (pv 0) pe_int (fun _ _ => rfl)) pa_nil)) (nomark _)) (pw_and1 (pt_cmpR op_ge (pe_callB kc_abs (by rfl) T.z_abs (by decide +kernel) (pa_cons (pv 3) pa_nil)) (pe_op op_pow pe_int pe_int) (nomark _)))))
      (pss_cons (ps_set (i := 5) nd rfl (Or.inl rfl) (pe_op op_add (pe_op op_mul pe_int (pe_op op_sub (pe_callB kc_abs (by rfl) T.z_abs (by decide +kernel) (pa_cons (pv 3) pa_nil)) (pe_op op_pow pe_int pe_int))) (pe_callTy kc_int (by rfl) T.z_int (by decide +kernel) (pa_cons (pe_cmpR op_lt (pv 3) pe_int (nomark _)) pa_nil))))
      (pss_cons (ps_asg (pe_op op_fdiv (pe_callTy kc_int (by rfl) T.z_int (by decide +kernel) (pa_cons (pv 5) pa_nil)) (pv 1)) (pg_sub (pv 0) pe_int set_list))
      (pss_one (ps_ret (pe_op op_mod (pe_callTy kc_int (by rfl) T.z_int (by decide +kernel) (pa_cons (pv 5) pa_nil)) (pv 1))))))
      pss_nil)
    (pss_cons (ps_set (i := 4) nd rfl (Or.inl rfl) (pe_op op_mod (pe_callTy kc_int (by rfl) T.z_int (by decide +kernel) (pa_cons (pe_op op_pow (pe_op op_add (pe_op op_add (pe_op op_mod (pe_callTy kc_int (by rfl) T.z_int (by decide +kernel) (pa_cons (pv 3) pa_nil)) pe_int) (pe_op op_mul pe_int (pv 2))) pe_int) pe_int) pa_nil)) pe_int))
    (pss_cons (ps_set (i := 4) nd rfl (Or.inl rfl) (pe_op op_mod (pe_callTy kc_int (by rfl) T.z_int (by decide +kernel) (pa_cons (pe_op op_pow (pe_op op_add (pe_op op_add (pe_op op_mul (pv 4) (pe_op op_add (pe_op op_mul pe_int (pv 2)) pe_int)) (pe_op op_mul (pe_op op_mul pe_int (pv 2)) (pv 2))) pe_int) pe_int) pa_nil)) pe_int))
    (pss_one (ps_ret (pe_op op_mod (pe_callTy kc_int (by rfl) T.z_int (by decide +kernel) (pa_cons (pe_op op_fdiv (pv 4) pe_int) pa_nil)) (pv 1)))))))))))), ?_⟩
    walk_at "st"
    walk_at "rd"
    refine g_ixL (SqL.rd hm) (atI_nat (j := 2) rfl) ?_
    walk_at "rd"
    by_cases h0 : 0 < rest
    · refine ifD_t (by omega) ?_
      walk_at "rd"
      refine g_ixL (SqL.rd hm) (atI_nat (j := 2) rfl) ?_
      walk_at "rd"
      unfold gSub
      walk_at "rd"
      refine ⟨m, _, 2, 2, rfl, rfl, hm, rfl, ?_⟩
      walk_at "rd"
      refine fin _ _ (rest / n) at_ (by omega) Off.upd ?_
      rw [upd_same, ← Int.natCast_ediv]
      rfl
    · refine ifD_f (by omega) ?_
      have hr0 : rest = 0 := by omega
      subst hr0
      walk_at "rd"
      refine g_ixL (SqL.rd hm) (atI_nat (j := 1) rfl) ?_
      walk_at "rd"
      unfold gSub
      walk_at "rd"
      refine ⟨m, _, 1, 1, rfl, rfl, hm, rfl, ?_⟩
      have o1 := Off.upd (H := H) (l := m) (o := .lst (([.ref cl, .int at_, .int (0 : Nat)] : List V).set 1 (.int ((at_ : Int) + 1))))
      have l1 : upd H m (.lst (([.ref cl, .int at_, .int (0 : Nat)] : List V).set 1 (.int ((at_ : Int) + 1)))) m = some (.lst [.ref cl, .int ((at_ + 1 : Nat) : Int), .int (0 : Nat)]) := by
        rw [upd_same]
        rfl
      generalize upd H m (.lst (([.ref cl, .int at_, .int (0 : Nat)] : List V).set 1 (.int ((at_ : Int) + 1)))) = H1 at o1 l1
      have hcl1 := o1 _ _ hcl hne
      -- the rest, whatever the cell is
      walk_at "rd"
      refine g_ixL (SqL.rd l1) (atI_nat (j := 0) rfl) ?_
      walk_at "rd"
      refine ⟨show (0 : Nat) ≤ sizeLine by decide, fun e ne => ?_⟩
      have s2 := Same.upd (o := .lst []) ne
      have l2 := upd_same (H := H1) (a := e) (o := .lst [])
      generalize upd H1 e (.lst []) = H2 at s2 l2
      walk_at "rd"
      refine ⟨.list (cells.map PyData.int), .list (([] : List Int).map PyData.int), .lst (SqL.rd (s2 _ _ hcl1)) (dp_ints cells), .lst (SqL.rd l2) .nil, PySem.W.ke_shaped_ints _, PySem.W.ke_shaped_ints _, ?_⟩
      have fin2 : ∀ (i : Int) (H' : Hp), Same H2 H' → Q (.int (i % (n : Int))) H' := fun i H' s => fin i H' 0 (at_ + 1) (by omega) ((o1.same s2).same s) (s _ _ (s2 _ _ l1))
      have at1 : at_ ≤ 100000 := by omega
      -- behind the choice of the cell
      have tail : ∀ (c : Int) (H3 : Hp), Same H2 H3 → True := fun _ _ _ => True.intro
      by_cases hc : cells = []
      case' pos =>
        subst hc
        rw [show PyData.eqv (.list (([] : List Int).map PyData.int)) (.list (([] : List Int).map PyData.int)) = true by decide +kernel]
        walk_at "rd"
        refine g_ixL (SqL.rd (s2 _ _ l1)) (atI_nat (j := 0) rfl) ?_
        walk_at "rd"
        refine g_lenL (SqL.rd (s2 _ _ hcl1)) ?_
        walk_at "rd"
        generalize (71233 * (at_ : Int) + 5153) = cell
      case' neg =>
        rw [show PyData.eqv (.list (cells.map PyData.int)) (.list (([] : List Int).map PyData.int)) = false by cases cells with | nil => exact absurd rfl hc | cons a l => rfl]
        walk_at "rd"
        refine g_ixL (SqL.rd (s2 _ _ l1)) (atI_nat (j := 0) rfl) ?_
        walk_at "rd"
        refine g_ixL (SqL.rd (s2 _ _ l1)) (atI_nat (j := 0) rfl) ?_
        walk_at "rd"
        refine g_lenL (SqL.rd (s2 _ _ hcl1)) ?_
        have hpos : 0 < cells.length := by
          cases cells with
          | nil => exact absurd rfl hc
          | cons a l => exact Nat.succ_pos _
        rw [List.length_map]
        walk_at "rd"
        have hlt : at_ % cells.length < cells.length := Nat.mod_lt _ hpos
        refine g_ixL (SqL.rd (s2 _ _ hcl1)) (v := .int cells[at_ % cells.length]) ?_ ?_
        · rw [← Int.natCast_emod]
          exact atI_nat (by rw [List.getElem?_map, List.getElem?_eq_getElem hlt]; rfl)
        generalize cells[at_ % cells.length] = cell
        walk_at "rd"
        refine g_ixL (SqL.rd (s2 _ _ l1)) (atI_nat (j := 0) rfl) ?_
        walk_at "rd"
        refine g_lenL (SqL.rd (s2 _ _ hcl1)) ?_
        walk_at "rd"
      all_goals
        refine ifD (fun h1 => ?_) (fun h1 => ?_)
        · walk_at "rd"
          refine ifD (fun h2 => ?_) (fun h2 => ?_)
          · walk_at "rd"
            have hr0 : (0 : Int) ≤ 2 * ((if cell < 0 then -cell else cell) - 10 ^ (18 : Int).toNat) + (if decide (cell < 0) = true then 1 else 0) := by
              have h3 : (10 : Int) ^ (18 : Int).toNat ≤ (if cell < 0 then -cell else cell) := h2
              by_cases hc0 : cell < 0
              · rw [if_pos hc0] at h3 ⊢
                rw [if_pos (decide_eq_true hc0)]
                omega
              · rw [if_neg hc0] at h3 ⊢
                rw [if_neg (fun z => hc0 (of_decide_eq_true z))]
                omega
            generalize 2 * ((if cell < 0 then -cell else cell) - 10 ^ (18 : Int).toNat) + (if decide (cell < 0) = true then (1 : Int) else 0) = rr at hr0 ⊢
            obtain ⟨R, rfl⟩ := Int.eq_ofNat_of_zero_le hr0
            walk_at "rd"
            try unfold gSub
            walk_at "rd"
            refine ⟨m, _, 2, 2, rfl, rfl, s2 _ _ l1, rfl, ?_⟩
            walk_at "rd"
            refine fin _ _ (R / n) (at_ + 1) (by omega) ((o1.same s2).trans Off.upd) ?_
            rw [upd_same, ← Int.natCast_ediv]
            rfl
          · walk_at "rd"
            have hx1 := Int.emod_lt_of_pos ((cell % 2147483587 + 31159 * (at_ : Int) + 5153) ^ Int.toNat 5) (show (0 : Int) < 2147483549 by decide)
            have hx0 := Int.emod_nonneg ((cell % 2147483587 + 31159 * (at_ : Int) + 5153) ^ Int.toNat 5) (show (2147483549 : Int) ≠ 0 by decide)
            generalize (cell % 2147483587 + 31159 * (at_ : Int) + 5153) ^ Int.toNat 5 % 2147483549 = mx at hx0 hx1 ⊢
            refine g_I (C := CPow) ⟨by decide, by decide, mix_le hx0 hx1 at1⟩ ?_
            walk_at "rd"
            exact fin2 _ _ (Same.refl _)
        · walk_at "rd"
          have hx1 := Int.emod_lt_of_pos ((cell % 2147483587 + 31159 * (at_ : Int) + 5153) ^ Int.toNat 5) (show (0 : Int) < 2147483549 by decide)
          have hx0 := Int.emod_nonneg ((cell % 2147483587 + 31159 * (at_ : Int) + 5153) ^ Int.toNat 5) (show (2147483549 : Int) ≠ 0 by decide)
          generalize (cell % 2147483587 + 31159 * (at_ : Int) + 5153) ^ Int.toNat 5 % 2147483549 = mx at hx0 hx1 ⊢
          refine g_I (C := CPow) ⟨by decide, by decide, mix_le hx0 hx1 at1⟩ ?_
          walk_at "rd"
          exact fin2 _ _ (Same.refl _)
def sp_law_one : PySem.W.Frag → Sp := fun K vs H Q _ => ∃ m cl a, ∃ (k : Nat) (xs : List V), vs = [.ref m, .ref a] ∧ MineAt H m cl k ∧ H a = some (.lst xs) ∧ a ≠ m ∧ k < 100000 ∧ 0 < xs.length ∧ xs.length ≤ 100 ∧ ∀ x H', x ∈ xs → Off m H H' → MineAt H' m cl (k + 1) → Q x H'
theorem c_law_one (T : TX w K mg) : C8.Cal P w K mg base 2 "_law_one" (sp_law_one K) [] := by
  obtain ⟨f, fd, F, b⟩ := T.d_law_one
  have nd := sc_law_one.nd
  refine C8.cal0 F b .nil sc_law_one (fun vs H Q E h => ?_) (fun cdv A outer s H vs Q E hr h => ?_)
  · obtain ⟨m, cl, a, k, xs, rfl, _⟩ := h
    rfl
  · obtain ⟨m, cl, a, k, xs, rfl, hm, ha, hne, hk, h0, h100, q⟩ := h
    refine ⟨_, (pss_one (ps_ret (pe_ix ix_list (pv 1) (C8.pe_c (c_law_delve T) hr (by decide) (by rfl) (pa_cons (pv 0) (pa_cons (pe_callB kc_len (by rfl) T.z_len (by decide +kernel) (pa_cons (pv 1) pa_nil)) pa_nil))) (fun _ _ => rfl)))), ?_⟩
    walk_at "st"
    walk_at "rd"
    refine g_lenL (SqL.rd ha) ?_
    walk_at "rd"
    refine ⟨m, cl, k, xs.length, rfl, hm, hk, h0, h100, fun r H1 hr1 o1 m1 => ?_⟩
    refine g_ixL (SqL.rd (o1 _ _ ha hne)) (atI_nat (List.getElem?_eq_getElem hr1)) ?_
    exact q _ H1 (List.getElem_mem _) o1 m1
end
end Dt
set_option Elab.async false
set_option linter.all false
set_option maxRecDepth 100000
set_option maxHeartbeats 4000000
namespace Dt
open PySem PySem.Spec L2
local macro_rules | `(tactic| walk_at "st") => `(tactic| (simp only [L2.start, List.map_cons, List.map_nil, List.length_cons, List.length_nil, List.replicate_succ, List.replicate_zero, List.cons_append, List.nil_append, Nat.zero_add, Nat.reduceAdd, Nat.reduceSub]))
local macro_rules | `(tactic| walk_at "r1") => `(tactic| with_reducible first
  | refine g_seq ?_
  | refine g_next ?_
  | refine g_asg ?_
  | refine g_ifS ?_
  | refine g_ret ?_
  | refine g_retN ?_
  | refine g_drop ?_
  | refine g_brk ?_
  | refine g_c ?_
  | refine g_op ?_
  | refine g_un ?_
  | refine g_I0 ?_
  | refine g_U ?_
  | refine g_eqI ?_
  | refine g_neI ?_
  | refine g_eqS ?_
  | refine g_neS ?_
  | refine g_test ?_
  | refine g_B ?_
  | refine g_bl ?_
  | refine g_if ?_
  | refine g_not ?_
  | refine g_and ?_
  | refine g_or ?_
  | refine g_andV ?_
  | refine g_orV ?_
  | refine g_notV ?_
  | refine g_blif ?_
  | refine g_chain ?_
  | refine g_nil ?_
  | refine g_cons ?_
  | refine g_cb ?_
  | refine g_call ?_
  | refine g_tup ?_
  | refine g_lst ?_
  | refine g_tfld ?_
  | refine g_dget ?_
  | refine g_mk ?_
  | refine g_lc2 ?_
  | refine g_gfld ?_
  | refine g_meth ?_
  | refine g_sfld ?_
  | refine g_din ?_
  | refine g_dput ?_
  | refine g_isN_int ?_
  | refine g_isN_str ?_
  | refine g_isN_ref ?_
  | refine g_isN_non ?_
  | refine g_nN_int ?_
  | refine g_nN_str ?_
  | refine g_nN_ref ?_
  | refine g_nN_non ?_
  | refine g_lc ?_
  | refine g_dc ?_
  | refine g_for ?_
  | refine g_iStr ?_
  | refine g_iList ?_
  | refine g_iTup ?_
  | refine g_iR1 ?_
  | refine g_iR2 ?_
  | refine g_iR3 ?_
  | refine g_iEnum ?_
  | refine g_iZip ?_
  | refine g_iZipA ?_
  | refine g_bm ?_
  | refine g_bm0 ?_
  | refine g_m1 ?_
  | refine g_sl ?_
  | refine g_poN ?_
  | refine g_poS ?_
  | refine g_poI ?_
  | refine g_yes ?_
  | refine g_gtup ?_
  | refine g_gcons ?_
  | refine g_gnil ?_
  | refine g_par ?_
  | refine g_isi_ii ?_
  | refine g_isi_ib ?_
  | refine g_isi_ss ?_
  | refine g_inC ?_
  | refine g_int1 ?_
  | refine g_int1b ?_
  | refine g_abs ?_
  | refine g_ltS ?_
  | refine iteT ?_
  | refine iteNT ?_
  | refine iteNF ?_
  | refine iteF ?_)
local macro_rules | `(tactic| walk_at "sd") => `(tactic| first | assumption | rfl | decide | omega)
local macro_rules | `(tactic| walk_at "hp") => `(tactic| first | assumption | exact upd_same | exact Same.get (by assumption) (by walk_at "hp") | exact Off.get (by assumption) (by walk_at "hp") (by walk_at "ne"))
local macro_rules | `(tactic| walk_at "ne") => `(tactic| first | assumption | (refine Ne.symm ?_; assumption) | exact ne_of_none (by walk_at "hp") (by assumption) | exact ne_none (by walk_at "hp") (by assumption) | exact ne_of (by walk_at "hp") (by walk_at "hp") (by intro z; cases z))
local macro_rules | `(tactic| walk_at "sq") => `(tactic| first | assumption | exact SqL.rd (by walk_at "hp") | exact SqT.rd (by walk_at "hp") | exact Same.seq (by assumption) (by walk_at "sq") | exact Same.seqT (by assumption) (by walk_at "sq"))
local macro_rules | `(tactic| walk_at "rI") => `(tactic| ((with_reducible refine g_I ?_ ?_); (focus (first | (refine Or.inl ⟨?_, ?_⟩ <;> (first | decide | omega)) | (refine Or.inr ⟨?_, ?_⟩ <;> (first | decide | omega)) | (show (0 : Int) < _; first | decide | omega | assumption) | (refine And.intro ?_ ?_ <;> (first | decide | omega | (refine And.intro ?_ ?_ <;> (first | decide | omega))))))))
local macro_rules | `(tactic| walk_at "r2") => `(tactic| first
  | ((with_reducible refine g_tvar ?_); (refine ⟨_, rfl, ?_⟩))
  | ((with_reducible refine g_name' (σ' := ?s) ?e ?h); (case e => (simp only [wipe, List.set_cons_zero, List.set_cons_succ]; first | done | rfl)))
  | (refine And.intro (show wipe _ _ = wipe _ _ from rfl) ?_)
  | walk_at "rI")
local macro_rules | `(tactic| walk_at "rd") => `(tactic| repeat (first | walk_at "r1" | walk_at "r2"))
local macro_rules | `(tactic| walk_at "gn") => `(tactic| (intro pA hA; generalize hG : upd _ _ _ = H2A; (have sA : Same _ H2A := hG ▸ Same.upd hA); (have lA : H2A pA = some _ := hG ▸ upd_same); clear hG))
local macro_rules | `(tactic| walk_at "mk") => `(tactic| (intro xM dxM h1M h2M hneM; generalize hG : upd (upd _ _ _) _ _ = HM; (have sM : Same _ HM := hG ▸ Same.updW (Same.upd h2M) h1M); (have lM : HM xM = some _ := hG ▸ upd_same); clear hG))
section
variable {P : Program} {w : World} {K : PySem.W.Frag} {mg : Str → Option Value} {base : Heap}
def sp_law_counts : PySem.W.Frag → Sp := fun K vs H Q _ => ∃ nl, ∃ (names : List Str) (m : Nat), vs = [.ref nl, .int m] ∧ H nl = some (.lst (names.map V.str)) ∧ NamesOk names ∧ m < 10000 ∧ ∀ l H', Same H H' → H' l = some (.lst (natsV (tblN names (m + 1)))) → H l = none → Q (.ref l) H'
theorem c_law_counts (T : TX w K mg) : C8.Cal P w K mg base 1 "_law_counts" (sp_law_counts K) [] := by
  obtain ⟨f, fd, F, b⟩ := T.d_law_counts
  have nd := sc_law_counts.nd
  refine C8.cal0 F b .nil sc_law_counts (fun vs H Q E h => ?_) (fun cdv A outer s H vs Q E hr h => ?_)
  · obtain ⟨nl, ns, m, rfl, _⟩ := h
    rfl
  · obtain ⟨nl, names, m, rfl, hnl, ok, hm, q⟩ := h
    refine ⟨_, (pss_cons (ps_set (i := 2) nd rfl (Or.inr rfl) (pe_lst pa_nil))
    (pss_cons (ps_for PassesOwn.never rfl (pi_range1 (by rfl) T.z_range (pa_cons (pe_op op_add (pv 1) pe_int) pa_nil)) (pg_name (i := 3) nd rfl (Or.inr rfl))
      (pss_cons (ps_setLc (i := 4) rfl nd rfl rfl (sw_true rfl rfl rfl (by decide +kernel)) (pi_list (pe_slice sl_list (pv 0) po_none (po_some pe_int))) (blkOk_by (own := [("_law_name", 5)]) (N := n_law_counts) (sc := defScope s_law_counts) (by decide +kernel)) (fun _ _ _ _ _ => (pg_name (i := 5) nd rfl (Or.inl rfl))) (fun _ _ _ _ _ => (pts_one (pt_cmpR op_le (pe_callB kc_lenS (by rfl) T.z_len (by decide +kernel) (pa_cons (pv 5) pa_nil)) (pv 3) (nomark _)))) (fun _ _ _ _ _ => (pe_ix (kIx (K := K) (r := rIxL) rfl ix_list) (pv 2) (pe_op op_sub (pv 3) (pe_callB kc_lenS (by rfl) T.z_len (by decide +kernel) (pa_cons (pv 5) pa_nil))) (fun _ _ => rfl))))
      (pss_one (ps_expr (pe_bm PySem.F.plainAttrs_list PySem.F.slot_list_append PySem.F.type_list_append mt_append (pv 2) (pa_cons (pe_op op_add (pe_callB (cr_sum rfl) (by rfl) T.z_sum (by decide +kernel) (pa_cons (pv 4) pa_nil)) (pe_callTy kc_int (by rfl) T.z_int (by decide +kernel) (pa_cons (pe_cmpR op_eq (pv 3) (pe_callB kc_lenS (by rfl) T.z_len (by decide +kernel) (pa_cons (pe_ix ix_list (pv 0) pe_int (fun _ _ => rfl)) pa_nil)) (nomark _)) pa_nil))) pa_nil))))))
    (pss_one (ps_ret (pv 2))))), ?_⟩
    walk_at "st"
    walk_at "rd"
    refine ⟨show (0 : Nat) ≤ sizeLine by decide, fun l nl0 => ?_⟩
    walk_at "rd"
    refine ⟨(m : Int) + 1, rfl, by omega, by omega, ?_⟩
    refine for_it walk_range (fun i σ H' => (∃ x y z, σ = [some (.ref nl), some (.int m), some (.ref l), x, y, z]) ∧ Same H H' ∧ H' l = some (.lst (natsV (tblN names i)))) ⟨⟨_, _, _, rfl⟩, Same.upd nl0, upd_same⟩ (fun _ _ _ _ _ => True.intro) (fun i x σ H1 H2 hi pv y => ?_) (fun σ H1 pv => ?_)
    · obtain ⟨⟨x0, y0, z0, rfl⟩, s1, l1⟩ := pv
      obtain ⟨rfl, rfl⟩ := y
      have hil : i < 10001 := by omega
      walk_at "rd"
      rw [show (0 : Int) + (i : Nat) = ((i : Nat) : Int) by omega]
      refine ⟨nl, _, rfl, SqL.rd (s1 _ _ hnl), fun p np => ?_⟩
      have hc : cutV (names.map V.str) none (some 7) = (names.take 7).map V.str := (cutV_to (k := 7)).trans List.map_take.symm
      rw [hc]
      have s2 := Same.upd (o := .lst ((names.take 7).map V.str)) np
      have l2 := upd_same (H := H2) (a := p) (o := .lst ((names.take 7).map V.str))
      generalize upd H2 p (.lst ((names.take 7).map V.str)) = H3 at s2 l2
      refine ⟨p, rfl, ⟨_, SqL.rd l2⟩, fun D nD => ?_⟩
      have htl := tblN_len (names := names) i
      refine lc_it walk_list (PvL H3 D (fun x : Str => if decide (x.length ≤ (tblN names i).length) = true then some (V.int ((tblN names i).getD ((tblN names i).length - x.length) 0 : Nat)) else none) (names.take 7)) (pvl_start nD) (fun _ _ _ pv => SqL.rd (pv.1 _ _ l2)) (fun j x H7 H8 hj pv y => ?_) (fun H7 pv => ?_)
      · obtain ⟨rfl, hx1⟩ := y
        obtain ⟨x, hx2, rfl⟩ := get_map hx1
        have hxm := List.mem_of_mem_take (List.mem_of_getElem? hx2)
        have hx1 := ok.lo x hxm
        have hx8 := ok.hi x hxm
        walk_at "rd"
        refine g_lenS (by rw [sizeLine_eq]; omega) ?_
        walk_at "rd"
        by_cases hle : x.length ≤ (tblN names i).length
        · have hlt : (tblN names i).length - x.length < (tblN names i).length := by omega
          refine ifD_t (by omega) ?_
          walk_at "rd"
          refine g_lenS (by rw [sizeLine_eq]; omega) ?_
          walk_at "rd"
          refine g_ixL (SqL.rd (pv.1 _ _ (s2 _ _ l1))) (v := V.int ((tblN names i).getD ((tblN names i).length - x.length) 0 : Nat)) ?_ ?_
          · rw [show ((i : Nat) : Int) - (x.length : Nat) = (((tblN names i).length - x.length : Nat) : Int) by omega]
            exact atI_nat (getV hlt)
          · exact pvl_yes nD pv (Same.refl _) hx2 (by rw [if_pos (decide_eq_true hle)]) (by rw [sizeLine_eq, List.length_take]; omega)
        · refine ifD_f (by omega) ?_
          exact pvl_no pv (Same.refl _) hx2 (by rw [if_neg (by rw [decide_eq_true_iff]; exact hle)])
      · rw [List.length_map] at pv
        obtain ⟨s7, l7⟩ := pvl_end pv
        rw [fm_if] at l7
        walk_at "rd"
        refine ⟨tyL (SqL.rd (s7 _ _ (s2 _ _ l1))), ?_⟩
        walk_at "rd"
        refine g_sum (ns := (((names.take 7).filter fun n => decide (n.length ≤ (tblN names i).length)).map fun n => (tblN names i).getD ((tblN names i).length - n.length) 0).map (fun n : Nat => (n : Int))) (SqL.rd (l7.trans (by rw [List.map_map, List.map_map]; rfl))) int_sum ?_
        walk_at "rd"
        have h7 : (names.map V.str)[7]? = some (V.str (names.getD 7 Str.empty)) := by
          rw [List.getElem?_map, List.getD_eq_getElem?_getD, List.getElem?_eq_getElem (by rw [ok.len]; decide)]
          rfl
        refine g_ixL (SqL.rd (s7 _ _ (s2 _ _ (s1 _ _ hnl)))) (atI_nat (j := 7) h7) ?_
        walk_at "rd"
        have el := (endLen_le ok).2
        refine g_lenS (by rw [sizeLine_eq]; show endLen names ≤ _; omega) ?_
        walk_at "rd"
        have e3 : (((((names.take 7).filter fun n => decide (n.length ≤ (tblN names i).length)).map fun n => (tblN names i).getD ((tblN names i).length - n.length) 0).sum : Nat) : Int) + (if decide (((i : Nat) : Int) = ((names.getD 7 Str.empty).length : Nat)) = true then 1 else 0) = ((mNext names (tblN names i) : Nat) : Int) := by
          unfold mNext
          rw [htl]
          by_cases h : i = (names.getD 7 Str.empty).length
          · rw [if_pos h, if_pos (decide_eq_true (by omega))]; omega
          · rw [if_neg h, if_neg (fun z => h (by have z2 := of_decide_eq_true z; omega))]; omega
        rw [e3]
        refine ⟨l, _, _, rfl, rfl, s7 _ _ (s2 _ _ l1), by rw [List.length_map, htl, sizeLine_eq]; omega, ?_⟩
        refine ⟨⟨_, _, _, rfl⟩, Same.updW ((s1.trans s2).trans s7) nl0, ?_⟩
        rw [upd_same]
        show some (HO.lst _) = some (.lst (natsV (tblN names i ++ [_])))
        unfold natsV
        rw [List.map_append]
        rfl
    · obtain ⟨⟨x0, y0, z0, rfl⟩, s1, l1⟩ := pv
      walk_at "rd"
      refine q l _ s1 ?_ nl0
      rw [l1, show ((m : Int) + 1).toNat = m + 1 by omega]
end
end Dt
set_option Elab.async false
set_option linter.all false
set_option maxRecDepth 100000
set_option maxHeartbeats 4000000
namespace Dt
open PySem PySem.Spec L2
local macro_rules | `(tactic| walk_at "st") => `(tactic| (simp only [L2.start, List.map_cons, List.map_nil, List.length_cons, List.length_nil, List.replicate_succ, List.replicate_zero, List.cons_append, List.nil_append, Nat.zero_add, Nat.reduceAdd, Nat.reduceSub]))
local macro_rules | `(tactic| walk_at "r1") => `(tactic| with_reducible first
  | refine g_seq ?_
  | refine g_next ?_
  | refine g_asg ?_
  | refine g_ifS ?_
  | refine g_ret ?_
  | refine g_retN ?_
  | refine g_drop ?_
  | refine g_brk ?_
  | refine g_c ?_
  | refine g_op ?_
  | refine g_un ?_
  | refine g_I0 ?_
  | refine g_U ?_
  | refine g_eqI ?_
  | refine g_neI ?_
  | refine g_eqS ?_
  | refine g_neS ?_
  | refine g_test ?_
  | refine g_B ?_
  | refine g_bl ?_
  | refine g_if ?_
  | refine g_not ?_
  | refine g_and ?_
  | refine g_or ?_
  | refine g_andV ?_
  | refine g_orV ?_
  | refine g_notV ?_
  | refine g_blif ?_
  | refine g_chain ?_
  | refine g_nil ?_
  | refine g_cons ?_
  | refine g_cb ?_
  | refine g_call ?_
  | refine g_tup ?_
  | refine g_lst ?_
  | refine g_tfld ?_
  | refine g_dget ?_
  | refine g_mk ?_
  | refine g_lc2 ?_
  | refine g_gfld ?_
  | refine g_meth ?_
  | refine g_sfld ?_
  | refine g_din ?_
  | refine g_dput ?_
  | refine g_isN_int ?_
  | refine g_isN_str ?_
  | refine g_isN_ref ?_
  | refine g_isN_non ?_
  | refine g_nN_int ?_
  | refine g_nN_str ?_
  | refine g_nN_ref ?_
  | refine g_nN_non ?_
  | refine g_lc ?_
  | refine g_dc ?_
  | refine g_for ?_
  | refine g_iStr ?_
  | refine g_iList ?_
  | refine g_iTup ?_
  | refine g_iR1 ?_
  | refine g_iR2 ?_
  | refine g_iR3 ?_
  | refine g_iEnum ?_
  | refine g_iZip ?_
  | refine g_iZipA ?_
  | refine g_bm ?_
  | refine g_bm0 ?_
  | refine g_m1 ?_
  | refine g_sl ?_
  | refine g_poN ?_
  | refine g_poS ?_
  | refine g_poI ?_
  | refine g_yes ?_
  | refine g_gtup ?_
  | refine g_gcons ?_
  | refine g_gnil ?_
  | refine g_par ?_
  | refine g_isi_ii ?_
  | refine g_isi_ib ?_
  | refine g_isi_ss ?_
  | refine g_inC ?_
  | refine g_int1 ?_
  | refine g_int1b ?_
  | refine g_abs ?_
  | refine g_ltS ?_
  | refine iteT ?_
  | refine iteNT ?_
  | refine iteNF ?_
  | refine iteF ?_)
local macro_rules | `(tactic| walk_at "sd") => `(tactic| first | assumption | rfl | decide | omega)
local macro_rules | `(tactic| walk_at "hp") => `(tactic| first | assumption | exact upd_same | exact Same.get (by assumption) (by walk_at "hp") | exact Off.get (by assumption) (by walk_at "hp") (by walk_at "ne"))
local macro_rules | `(tactic| walk_at "ne") => `(tactic| first | assumption | (refine Ne.symm ?_; assumption) | exact ne_of_none (by walk_at "hp") (by assumption) | exact ne_none (by walk_at "hp") (by assumption) | exact ne_of (by walk_at "hp") (by walk_at "hp") (by intro z; cases z))
local macro_rules | `(tactic| walk_at "sq") => `(tactic| first | assumption | exact SqL.rd (by walk_at "hp") | exact SqT.rd (by walk_at "hp") | exact Same.seq (by assumption) (by walk_at "sq") | exact Same.seqT (by assumption) (by walk_at "sq"))
local macro_rules | `(tactic| walk_at "rI") => `(tactic| ((with_reducible refine g_I ?_ ?_); (focus (first | (refine Or.inl ⟨?_, ?_⟩ <;> (first | decide | omega)) | (refine Or.inr ⟨?_, ?_⟩ <;> (first | decide | omega)) | (show (0 : Int) < _; first | decide | omega | assumption) | (refine And.intro ?_ ?_ <;> (first | decide | omega | (refine And.intro ?_ ?_ <;> (first | decide | omega))))))))
local macro_rules | `(tactic| walk_at "r2") => `(tactic| first
  | ((with_reducible refine g_tvar ?_); (refine ⟨_, rfl, ?_⟩))
  | ((with_reducible refine g_name' (σ' := ?s) ?e ?h); (case e => (simp only [wipe, List.set_cons_zero, List.set_cons_succ]; first | done | rfl)))
  | (refine And.intro (show wipe _ _ = wipe _ _ from rfl) ?_)
  | walk_at "rI")
local macro_rules | `(tactic| walk_at "rd") => `(tactic| repeat (first | walk_at "r1" | walk_at "r2"))
local macro_rules | `(tactic| walk_at "gn") => `(tactic| (intro pA hA; generalize hG : upd _ _ _ = H2A; (have sA : Same _ H2A := hG ▸ Same.upd hA); (have lA : H2A pA = some _ := hG ▸ upd_same); clear hG))
local macro_rules | `(tactic| walk_at "mk") => `(tactic| (intro xM dxM h1M h2M hneM; generalize hG : upd (upd _ _ _) _ _ = HM; (have sM : Same _ HM := hG ▸ Same.updW (Same.upd h2M) h1M); (have lM : HM xM = some _ := hG ▸ upd_same); clear hG))
/-- the text of a program -/
def textF (names ws : List Str) : Str := PySem.Txt.join "" ((ws ++ [("end" : Str)]).map (nameOf names))
theorem nameOf_at {names : List Str} (hl : names.length = 8) {j : Nat} {x : Str} (h : W8[j]? = some x) : names[j]? = some (nameOf names x) := by
  have hj : j < names.length := by
    rw [hl]
    exact (List.getElem?_eq_some_iff.mp h).1
  have e : names[j]? = some names[j] := List.getElem?_eq_getElem hj
  have m : (names[j], x) ∈ names.zip W8 := List.mem_of_getElem? (List.getElem?_zip_eq_some.mpr ⟨e, h⟩)
  have l := lookup_mem W8_nodup m
  unfold nameOf
  rw [l, e]
  rfl
theorem idx_of {x : Str} (h : x ∈ W8) : ∃ j, W8[j]? = some x ∧ ∀ (k : Nat) (y : Str), k < j → W8[k]? = some y → y ≠ x := by
  obtain ⟨j, hj, e⟩ := List.mem_iff_getElem.mp h
  refine ⟨j, by rw [List.getElem?_eq_getElem hj, e], fun k y hk hy he => ?_⟩
  subst he
  obtain ⟨hk2, ek⟩ := List.getElem?_eq_some_iff.mp hy
  have := (List.getElem_inj W8_nodup).mp (ek.trans e.symm)
  omega
section
variable {P : Program} {w : World} {K : PySem.W.Frag} {mg : Str → Option Value} {base : Heap}
def sp_law_text : PySem.W.Frag → Sp := fun K vs H Q _ => ∃ nl p, ∃ (names ws : List Str), vs = [.ref nl, .ref p] ∧ H nl = some (.lst (names.map V.str)) ∧ NamesOk names ∧ H p = some (.tup (ws.map V.str)) ∧ ws.length ≤ 200 ∧ (∀ x ∈ ws, x ∈ W7) ∧ ∀ H', Same H H' → Q (.str (textF names ws)) H'
theorem c_law_text (T : TX w K mg) : C8.Cal P w K mg base 1 "_law_text" (sp_law_text K) [] := by
  obtain ⟨f, fd, F, b⟩ := T.d_law_text
  have nd := sc_law_text.nd
  refine C8.cal0 F b .nil sc_law_text (fun vs H Q E h => ?_) (fun cdv A outer s H vs Q E hr h => ?_)
  · obtain ⟨nl, p, ns, ws, rfl, _⟩ := h
    rfl
  · obtain ⟨nl, p, names, ws, rfl, hnl, ok, hp, h200, hw, q⟩ := h
    refine ⟨_, (pss_cons (ps_set (i := 2) nd rfl (Or.inr rfl) (pe_lst (pa_cons pe_str (pa_cons pe_str (pa_cons pe_str (pa_cons pe_str (pa_cons pe_str (pa_cons pe_str (pa_cons pe_str (pa_cons pe_str pa_nil))))))))))
    (pss_one (ps_ret (pe_join pe_str (pe_lc rfl nd (pi_list (pe_op op_cat (pe_callTy kc_list (by rfl) T.z_list (by decide +kernel) (pa_cons (pv 1) pa_nil)) (pe_lst (pa_cons pe_str pa_nil)))) (blkOk_by (own := [("_law_word_here", 3)]) (N := n_law_text) (sc := defScope s_law_text) (by decide +kernel)) (fun _ _ _ _ _ => (pg_name (i := 3) nd rfl (Or.inl rfl))) (fun _ _ _ _ _ => pts_nil) (fun _ _ _ _ _ => (pe_ix (kIx (K := K) (r := rIxL) rfl ix_list) (pv 0) (pe_K (K := K) (t := fun K => tBM K _ (rIndex K) _ _) rfl (pe_bm PySem.F.plainAttrs_list PySem.F.slot_list_index PySem.F.type_list_index mt_index (pv 2) (pa_cons (pv 3) pa_nil))) (fun _ _ => rfl)))))))), ?_⟩
    walk_at "st"
    walk_at "rd"
    refine ⟨show (8 : Nat) ≤ sizeLine by decide, fun wl nw => ?_⟩
    have s1 := Same.upd (o := .lst (W8.map V.str)) nw
    have l1 := upd_same (H := H) (a := wl) (o := .lst (W8.map V.str))
    show gName 2 (.ref wl) _ (upd H wl (.lst (W8.map V.str))) _
    generalize upd H wl (.lst (W8.map V.str)) = H1 at s1 l1
    walk_at "rd"
    refine ⟨⟨_, rfl⟩, ?_⟩
    walk_at "rd"
    refine g_listT (SqT.rd (s1 _ _ hp)) fun a na => ?_
    have s2 := Same.upd (o := .lst (ws.map V.str)) na
    have l2 := upd_same (H := H1) (a := a) (o := .lst (ws.map V.str))
    generalize upd H1 a (.lst (ws.map V.str)) = H2 at s2 l2
    walk_at "rd"
    refine ⟨show (1 : Nat) ≤ sizeLine by decide, fun b nb => ?_⟩
    have s3 := Same.upd (o := .lst [.str "end"]) nb
    have l3 := upd_same (H := H2) (a := b) (o := .lst [.str "end"])
    generalize upd H2 b (.lst [.str "end"]) = H3 at s3 l3
    refine ⟨a, b, _, _, rfl, rfl, s3 _ _ l2, l3, by rw [List.length_map, sizeLine_eq]; simp; omega, fun c nc => ?_⟩
    have ec : ws.map V.str ++ [V.str "end"] = (ws ++ [("end" : Str)]).map V.str := by rw [List.map_append]; rfl
    rw [ec]
    have s4 := Same.upd (o := .lst ((ws ++ [("end" : Str)]).map V.str)) nc
    have l4 := upd_same (H := H3) (a := c) (o := .lst ((ws ++ [("end" : Str)]).map V.str))
    generalize upd H3 c (.lst ((ws ++ [("end" : Str)]).map V.str)) = H4 at s4 l4
    have s14 := (s2.trans s3).trans s4
    refine ⟨c, rfl, ⟨_, SqL.rd l4⟩, fun D nD => ?_⟩
    have h8 : ∀ x ∈ ws ++ [("end" : Str)], x ∈ W8 := by
      intro x hx
      rcases List.mem_append.mp hx with h | h
      · exact W78 (hw x h)
      · rw [List.mem_singleton.mp h]; exact end8
    refine lc_it walk_list (PvL H4 D (fun x : Str => some (V.str (nameOf names x))) (ws ++ [("end" : Str)])) (pvl_start nD) (fun _ _ _ pv => SqL.rd (pv.1 _ _ l4)) (fun i x H5 H6 hi pv y => ?_) (fun H5 pv => ?_)
    · obtain ⟨rfl, hx1⟩ := y
      obtain ⟨x, hx2, rfl⟩ := get_map hx1
      obtain ⟨j, hj, hno⟩ := idx_of (h8 x (List.mem_of_getElem? hx2))
      walk_at "rd"
      refine ⟨tyL (SqL.rd (pv.1 _ _ (s14 _ _ l1))), ?_⟩
      walk_at "rd"
      refine ⟨wl, W8.map V.str, .str x, j, .str x, rfl, rfl, SqL.rd (pv.1 _ _ (s14 _ _ l1)), rfl, flat_strs, by rw [List.getElem?_map, hj]; rfl, by rw [eqV_ss]; exact decide_eq_true rfl, ?_, ?_⟩
      · intro k z hk hz
        obtain ⟨z, hz2, rfl⟩ := get_map hz
        rw [eqV_ss]
        exact decide_eq_false (hno k z hk hz2)
      · refine g_ixL (SqL.rd (pv.1 _ _ (s14 _ _ (s1 _ _ hnl)))) (atI_nat (v := .str (nameOf names x)) (by rw [List.getElem?_map, nameOf_at ok.len hj]; rfl)) ?_
        exact pvl_yes nD pv (Same.refl _) hx2 rfl (by rw [List.length_append, List.length_singleton, sizeLine_eq]; omega)
    · rw [List.length_map] at pv
      obtain ⟨s5, l5⟩ := pvl_end pv
      rw [fm_map] at l5
      walk_at "rd"
      refine ⟨"", D, (ws ++ [("end" : Str)]).map (nameOf names), rfl, rfl, .inl (SqL.rd (l5.trans (by rw [List.map_map]; rfl))), ?_, ?_⟩
      · have h1 : (((ws ++ [("end" : Str)]).map (nameOf names)).map (·.length)).sum ≤ ((ws ++ [("end" : Str)]).map fun _ => 8).sum := by
          rw [List.map_map]
          exact sum_le fun x hx => (lenW_le ok (h8 x hx)).2
        have h2 : ((ws ++ [("end" : Str)]).map fun _ => 8).sum ≤ 8 * 201 := by
          rw [List.map_const', List.sum_replicate_nat, List.length_append, List.length_singleton]
          omega
        have h3 : ("" : Str).length = 0 := by decide +kernel
        rw [h3]
        omega
      · exact q _ ((s1.trans s14).trans s5)
end
end Dt
set_option Elab.async false
set_option linter.all false
set_option maxRecDepth 100000
set_option maxHeartbeats 4000000
namespace Dt
open PySem PySem.Spec L2
local macro_rules | `(tactic| walk_at "st") => `(tactic| (simp only [L2.start, List.map_cons, List.map_nil, List.length_cons, List.length_nil, List.replicate_succ, List.replicate_zero, List.cons_append, List.nil_append, Nat.zero_add, Nat.reduceAdd, Nat.reduceSub]))
local macro_rules | `(tactic| walk_at "r1") => `(tactic| with_reducible first
  | refine g_seq ?_
  | refine g_next ?_
  | refine g_asg ?_
  | refine g_ifS ?_
  | refine g_ret ?_
  | refine g_retN ?_
  | refine g_drop ?_
  | refine g_brk ?_
  | refine g_c ?_
  | refine g_op ?_
  | refine g_un ?_
  | refine g_I0 ?_
  | refine g_U ?_
  | refine g_eqI ?_
  | refine g_neI ?_
  | refine g_eqS ?_
  | refine g_neS ?_
  | refine g_test ?_
  | refine g_B ?_
  | refine g_bl ?_
  | refine g_if ?_
  | refine g_not ?_
  | refine g_and ?_
  | refine g_or ?_
  | refine g_andV ?_
  | refine g_orV ?_
  | refine g_notV ?_
  | refine g_blif ?_
  | refine g_chain ?_
  | refine g_nil ?_
  | refine g_cons ?_
  | refine g_cb ?_
  | refine g_call ?_
  | refine g_tup ?_
  | refine g_lst ?_
  | refine g_tfld ?_
  | refine g_dget ?_
  | refine g_mk ?_
  | refine g_lc2 ?_
  | refine g_gfld ?_
  | refine g_meth ?_
  | refine g_sfld ?_
  | refine g_din ?_
  | refine g_dput ?_
  | refine g_isN_int ?_
  | refine g_isN_str ?_
  | refine g_isN_ref ?_
  | refine g_isN_non ?_
  | refine g_nN_int ?_
  | refine g_nN_str ?_
  | refine g_nN_ref ?_
  | refine g_nN_non ?_
  | refine g_lc ?_
  | refine g_dc ?_
  | refine g_for ?_
  | refine g_iStr ?_
  | refine g_iList ?_
  | refine g_iTup ?_
  | refine g_iR1 ?_
  | refine g_iR2 ?_
  | refine g_iR3 ?_
  | refine g_iEnum ?_
  | refine g_iZip ?_
  | refine g_iZipA ?_
  | refine g_bm ?_
  | refine g_bm0 ?_
  | refine g_m1 ?_
  | refine g_sl ?_
  | refine g_poN ?_
  | refine g_poS ?_
  | refine g_poI ?_
  | refine g_yes ?_
  | refine g_gtup ?_
  | refine g_gcons ?_
  | refine g_gnil ?_
  | refine g_par ?_
  | refine g_isi_ii ?_
  | refine g_isi_ib ?_
  | refine g_isi_ss ?_
  | refine g_inC ?_
  | refine g_int1 ?_
  | refine g_int1b ?_
  | refine g_abs ?_
  | refine g_ltS ?_
  | refine iteT ?_
  | refine iteNT ?_
  | refine iteNF ?_
  | refine iteF ?_)
local macro_rules | `(tactic| walk_at "sd") => `(tactic| first | assumption | rfl | decide | omega)
local macro_rules | `(tactic| walk_at "hp") => `(tactic| first | assumption | exact upd_same | exact Same.get (by assumption) (by walk_at "hp") | exact Off.get (by assumption) (by walk_at "hp") (by walk_at "ne"))
local macro_rules | `(tactic| walk_at "ne") => `(tactic| first | assumption | (refine Ne.symm ?_; assumption) | exact ne_of_none (by walk_at "hp") (by assumption) | exact ne_none (by walk_at "hp") (by assumption) | exact ne_of (by walk_at "hp") (by walk_at "hp") (by intro z; cases z))
local macro_rules | `(tactic| walk_at "sq") => `(tactic| first | assumption | exact SqL.rd (by walk_at "hp") | exact SqT.rd (by walk_at "hp") | exact Same.seq (by assumption) (by walk_at "sq") | exact Same.seqT (by assumption) (by walk_at "sq"))
local macro_rules | `(tactic| walk_at "rI") => `(tactic| ((with_reducible refine g_I ?_ ?_); (focus (first | (refine Or.inl ⟨?_, ?_⟩ <;> (first | decide | omega)) | (refine Or.inr ⟨?_, ?_⟩ <;> (first | decide | omega)) | (show (0 : Int) < _; first | decide | omega | assumption) | (refine And.intro ?_ ?_ <;> (first | decide | omega | (refine And.intro ?_ ?_ <;> (first | decide | omega))))))))
local macro_rules | `(tactic| walk_at "r2") => `(tactic| first
  | ((with_reducible refine g_tvar ?_); (refine ⟨_, rfl, ?_⟩))
  | ((with_reducible refine g_name' (σ' := ?s) ?e ?h); (case e => (simp only [wipe, List.set_cons_zero, List.set_cons_succ]; first | done | rfl)))
  | (refine And.intro (show wipe _ _ = wipe _ _ from rfl) ?_)
  | walk_at "rI")
local macro_rules | `(tactic| walk_at "rd") => `(tactic| repeat (first | walk_at "r1" | walk_at "r2"))
local macro_rules | `(tactic| walk_at "gn") => `(tactic| (intro pA hA; generalize hG : upd _ _ _ = H2A; (have sA : Same _ H2A := hG ▸ Same.upd hA); (have lA : H2A pA = some _ := hG ▸ upd_same); clear hG))
local macro_rules | `(tactic| walk_at "mk") => `(tactic| (intro xM dxM h1M h2M hneM; generalize hG : upd (upd _ _ _) _ _ = HM; (have sM : Same _ HM := hG ▸ Same.updW (Same.upd h2M) h1M); (have lM : HM xM = some _ := hG ▸ upd_same); clear hG))
/-- what one name adds up at a stand -/
def addN (tb : List Nat) (left : List Nat) (many : Nat) (n : Str) : Nat := if left.take n.length ≠ n.cps.toList ∧ n.cps.toList < left.take n.length ∧ n.length ≤ many then tb.getD (many - n.length) 0 else 0
/-- what the end adds up at a stand -/
def addE (left : List Nat) (many : Nat) (n : Str) : Nat := if n.cps.toList < left ∧ left ≠ n.cps.toList ∧ n.length = many then 1 else 0
/-- what _law_ahead sums up at one stand -/
def aheadOne (names : List Str) (tb : List Nat) (left : List Nat) (many : Nat) : Nat := ((names.take 7).map (addN tb left many)).sum + addE left many (names.getD 7 Str.empty)
theorem shaped_pairs (l : List (List Nat × Nat)) (h : ∀ x ∈ l, ∀ c ∈ x.1, c < 0x110000) : SeqAt.shaped (.list (l.map fun x => .tuple [.str (SX.S x.1), .int x.2])) = true := by
  have h1 : ∀ l : List (List Nat × Nat), (∀ x ∈ l, ∀ c ∈ x.1, c < 0x110000) → PyData.canLayAll0 (l.map fun x => .tuple [.str (SX.S x.1), .int x.2]) = true := by
    intro l
    induction l with
    | nil => intro _; rfl
    | cons a l ih =>
      intro h
      have ha : PyData.strOk (SX.S a.1) = true := by
        unfold PyData.strOk
        rw [Array.all_eq_true']
        intro c hc
        exact decide_eq_true (h a (.head _) c (by simpa [SX.S] using hc))
      simp [PyData.canLayAll0, PyData.canLay0, ih fun x hx => h x (.tail _ hx), ha]
  have h2 : ∀ l : List (List Nat × Nat), PyData.depthAll (l.map fun x => .tuple [.str (SX.S x.1), .int x.2]) ≤ 1 := by
    intro l
    induction l with
    | nil => exact Nat.zero_le _
    | cons a l ih =>
      rw [List.map_cons]
      show max (PyData.depth (.tuple [.str (SX.S a.1), .int a.2])) (PyData.depthAll _) ≤ 1
      refine Nat.max_le.mpr ⟨?_, ih⟩
      show max 0 (max 0 0) + 1 ≤ 1
      decide
  unfold SeqAt.shaped
  have e : PyData.canLay0 (.list (l.map fun x => .tuple [.str (SX.S x.1), .int x.2])) = true := h1 l h
  rw [e, Bool.true_and]
  refine decide_eq_true ?_
  show PyData.depthAll _ + 1 ≤ 64
  have := h2 l
  omega
theorem joinL_flat : ∀ l : List (List Nat), TL.joinL [] l = l.flatten
  | [] => rfl
  | [p] => by
    show p = [p].flatten
    simp
  | p :: q :: r => by
    show p ++ ([] ++ TL.joinL [] (q :: r)) = _
    rw [joinL_flat (q :: r)]
    rfl
theorem text_S {names ws : List Str} : textF names ws = SX.S (((ws ++ [("end" : Str)]).map fun x => (nameOf names x).cps.toList).flatten) := by
  unfold textF
  have he : ("" : Str) = SX.S [] := by decide +kernel
  rw [he, strs_S ((ws ++ [("end" : Str)]).map (nameOf names)), SX.join_S, joinL_flat, List.map_map]
  rfl
/-- the signs of a program's text -/
def tx (names ws : List Str) : List Nat := ((ws ++ [("end" : Str)]).map fun x => (nameOf names x).cps.toList).flatten
theorem text_eqS {names ws : List Str} : textF names ws = SX.S (tx names ws) := text_S
theorem tx_eq {names ws : List Str} : (textF names ws).cps.toList = tx names ws := by rw [text_S]; rfl
theorem tx_nil {names : List Str} : tx names [] = (nameOf names "end").cps.toList := by simp [tx]
theorem tx_cons {names ws : List Str} {x : Str} : tx names (x :: ws) = (nameOf names x).cps.toList ++ tx names ws := by simp [tx]
theorem len_tl {x : Str} : x.cps.toList.length = x.length := Array.length_toList
theorem tx_len {names : List Str} : ∀ ws, (tx names ws).length = lenP names ws
  | [] => by
    rw [tx_nil, len_tl]
    simp [lenP, lenW]
  | x :: ws => by
    rw [tx_cons, List.length_append, tx_len ws, lenP_cons, len_tl]
    rfl
theorem text_len {names ws : List Str} : (textF names ws).length = lenP names ws := by
  rw [← len_tl, tx_eq, tx_len]
/-- of two names that begin a text the one is the other -/
theorem free_eq {names : List Str} (h : Free names) {a b : Str} {l : List Nat} (ha : a ∈ names) (hb : b ∈ names) (pa : a.cps.toList <+: l) (pb : b.cps.toList <+: l) : a = b := by
  obtain ⟨i, hi, rfl⟩ := List.mem_iff_getElem.mp ha
  obtain ⟨j, hj, rfl⟩ := List.mem_iff_getElem.mp hb
  have hp := List.pairwise_iff_getElem.mp h
  rcases Nat.lt_trichotomy i j with h1 | h1 | h1
  · have q := hp i j hi hj h1
    rcases List.prefix_or_prefix_of_prefix pa pb with r | r
    · exact absurd r q.1
    · exact absurd r q.2
  · subst h1; rfl
  · have q := hp j i hj hi h1
    rcases List.prefix_or_prefix_of_prefix pa pb with r | r
    · exact absurd r q.2
    · exact absurd r q.1
theorem take_pre {a l : List Nat} : l.take a.length = a ↔ a <+: l := ⟨fun h => h ▸ List.take_prefix _ _, fun h => (List.prefix_iff_eq_take.mp h).symm⟩
theorem ifB_t {b : Bool} {p q : Prop} (h : b = true) (hp : p) : if b = true then p else q := by rw [if_pos h]; exact hp
theorem ifB_f {b : Bool} {p q : Prop} (h : b = false) (hq : q) : if b = true then p else q := by rw [if_neg (by rw [h]; decide)]; exact hq
/-- the signs of a program's text are signs -/
theorem tx_ok {names ws : List Str} (ok : NamesOk names) (hw : ∀ x ∈ ws, x ∈ W7) : ∀ c ∈ tx names ws, c < 0x110000 := by
  intro c hc
  unfold tx at hc
  obtain ⟨l, hl, hcl⟩ := List.mem_flatten.mp hc
  obtain ⟨x, hx, rfl⟩ := List.mem_map.mp hl
  have h8 : x ∈ W8 := by
    rcases List.mem_append.mp hx with h | h
    · exact W78 (hw x h)
    · rw [List.mem_singleton.mp h]; exact end8
  rcases ok.bi _ (nameOf_get ok.len h8).2 c hcl with rfl | rfl <;> decide
theorem get7 {names : List Str} (ok : NamesOk names) {x : Str} (h : x ∈ W7) : ∃ k, k < 7 ∧ (names.take 7)[k]? = some (nameOf names x) := by
  obtain ⟨j, hj, e⟩ := List.mem_iff_getElem.mp h
  have h8 : W8[j]? = some x := by
    have e2 : W8 = W7 ++ [("end" : Str)] := rfl
    rw [e2, List.getElem?_append_left hj, List.getElem?_eq_getElem hj, e]
  refine ⟨j, hj, ?_⟩
  rw [List.getElem?_take]
  rw [if_pos (show j < 7 from hj)]
  exact nameOf_at ok.len h8
theorem lenP_hi {names : List Str} (ok : NamesOk names) : ∀ {p : List Str}, (∀ x ∈ p, x ∈ W7) → lenP names p ≤ 8 * (p.length + 1)
  | [], _ => by
    have := (lenW_le ok end8).2
    unfold lenP
    simpa using this
  | x :: p, h => by
    have h1 := (lenW_le ok (W78 (h x (.head _)))).2
    have h2 := lenP_hi ok (p := p) fun y hy => h y (.tail _ hy)
    rw [lenP_cons, List.length_cons]
    omega
theorem free_ix {names : List Str} (h : Free names) {i k : Nat} {a b : Str} {l : List Nat} (ha : names[i]? = some a) (hb : names[k]? = some b) (hlt : i < k) (pa : a.cps.toList <+: l) (pb : b.cps.toList <+: l) : False := by
  obtain ⟨hi, ei⟩ := List.getElem?_eq_some_iff.mp ha
  obtain ⟨hk, ek⟩ := List.getElem?_eq_some_iff.mp hb
  rw [← ei] at pa
  rw [← ek] at pb
  have q := List.pairwise_iff_getElem.mp h i k hi hk hlt
  rcases List.prefix_or_prefix_of_prefix pa pb with r | r
  · exact q.1 r
  · exact q.2 r
def aheadF (names : List Str) (tb : List Nat) : List Str → Nat
  | [] => aheadOne names tb (tx names []) (lenP names [])
  | x :: p => aheadOne names tb (tx names (x :: p)) (lenP names (x :: p)) + aheadF names tb p
theorem sum_take {f : Str → Nat} {l : List Str} {i : Nat} {n : Str} (h : l[i]? = some n) : ((l.take (i + 1)).map f).sum = ((l.take i).map f).sum + f n := by
  rw [List.take_succ, h, List.map_append, List.sum_append]
  simp
section
variable {P : Program} {w : World} {K : PySem.W.Frag} {mg : Str → Option Value} {base : Heap}
def sp_law_ahead : PySem.W.Frag → Sp := fun K vs H Q _ => ∃ nl b, ∃ (names ws : List Str) (tb : List Nat), vs = [.ref nl, .ref b, .str (textF names ws)] ∧ H nl = some (.lst (names.map V.str)) ∧ NamesOk names ∧ H b = some (.lst (natsV tb)) ∧ ws.length ≤ 200 ∧ (∀ x ∈ ws, x ∈ W7) ∧ lenP names ws < tb.length ∧ ∀ H', Same H H' → Q (.int (aheadF names tb ws : Nat)) H'
def AhW (names ws : List Str) (tb : List Nat) (nl b l : Addr) (H1 : Hp) : Nat → St → Hp → Prop := fun m σ H' =>
  Same H1 H' ∧ ∃ z5 z6 z7 : Option V, ∃ tot : Nat, σ = [some (.ref nl), some (.ref b), some (.str (textF names ws)), some (.int tot), some (.ref l), z5, z6, z7] ∧
      ((m = 0 ∧ H' l = some (.lst []) ∧ tot = aheadF names tb ws) ∨ (∃ (u : List Str) (p2 : Addr), m = u.length + 1 ∧ H' l = some (.lst [.ref p2]) ∧ H' p2 = some (.tup [.str (SX.S (tx names u)), .int (lenP names u : Nat)]) ∧ tot + aheadF names tb u = aheadF names tb ws ∧ (∀ x ∈ u, x ∈ W7) ∧ lenP names u ≤ lenP names ws))
theorem c_law_ahead (T : TX w K mg) : C8.Cal P w K mg base 1 "_law_ahead" (sp_law_ahead K) [] := by
  obtain ⟨f, fd, F, b⟩ := T.d_law_ahead
  have nd := sc_law_ahead.nd
  refine C8.cal0 F b .nil sc_law_ahead (fun vs H Q E h => ?_) (fun cdv A outer s H vs Q E hr h => ?_)
  · obtain ⟨nl, b, names, ws, tb, rfl, _⟩ := h
    rfl
  · obtain ⟨nl, b, names, ws, tb, rfl, hnl, ok, hb, h200, hw, hlen, q⟩ := h
    have hl8 : lenP names ws ≤ 2000 := by
      have := lenP_hi ok hw
      omega
    refine ⟨_, (pss_cons (ps_par (i := 3) (j := 4) rfl nd rfl rfl (by decide) rfl rfl (pa_cons pe_int (pa_cons (pe_lst (pa_cons (pe_tup (pa_cons (pv 2) (pa_cons (pe_callB kc_lenS (by rfl) T.z_len (by decide +kernel) (pa_cons (pv 2) pa_nil)) pa_nil))) pa_nil)) pa_nil)) (by rfl))
    (pss_cons (ps_while PassesOwn.never (pt_cmpR (op_neD hr.units) (pv 4) (pe_lst pa_nil) (nomark _))
      (pss_cons (ps_asg (pe_bm0 PySem.F.plainAttrs_list PySem.F.slot_list_pop PySem.F.type_list_pop mt_pop (pv 4)) (pg_2 (K := K) (i := 6) (j := 7) rfl rfl nd rfl (Or.inl rfl) (by first | exact .inl rfl | exact .inr rfl) rfl (Or.inl rfl) (by first | exact .inl rfl | exact .inr rfl) rfl rfl rfl rfl))
      (pss_cons (ps_for PassesOwn.never rfl (pi_list (pe_slice sl_list (pv 0) po_none (po_some pe_int))) (pg_name (i := 5) nd rfl (Or.inl rfl))
        (pss_one (ps_if (pt_cmpR op_eq (pe_slice C8.sl_txt (pv 6) po_none (po_some (pe_callB kc_lenS (by rfl) T.z_len (by decide +kernel) (pa_cons (pv 5) pa_nil)))) (pv 5) (nomark _))
          (pss_one (ps_expr (pe_bm PySem.F.plainAttrs_list PySem.F.slot_list_append PySem.F.type_list_append mt_append (pv 4) (pa_cons (pe_tup (pa_cons (pe_slice C8.sl_txt (pv 6) (po_some (pe_callB kc_lenS (by rfl) T.z_len (by decide +kernel) (pa_cons (pv 5) pa_nil))) po_none) (pa_cons (pe_op op_sub (pv 7) (pe_callB kc_lenS (by rfl) T.z_len (by decide +kernel) (pa_cons (pv 5) pa_nil))) pa_nil))) pa_nil))))
          (pss_one (ps_if (PW.pt (pw_and (pt_cmpR ko_ltS (pv 5) (pe_slice C8.sl_txt (pv 6) po_none (po_some (pe_callB kc_lenS (by rfl) T.z_len (by decide +kernel) (pa_cons (pv 5) pa_nil)))) (nomark _)) (pw_and1 (pt_cmpR op_le (pe_callB kc_lenS (by rfl) T.z_len (by decide +kernel) (pa_cons (pv 5) pa_nil)) (pv 7) (nomark _)))))
            (pss_one (ps_set (i := 3) nd rfl (Or.inl rfl) (pe_op op_add (pv 3) (pe_ix ix_list (pv 1) (pe_op op_sub (pv 7) (pe_callB kc_lenS (by rfl) T.z_len (by decide +kernel) (pa_cons (pv 5) pa_nil))) (fun _ _ => rfl)))))
            pss_nil)))))
      (pss_one (ps_if (PW.pt (pw_and (pt_cmpR ko_ltS (pe_ix ix_list (pv 0) pe_int (fun _ _ => rfl)) (pv 6) (nomark _)) (pw_and (pt_cmpR op_ne (pv 6) (pe_ix ix_list (pv 0) pe_int (fun _ _ => rfl)) (nomark _)) (pw_and1 (pt_cmpR op_eq (pe_callB kc_lenS (by rfl) T.z_len (by decide +kernel) (pa_cons (pe_ix ix_list (pv 0) pe_int (fun _ _ => rfl)) pa_nil)) (pv 7) (nomark _))))))
        (pss_one (ps_set (i := 3) nd rfl (Or.inl rfl) (pe_op op_add (pv 3) pe_int)))
        pss_nil)))))
    (pss_one (ps_ret (pv 3))))), ?_⟩
    walk_at "st"
    walk_at "rd"
    refine g_lenS (by rw [text_len, sizeLine_eq]; omega) ?_
    rw [text_len]
    walk_at "rd"
    refine ⟨show (2 : Nat) ≤ sizeLine by decide, fun p np => ?_⟩
    walk_at "rd"
    have s1 := Same.upd (o := .tup [.str (textF names ws), .int (lenP names ws : Nat)]) np
    have l1 := upd_same (H := H) (a := p) (o := .tup [.str (textF names ws), .int (lenP names ws : Nat)])
    generalize upd H p (.tup [.str (textF names ws), .int (lenP names ws : Nat)]) = H1 at s1 l1
    refine ⟨show (1 : Nat) ≤ sizeLine by decide, fun l nl1 => ?_⟩
    walk_at "rd"
    refine ⟨_, _, rfl, ?_⟩
    walk_at "rd"
    have hnil : (H1 l = none) := nl1
    refine g_while ⟨AhW names ws tb nl b l H1,
      ⟨_, Same.upd nl1, _, _, _, 0, rfl, .inr ⟨ws, p, rfl, upd_same, ?_, Nat.zero_add _, hw, Nat.le_refl _⟩⟩, fun m σ H2 hwh => ?_⟩
    · rw [← text_eqS]
      exact Same.upd nl1 _ _ l1
    obtain ⟨s2, z5, z6, z7, tot, rfl, hor⟩ := hwh
    walk_at "rd"
    refine ⟨show (0 : Nat) ≤ sizeLine by decide, fun e ne => ?_⟩
    have s3 := Same.upd (o := .lst []) ne
    have l3 := upd_same (H := H2) (a := e) (o := .lst [])
    generalize upd H2 e (.lst []) = H3 at s3 l3
    rcases hor with ⟨rfl, hl, ht⟩ | ⟨u, p2, rfl, hl, hp2, ht, hu, hle⟩
    · refine ⟨.list [], .list [], .lst (SqL.rd (s3 _ _ hl)) .nil, .lst (SqL.rd l3) .nil, rfl, rfl, ?_⟩
      walk_at "rd"
      refine ifB_f rfl ?_
      walk_at "rd"
      rw [ht]
      exact q _ ((s1.trans s2).trans s3)
    · refine ⟨.list ([(tx names u, lenP names u)].map fun x => .tuple [.str (SX.S x.1), .int x.2]), .list [], .lst (SqL.rd (s3 _ _ hl)) (.cons (.tup (SqT.rd (s3 _ _ hp2)) (.cons (.str _) (.cons (.int _) .nil))) .nil), .lst (SqL.rd l3) .nil, shaped_pairs _ ?_, rfl, ?_⟩
      · intro x hx c hc
        rw [List.mem_singleton.mp hx] at hc
        exact tx_ok ok hu c hc
      walk_at "rd"
      refine ifB_t rfl ?_
      refine ⟨fun σ H' => ∃ m', m' < u.length + 1 ∧ AhW names ws tb nl b l H1 m' σ H', fun σ' H' h => h, ?_⟩
      walk_at "rd"
      refine ⟨tyL (SqL.rd (s3 _ _ hl)), ?_⟩
      walk_at "rd"
      refine ⟨l, _, .ref p2, rfl, rfl, s3 _ _ hl, rfl, ?_⟩
      have s4 : Same H1 (upd H3 l (.lst [])) := Same.updW (s2.trans s3) hnil
      have l4 := upd_same (H := H3) (a := l) (o := .lst [])
      have p4 : upd H3 l (.lst []) p2 = some (.tup [.str (SX.S (tx names u)), .int (lenP names u : Nat)]) := by
        rw [upd_ne (ne_of (s3 _ _ hp2) (s3 _ _ hl) (by intro z; cases z))]
        exact s3 _ _ hp2
      show gTup K 2 (gCons (gName 6) (gCons (gName 7) gNil)) (.ref p2) _ (upd H3 l (.lst [])) _
      generalize upd H3 l (.lst []) = H4 at s4 l4 p4
      refine ⟨p2, _, rfl, SqT.rd p4, rfl, ?_⟩
      walk_at "rd"
      refine ⟨nl, _, rfl, SqL.rd (s4 _ _ (s1 _ _ hnl)), fun c nc => ?_⟩
      have hcut : cutV (names.map V.str) none (some 7) = (names.take 7).map V.str := (cutV_to (k := 7)).trans List.map_take.symm
      rw [hcut]
      have s5 := Same.upd (o := .lst ((names.take 7).map V.str)) nc
      have l5 := upd_same (H := H4) (a := c) (o := .lst ((names.take 7).map V.str))
      generalize upd H4 c (.lst ((names.take 7).map V.str)) = H5 at s5 l5
      have hl5 := s5 _ _ l4
      have s15 := s4.trans s5
      walk_at "rd"
      refine ⟨c, rfl, ⟨_, SqL.rd l5⟩, ?_⟩
      refine for_it walk_list (fun i σ H' => Same H1 H' ∧ H' c = some (.lst ((names.take 7).map V.str)) ∧ ∃ z5 : Option V, σ = [some (.ref nl), some (.ref b), some (.str (textF names ws)), some (.int (tot + (((names.take 7).take i).map (addN tb (tx names u) (lenP names u))).sum : Nat)), some (.ref l), z5, some (.str (SX.S (tx names u))), some (.int (lenP names u : Nat))] ∧
        ((H' l = some (.lst []) ∧ ∀ (k : Nat) (n : Str), k < i → (names.take 7)[k]? = some n → ¬ n.cps.toList <+: tx names u) ∨
          (∃ (x : Str) (u2 : List Str) (p3 : Addr) (k : Nat), u = x :: u2 ∧ H' l = some (.lst [.ref p3]) ∧ H' p3 = some (.tup [.str (SX.S (tx names u2)), .int (lenP names u2 : Nat)]) ∧ k < i ∧ (names.take 7)[k]? = some (nameOf names x))))
        ⟨s15, l5, z5, rfl, .inl ⟨hl5, fun k n hk => absurd hk (Nat.not_lt_zero _)⟩⟩ (fun _ _ _ _ pv => SqL.rd pv.2.1) (fun i v σ H6 H7 hi pv y => ?_) (fun σ H6 pv => ?_)
      · obtain ⟨s6, lc6, z5, rfl, hor⟩ := pv
        obtain ⟨rfl, hv⟩ := y
        obtain ⟨n, hn, rfl⟩ := get_map hv
        have hs := sum_take (f := addN tb (tx names u) (lenP names u)) hn
        have hmn : n ∈ names := List.mem_of_mem_take (List.mem_of_getElem? hn)
        have hn8 := ok.hi _ hmn
        have hu2 : (tx names u).length ≤ 2000 := by rw [tx_len]; omega
        walk_at "rd"
        refine g_lenS (by rw [sizeLine_eq]; omega) ?_
        walk_at "rd"
        refine ⟨_, rfl, by rw [SX.S_len, sizeLine_eq]; omega, ?_⟩
        rw [SX.slice_to (Int.natCast_nonneg _), Int.toNat_natCast]
        walk_at "rd"
        have hni : names[i]? = some n := by
          have := hn
          rw [List.getElem?_take] at this
          by_cases h : i < 7
          · rw [if_pos h] at this; exact this
          · rw [if_neg h] at this; cases this
        have heq : SX.S ((tx names u).take n.length) = n ↔ n.cps.toList <+: tx names u := by
          rw [← len_tl, ← take_pre]
          exact ⟨fun h => by conv => rhs; rw [← h], fun h => by rw [h, SX.S_tl]⟩
        by_cases hm : n.cps.toList <+: tx names u
        · refine ifD_t (heq.mpr hm) ?_
          have h0 : addN tb (tx names u) (lenP names u) n = 0 := by
            unfold addN
            rw [if_neg (fun z => z.1 (by rw [← len_tl]; exact take_pre.mpr hm))]
          rw [h0, Nat.add_zero] at hs
          have hfix : ∃ x u2, u = x :: u2 ∧ n = nameOf names x ∧ H7 l = some (.lst []) := by
            have hi7 : i < 7 := by
              have := (List.getElem?_eq_some_iff.mp hn).1
              rw [List.length_take] at this
              omega
            rcases hor with ⟨h1, _⟩ | ⟨x, u2, p3, k, rfl, h2, h3, h4, h5⟩
            · cases u with
              | nil =>
                exfalso
                refine free_ix ok.free hni (nameOf_at ok.len (j := 7) (x := "end") rfl) hi7 hm ?_
                rw [tx_nil]
                exact List.prefix_refl _
              | cons x u2 =>
                refine ⟨x, u2, rfl, free_eq ok.free hmn (nameOf_get ok.len (W78 (hu x (.head _)))).2 hm ?_, h1⟩
                rw [tx_cons]
                exact List.prefix_append _ _
            · exfalso
              have h5' : names[k]? = some (nameOf names x) := by
                rw [List.getElem?_take, if_pos (by omega)] at h5
                exact h5
              refine free_ix ok.free h5' hni h4 ?_ hm
              rw [tx_cons]
              exact List.prefix_append _ _
          obtain ⟨x, u2, rfl, rfl, hlE⟩ := hfix
          walk_at "rd"
          refine ⟨tyL (SqL.rd hlE), ?_⟩
          walk_at "rd"
          refine g_lenS (by rw [sizeLine_eq]; omega) ?_
          walk_at "rd"
          refine ⟨_, rfl, by rw [SX.S_len, sizeLine_eq]; omega, ?_⟩
          rw [SX.slice_from (Int.natCast_nonneg _), Int.toNat_natCast]
          walk_at "rd"
          refine g_lenS (by rw [sizeLine_eq]; omega) ?_
          walk_at "rd"
          have ed : (tx names (x :: u2)).drop (nameOf names x).length = tx names u2 := by
            rw [tx_cons, ← len_tl, List.drop_left]
          have el : ((lenP names (x :: u2) : Nat) : Int) - ((nameOf names x).length : Int) = ((lenP names u2 : Nat) : Int) := by
            rw [lenP_cons]
            show ((((nameOf names x).length + lenP names u2 : Nat)) : Int) - _ = _
            omega
          rw [ed, el]
          refine ⟨show (2 : Nat) ≤ sizeLine by decide, fun p3 np3 => ?_⟩
          walk_at "rd"
          have s8 := s6.trans (Same.upd (o := .tup [.str (SX.S (tx names u2)), .int (lenP names u2 : Nat)]) np3)
          have k8 := Same.upd (o := .tup [.str (SX.S (tx names u2)), .int (lenP names u2 : Nat)]) np3
          have l8 := upd_same (H := H7) (a := p3) (o := .tup [.str (SX.S (tx names u2)), .int (lenP names u2 : Nat)])
          generalize upd H7 p3 (.tup [.str (SX.S (tx names u2)), .int (lenP names u2 : Nat)]) = H8 at s8 k8 l8
          refine ⟨l, _, _, rfl, rfl, k8 _ _ hlE, show (0 : Nat) < sizeLine by decide, ?_⟩
          rw [hs]
          refine ⟨Same.updW s8 hnil, ?_, _, rfl, .inr ⟨x, u2, p3, i, rfl, upd_same, ?_, Nat.lt_succ_self _, hn⟩⟩
          · rw [upd_ne]
            · exact k8 _ _ lc6
            · intro z
              rw [z, l4] at nc
              cases nc
          · rw [upd_ne (ne_of l8 (k8 _ _ hlE) (by intro z; cases z))]
            exact l8
        · refine ifD_f (fun z => hm (heq.mp z)) ?_
          have hor2 : ((H7 l = some (.lst []) ∧ ∀ (k : Nat) (n : Str), k < i + 1 → (names.take 7)[k]? = some n → ¬ n.cps.toList <+: tx names u) ∨
          (∃ (x : Str) (u2 : List Str) (p3 : Addr) (k : Nat), u = x :: u2 ∧ H7 l = some (.lst [.ref p3]) ∧ H7 p3 = some (.tup [.str (SX.S (tx names u2)), .int (lenP names u2 : Nat)]) ∧ k < i + 1 ∧ (names.take 7)[k]? = some (nameOf names x))) := by
            rcases hor with ⟨h1, h2⟩ | ⟨x, u2, p3, k, h1, h2, h3, h4, h5⟩
            · refine .inl ⟨h1, fun k m hk hkm => ?_⟩
              by_cases e : k = i
              · subst e
                rw [hn] at hkm
                rw [← Option.some.inj hkm]
                exact hm
              · exact h2 k m (by omega) hkm
            · exact .inr ⟨x, u2, p3, k, h1, h2, h3, by omega, h5⟩
          have hm2 : (tx names u).take n.length ≠ n.cps.toList := fun z => hm (by rw [← len_tl] at z; exact take_pre.mp z)
          walk_at "rd"
          refine g_lenS (by rw [sizeLine_eq]; omega) ?_
          walk_at "rd"
          refine ⟨_, rfl, by rw [SX.S_len, sizeLine_eq]; omega, ?_⟩
          rw [SX.slice_to (Int.natCast_nonneg _), Int.toNat_natCast]
          walk_at "rd"
          by_cases h1 : n.cps.toList < (tx names u).take n.length
          · refine ifD_t h1 ?_
            walk_at "rd"
            refine g_lenS (by rw [sizeLine_eq]; omega) ?_
            walk_at "rd"
            by_cases h2 : n.length ≤ lenP names u
            · refine ifD_t (by omega) ?_
              walk_at "rd"
              refine g_lenS (by rw [sizeLine_eq]; omega) ?_
              walk_at "rd"
              rw [show ((lenP names u : Nat) : Int) - (n.length : Int) = ((lenP names u - n.length : Nat) : Int) by omega]
              refine g_ixL (SqL.rd (s6 _ _ (s1 _ _ hb))) (atI_nat (j := lenP names u - n.length) (getV (by omega))) ?_
              walk_at "rd"
              have h0 : addN tb (tx names u) (lenP names u) n = tb.getD (lenP names u - n.length) 0 := by
                unfold addN
                rw [if_pos ⟨hm2, h1, h2⟩]
              rw [hs, h0, ← Int.natCast_add, Nat.add_assoc]
              exact ⟨s6, lc6, _, rfl, hor2⟩
            · refine ifD_f (by omega) ?_
              walk_at "rd"
              have h0 : addN tb (tx names u) (lenP names u) n = 0 := by
                unfold addN
                rw [if_neg (fun z => h2 z.2.2)]
              rw [hs, h0, Nat.add_zero]
              exact ⟨s6, lc6, _, rfl, hor2⟩
          · refine ifD_f h1 ?_
            walk_at "rd"
            have h0 : addN tb (tx names u) (lenP names u) n = 0 := by
              unfold addN
              rw [if_neg (fun z => h1 z.2.1)]
            rw [hs, h0, Nat.add_zero]
            exact ⟨s6, lc6, _, rfl, hor2⟩
      · obtain ⟨s6, lc6, z5, rfl, hor⟩ := pv
        rw [List.length_map] at *
        rw [List.take_length]
        have hlen7 : (names.take 7).length = 7 := by rw [List.length_take, ok.len]; rfl
        have close : ∀ z6 z7 : Option V, ∃ m', m' < u.length + 1 ∧ AhW names ws tb nl b l H1 m' [some (.ref nl), some (.ref b), some (.str (textF names ws)), some (.int (tot + ((names.take 7).map (addN tb (tx names u) (lenP names u))).sum + addE (tx names u) (lenP names u) (names.getD 7 Str.empty) : Nat)), some (.ref l), z5, z6, z7] H6 := by
          intro z6 z7
          rcases hor with ⟨hlE, hno⟩ | ⟨x, u2, p3, k, rfl, hlE, hp3, hk, hkn⟩
          · cases u with
            | nil =>
              refine ⟨0, Nat.zero_lt_succ _, s6, z5, z6, z7, _, rfl, .inl ⟨rfl, hlE, ?_⟩⟩
              rw [← ht, Nat.add_assoc]
              rfl
            | cons x u2 =>
              exfalso
              obtain ⟨k, hk, hkn⟩ := get7 ok (hu x (.head _))
              exact hno k _ (by rw [hlen7]; exact hk) hkn (by rw [tx_cons]; exact List.prefix_append _ _)
          · refine ⟨u2.length + 1, Nat.lt_succ_self _, s6, z5, z6, z7, _, rfl, .inr ⟨u2, p3, rfl, hlE, hp3, ?_, fun x hx => hu x (.tail _ hx), ?_⟩⟩
            · rw [← ht, Nat.add_assoc, Nat.add_assoc]
              show _ = tot + (aheadOne names tb (tx names (x :: u2)) (lenP names (x :: u2)) + aheadF names tb u2)
              unfold aheadOne
              omega
            · rw [lenP_cons] at hle
              omega
        clear hor
        have hE : (names.map V.str)[7]? = some (.str (names.getD 7 Str.empty)) := by
          have e := List.getElem?_eq_getElem (l := names) (i := 7) (by rw [ok.len]; decide)
          rw [List.getElem?_map, List.getD_eq_getElem?_getD, e]
          rfl
        walk_at "rd"
        refine g_ixL (SqL.rd (s6 _ _ (s1 _ _ hnl))) (atI_nat (j := 7) hE) ?_
        walk_at "rd"
        have hne : SX.S (tx names u) = names.getD 7 Str.empty ↔ tx names u = (names.getD 7 Str.empty).cps.toList := ⟨fun h => by rw [← h], fun h => by rw [h, SX.S_tl]⟩
        have hz : addE (tx names u) (lenP names u) (names.getD 7 Str.empty) = 0 → ∃ m', m' < u.length + 1 ∧ AhW names ws tb nl b l H1 m' [some (.ref nl), some (.ref b), some (.str (textF names ws)), some (.int (tot + ((names.take 7).map (addN tb (tx names u) (lenP names u))).sum : Nat)), some (.ref l), z5, some (.str (SX.S (tx names u))), some (.int (lenP names u : Nat))] H6 := by
          intro h0
          have := close (some (.str (SX.S (tx names u)))) (some (.int (lenP names u : Nat)))
          rw [h0, Nat.add_zero] at this
          exact this
        by_cases h1 : (names.getD 7 Str.empty).cps.toList < tx names u
        · refine ifD_t h1 ?_
          walk_at "rd"
          refine g_ixL (SqL.rd (s6 _ _ (s1 _ _ hnl))) (atI_nat (j := 7) hE) ?_
          walk_at "rd"
          by_cases h2 : tx names u = (names.getD 7 Str.empty).cps.toList
          · refine ifB_f (by rw [decide_eq_true (hne.mpr h2)]; rfl) ?_
            walk_at "rd"
            refine hz ?_
            unfold addE
            rw [if_neg (fun z => z.2.1 h2)]
          · refine ifB_t (by rw [decide_eq_false (fun z => h2 (hne.mp z))]; rfl) ?_
            walk_at "rd"
            refine g_ixL (SqL.rd (s6 _ _ (s1 _ _ hnl))) (atI_nat (j := 7) hE) ?_
            walk_at "rd"
            refine g_lenS (by have := (endLen_le ok).2; rw [sizeLine_eq]; show endLen names ≤ _; omega) ?_
            walk_at "rd"
            by_cases h3 : (names.getD 7 Str.empty).length = lenP names u
            · refine ifD_t (by rw [h3]) ?_
              walk_at "rd"
              have := close (some (.str (SX.S (tx names u)))) (some (.int (lenP names u : Nat)))
              have h1' : addE (tx names u) (lenP names u) (names.getD 7 Str.empty) = 1 := by
                unfold addE
                rw [if_pos ⟨h1, h2, h3⟩]
              rw [h1'] at this
              rw [Int.natCast_succ] at this
              exact this
            · refine ifD_f (by omega) ?_
              walk_at "rd"
              refine hz ?_
              unfold addE
              rw [if_neg (fun z => h3 z.2.2)]
        · refine ifD_f h1 ?_
          walk_at "rd"
          refine hz ?_
          unfold addE
          rw [if_neg (fun z => h1 z.1)]
end
end Dt
set_option Elab.async false
set_option linter.all false
set_option maxRecDepth 100000
set_option maxHeartbeats 4000000
namespace Dt
open PySem PySem.Spec L2
local macro_rules | `(tactic| walk_at "st") => `(tactic| (simp only [L2.start, List.map_cons, List.map_nil, List.length_cons, List.length_nil, List.replicate_succ, List.replicate_zero, List.cons_append, List.nil_append, Nat.zero_add, Nat.reduceAdd, Nat.reduceSub]))
local macro_rules | `(tactic| walk_at "r1") => `(tactic| with_reducible first
  | refine g_seq ?_
  | refine g_next ?_
  | refine g_asg ?_
  | refine g_ifS ?_
  | refine g_ret ?_
  | refine g_retN ?_
  | refine g_drop ?_
  | refine g_brk ?_
  | refine g_c ?_
  | refine g_op ?_
  | refine g_un ?_
  | refine g_I0 ?_
  | refine g_U ?_
  | refine g_eqI ?_
  | refine g_neI ?_
  | refine g_eqS ?_
  | refine g_neS ?_
  | refine g_test ?_
  | refine g_B ?_
  | refine g_bl ?_
  | refine g_if ?_
  | refine g_not ?_
  | refine g_and ?_
  | refine g_or ?_
  | refine g_andV ?_
  | refine g_orV ?_
  | refine g_notV ?_
  | refine g_blif ?_
  | refine g_chain ?_
  | refine g_nil ?_
  | refine g_cons ?_
  | refine g_cb ?_
  | refine g_call ?_
  | refine g_tup ?_
  | refine g_lst ?_
  | refine g_tfld ?_
  | refine g_dget ?_
  | refine g_mk ?_
  | refine g_lc2 ?_
  | refine g_gfld ?_
  | refine g_meth ?_
  | refine g_sfld ?_
  | refine g_din ?_
  | refine g_dput ?_
  | refine g_isN_int ?_
  | refine g_isN_str ?_
  | refine g_isN_ref ?_
  | refine g_isN_non ?_
  | refine g_nN_int ?_
  | refine g_nN_str ?_
  | refine g_nN_ref ?_
  | refine g_nN_non ?_
  | refine g_lc ?_
  | refine g_dc ?_
  | refine g_for ?_
  | refine g_iStr ?_
  | refine g_iList ?_
  | refine g_iTup ?_
  | refine g_iR1 ?_
  | refine g_iR2 ?_
  | refine g_iR3 ?_
  | refine g_iEnum ?_
  | refine g_iZip ?_
  | refine g_iZipA ?_
  | refine g_bm ?_
  | refine g_bm0 ?_
  | refine g_m1 ?_
  | refine g_sl ?_
  | refine g_poN ?_
  | refine g_poS ?_
  | refine g_poI ?_
  | refine g_yes ?_
  | refine g_gtup ?_
  | refine g_gcons ?_
  | refine g_gnil ?_
  | refine g_par ?_
  | refine g_isi_ii ?_
  | refine g_isi_ib ?_
  | refine g_isi_ss ?_
  | refine g_inC ?_
  | refine g_int1 ?_
  | refine g_int1b ?_
  | refine g_abs ?_
  | refine g_ltS ?_
  | refine iteT ?_
  | refine iteNT ?_
  | refine iteNF ?_
  | refine iteF ?_)
local macro_rules | `(tactic| walk_at "sd") => `(tactic| first | assumption | rfl | decide | omega)
local macro_rules | `(tactic| walk_at "hp") => `(tactic| first | assumption | exact upd_same | exact Same.get (by assumption) (by walk_at "hp") | exact Off.get (by assumption) (by walk_at "hp") (by walk_at "ne"))
local macro_rules | `(tactic| walk_at "ne") => `(tactic| first | assumption | (refine Ne.symm ?_; assumption) | exact ne_of_none (by walk_at "hp") (by assumption) | exact ne_none (by walk_at "hp") (by assumption) | exact ne_of (by walk_at "hp") (by walk_at "hp") (by intro z; cases z))
local macro_rules | `(tactic| walk_at "sq") => `(tactic| first | assumption | exact SqL.rd (by walk_at "hp") | exact SqT.rd (by walk_at "hp") | exact Same.seq (by assumption) (by walk_at "sq") | exact Same.seqT (by assumption) (by walk_at "sq"))
local macro_rules | `(tactic| walk_at "rI") => `(tactic| ((with_reducible refine g_I ?_ ?_); (focus (first | (refine Or.inl ⟨?_, ?_⟩ <;> (first | decide | omega)) | (refine Or.inr ⟨?_, ?_⟩ <;> (first | decide | omega)) | (show (0 : Int) < _; first | decide | omega | assumption) | (refine And.intro ?_ ?_ <;> (first | decide | omega | (refine And.intro ?_ ?_ <;> (first | decide | omega))))))))
local macro_rules | `(tactic| walk_at "r2") => `(tactic| first
  | ((with_reducible refine g_tvar ?_); (refine ⟨_, rfl, ?_⟩))
  | ((with_reducible refine g_name' (σ' := ?s) ?e ?h); (case e => (simp only [wipe, List.set_cons_zero, List.set_cons_succ]; first | done | rfl)))
  | (refine And.intro (show wipe _ _ = wipe _ _ from rfl) ?_)
  | walk_at "rI")
local macro_rules | `(tactic| walk_at "rd") => `(tactic| repeat (first | walk_at "r1" | walk_at "r2"))
local macro_rules | `(tactic| walk_at "gn") => `(tactic| (intro pA hA; generalize hG : upd _ _ _ = H2A; (have sA : Same _ H2A := hG ▸ Same.upd hA); (have lA : H2A pA = some _ := hG ▸ upd_same); clear hG))
local macro_rules | `(tactic| walk_at "mk") => `(tactic| (intro xM dxM h1M h2M hneM; generalize hG : upd (upd _ _ _) _ _ = HM; (have sM : Same _ HM := hG ▸ Same.updW (Same.upd h2M) h1M); (have lM : HM xM = some _ := hG ▸ upd_same); clear hG))
/-- the terms of the lengths but L -/
def tlF (tb : List Nat) (L D n : Nat) : Nat := ((List.range n).map fun l => if l = L then 0 else tb.getD l 0 * ((if l < L then D else D - 1) / 2 ^ l)).sum
theorem tlF_succ {tb : List Nat} {L D n : Nat} : tlF tb L D (n + 1) = tlF tb L D n + if n = L then 0 else tb.getD n 0 * ((if n < L then D else D - 1) / 2 ^ n) := by
  unfold tlF
  rw [List.range_succ, List.map_append, List.sum_append]
  simp
def tickL (tb : List Nat) (L A D : Nat) : Int := ((A : Int) + 1) * ((D / 2 ^ L : Nat) : Int) + (((tb.getD L 0 : Nat) : Int) - A - 1) * (((D - 1) / 2 ^ L : Nat) : Int) + (tlF tb L D tb.length : Nat)
section
variable {P : Program} {w : World} {K : PySem.W.Frag} {mg : Str → Option Value} {base : Heap}
def sp_law_tick : PySem.W.Frag → Sp := fun K vs H Q _ => ∃ nl, ∃ (names ws : List Str) (D : Nat), vs = [.ref nl, .int (lenP names ws), .str (textF names ws), .int D] ∧ H nl = some (.lst (names.map V.str)) ∧ NamesOk names ∧ ws.length ≤ 200 ∧ (∀ x ∈ ws, x ∈ W7) ∧ 2 ^ lenP names ws ≤ D ∧ D < 2 ^ 30 ∧
  ∀ H', Same H H' → Q (.int (tickL (tblN names (bitL D + 1)) (lenP names ws) (aheadF names (tblN names (bitL D + 1)) ws) D)) H'
theorem c_law_tick (T : TX w K mg) : C8.Cal P w K mg base 2 "_law_tick" (sp_law_tick K) [] := by
  obtain ⟨f, fd, F, b⟩ := T.d_law_tick
  have nd := sc_law_tick.nd
  refine C8.cal0 F b .nil sc_law_tick (fun vs H Q E h => ?_) (fun cdv A outer s H vs Q E hr h => ?_)
  · obtain ⟨nl, ns, ws, D, rfl, _⟩ := h
    rfl
  · obtain ⟨nl, names, ws, D, rfl, hnl, ok, h200, hw, hL, hD, q⟩ := h
    have hbl : bitL D ≤ 30 := bitL_le hD
    have hlb := lt_bitL hL
    have hD1 : 1 ≤ D := Nat.le_trans (Nat.one_le_two_pow) hL
    refine ⟨_, (pss_cons (ps_set (i := 4) nd rfl (Or.inl rfl) (C8.pe_c (c_law_counts T) hr (by decide) (by rfl) (pa_cons (pv 0) (pa_cons (pe_bits (pv 3)) pa_nil))))
    (pss_cons (ps_set (i := 5) nd rfl (Or.inl rfl) (C8.pe_c (c_law_ahead T) hr (by decide) (by rfl) (pa_cons (pv 0) (pa_cons (pv 4) (pa_cons (pv 2) pa_nil)))))
    (pss_cons (ps_set (i := 6) nd rfl (Or.inl rfl) (pe_op op_add (pe_op op_mul (pe_op op_add (pv 5) pe_int) (pe_op ko_shr (pv 3) (pv 1))) (pe_op op_mul (pe_op op_sub (pe_op op_sub (pe_ix ix_list (pv 4) (pv 1) (fun _ _ => rfl)) (pv 5)) pe_int) (pe_op ko_shr (pe_op op_sub (pv 3) pe_int) (pv 1)))))
    (pss_cons (ps_for PassesOwn.never rfl (pi_enum (by rfl) T.z_enumerate (pa_cons (pv 4) pa_nil)) (pg_2 (K := K) (i := 7) (j := 8) rfl rfl nd rfl (Or.inl rfl) (by first | exact .inl rfl | exact .inr rfl) rfl (Or.inl rfl) (by first | exact .inl rfl | exact .inr rfl) rfl rfl rfl rfl)
      (pss_one (ps_set (i := 6) nd rfl (Or.inl rfl) (pe_op op_add (pv 6) (pe_ifExp (pt_cmpR op_eq (pv 7) (pv 1) (nomark _)) pe_int (pe_op op_mul (pv 8) (pe_op ko_shr (pe_ifExp (pt_cmpR op_lt (pv 7) (pv 1) (nomark _)) (pv 3) (pe_op op_sub (pv 3) pe_int)) (pv 7))))))))
    (pss_one (ps_ret (pv 6))))))), ?_⟩
    walk_at "st"
    walk_at "rd"
    unfold tBits
    walk_at "rd"
    refine ⟨nl, names, bitL D, rfl, hnl, ok, by omega, fun l H1 s1 l1 nl1 => ?_⟩
    walk_at "rd"
    refine ⟨nl, l, names, ws, _, rfl, s1 _ _ hnl, ok, l1, h200, hw, by rw [tblN_len]; omega, fun H2 s2 => ?_⟩
    have htl := tblN_len (names := names) (bitL D + 1)
    generalize tblN names (bitL D + 1) = tb at l1 q htl ⊢
    generalize aheadF names tb ws = AA at q ⊢
    generalize lenP names ws = L at hL hlb q ⊢
    walk_at "rd"
    refine g_shrN ?_
    rw [shr_cast]
    have hdl := Nat.lt_of_le_of_lt (Nat.div_le_self D (2 ^ L)) hD
    have hdl1 := Nat.lt_of_le_of_lt (Nat.div_le_self (D - 1) (2 ^ L)) (show D - 1 < 2 ^ 30 by omega)
    refine g_I (C := CMul) (.inr ⟨Int.lt_of_lt_of_le (by decide) (Int.natCast_nonneg _), by omega⟩) ?_
    walk_at "rd"
    refine g_ixL (SqL.rd (s2 _ _ l1)) (atI_nat (getV (by omega))) ?_
    walk_at "rd"
    rw [show (D : Int) - 1 = ((D - 1 : Nat) : Int) by omega]
    refine g_shrN ?_
    rw [shr_cast]
    refine g_I (C := CMul) (.inr ⟨Int.lt_of_lt_of_le (by decide) (Int.natCast_nonneg _), by omega⟩) ?_
    walk_at "rd"
    refine ⟨l, _, rfl, SqL.rd (s2 _ _ l1), ?_⟩
    unfold tickL at q
    generalize ((AA : Int) + 1) * ((D / 2 ^ L : Nat) : Int) + (((tb.getD L 0 : Nat) : Int) - AA - 1) * (((D - 1) / 2 ^ L : Nat) : Int) = Z at q ⊢
    refine for_it walk_enum (fun i σ H' => Same H2 H' ∧ ∃ y z, σ = [some (.ref nl), some (.int L), some (.str (textF names ws)), some (.int D), some (.ref l), some (.int AA), some (.int (Z + (tlF tb L D i : Nat))), y, z]) ⟨Same.refl _, _, _, by rw [show tlF tb L D 0 = 0 from rfl, Int.natCast_zero, Int.add_zero]⟩ (fun _ _ _ _ pv => SqL.rd (pv.1 _ _ (s2 _ _ l1))) (fun i x σ H3 H4 hi pv y => ?_) (fun σ H3 pv => ?_)
    · obtain ⟨s3, y0, z0, rfl⟩ := pv
      obtain ⟨T1, x, z, rfl, nT, rfl, hx1, hz1⟩ := y
      have s4 := Same.upd (o := .tup [x, z]) nT
      have l4 := upd_same (H := H3) (a := T1) (o := .tup [x, z])
      generalize upd H3 T1 (.tup [x, z]) = H4 at s4 l4
      rw [List.length_map] at hi
      have e1 : x = V.int (i : Nat) := (Option.some.inj hx1).symm
      have e2 : z = V.int (tb.getD i 0 : Nat) := Option.some.inj (hz1.symm.trans (getV hi))
      subst e1 e2
      have hsucc := tlF_succ (tb := tb) (L := L) (D := D) (n := i)
      walk_at "rd"
      refine ⟨T1, _, rfl, SqT.rd l4, rfl, ?_⟩
      walk_at "rd"
      by_cases hiL : i = L
      · rw [if_pos hiL, Nat.add_zero] at hsucc
        refine ifD_t (by omega) ?_
        walk_at "rd"
        rw [Int.add_zero, show tlF tb L D i = tlF tb L D (i + 1) by rw [hsucc]; rfl]
        exact ⟨s3.trans s4, _, _, rfl⟩
      · rw [if_neg hiL] at hsucc
        refine ifD_f (by omega) ?_
        walk_at "rd"
        by_cases hlt : i < L
        · rw [if_pos hlt] at hsucc
          refine ifD_t (by omega) ?_
          walk_at "rd"
          refine g_shrN ?_
          rw [shr_cast]
          have hdi := Nat.lt_of_le_of_lt (Nat.div_le_self D (2 ^ i)) hD
          refine g_I (C := CMul) (.inr ⟨Int.lt_of_lt_of_le (by decide) (Int.natCast_nonneg _), by omega⟩) ?_
          walk_at "rd"
          rw [Int.add_assoc, ← Int.natCast_mul, ← Int.natCast_add, ← hsucc]
          exact ⟨s3.trans s4, _, _, rfl⟩
        · rw [if_neg hlt] at hsucc
          refine ifD_f (by omega) ?_
          walk_at "rd"
          rw [show (D : Int) - 1 = ((D - 1 : Nat) : Int) by omega]
          refine g_shrN ?_
          rw [shr_cast]
          have hdi := Nat.lt_of_le_of_lt (Nat.div_le_self (D - 1) (2 ^ i)) (show D - 1 < 2 ^ 30 by omega)
          refine g_I (C := CMul) (.inr ⟨Int.lt_of_lt_of_le (by decide) (Int.natCast_nonneg _), by omega⟩) ?_
          walk_at "rd"
          rw [Int.add_assoc, ← Int.natCast_mul, ← Int.natCast_add, ← hsucc]
          exact ⟨s3.trans s4, _, _, rfl⟩
    · obtain ⟨s3, y0, z0, rfl⟩ := pv
      rw [List.length_map] at *
      walk_at "rd"
      exact q H3 ((s1.trans s2).trans s3)
end
end Dt
set_option Elab.async false
set_option linter.all false
set_option maxHeartbeats 4000000
/-! M1: counting dues. -/
namespace Dt
open PySem L2
theorem div_pred {D l : Nat} (h : 1 ≤ D) : D / 2 ^ l = (D - 1) / 2 ^ l + if isDue D l = true then 1 else 0 := by
  have hp : 0 < 2 ^ l := Nat.two_pow_pos l
  have e1 : isDue D l = decide (D / 2 ^ l * 2 ^ l = D) := by
    unfold isDue
    rw [decide_eq_true (show 0 < D by omega), Bool.true_and]
  rw [e1]
  have a1 := Nat.div_add_mod D (2 ^ l)
  have a2 := Nat.mod_lt D hp
  generalize hq : D / 2 ^ l = q at a1 ⊢
  generalize hm : D % 2 ^ l = m at a1 a2
  have a3 : 2 ^ l * q = q * 2 ^ l := Nat.mul_comm ..
  by_cases hz : m = 0
  · have h1 : q * 2 ^ l = D := by omega
    rw [if_pos (decide_eq_true h1)]
    have h2 : D - 1 = 2 ^ l * (q - 1) + (2 ^ l - 1) := by
      have : 2 ^ l * (q - 1) = 2 ^ l * q - 2 ^ l := by rw [Nat.mul_sub, Nat.mul_one]
      have : 1 ≤ q := by
        rcases Nat.eq_zero_or_pos q with z | z
        · rw [z, Nat.zero_mul] at h1; omega
        · exact z
      have : 2 ^ l * 1 ≤ 2 ^ l * q := Nat.mul_le_mul_left _ this
      omega
    have h3 : (D - 1) / 2 ^ l = q - 1 := by
      rw [h2, Nat.mul_add_div hp, Nat.div_eq_of_lt (by omega), Nat.add_zero]
    have : 1 ≤ q := by
      rcases Nat.eq_zero_or_pos q with z | z
      · rw [z, Nat.zero_mul] at h1; omega
      · exact z
    omega
  · have h1 : ¬ q * 2 ^ l = D := by omega
    rw [if_neg (by rw [decide_eq_false h1]; exact Bool.false_ne_true), Nat.add_zero]
    have h2 : D - 1 = 2 ^ l * q + (m - 1) := by omega
    rw [h2, Nat.mul_add_div hp, Nat.div_eq_of_lt (by omega), Nat.add_zero]
/-- how many trials are due up to D -/
def BF (c : Nat → Nat) (n D : Nat) : Nat := ((List.range n).map fun l => c l * (D / 2 ^ l)).sum
/-- how many are due at D, of the lengths below n -/
def SD (c : Nat → Nat) (D n : Nat) : Nat := (((List.range n).filter (isDue D)).map c).sum
theorem BF_succ {c : Nat → Nat} {n D : Nat} : BF c (n + 1) D = BF c n D + c n * (D / 2 ^ n) := by
  unfold BF
  rw [List.range_succ, List.map_append, List.sum_append]
  simp
theorem SD_succ {c : Nat → Nat} {D n : Nat} : SD c D (n + 1) = SD c D n + if isDue D n = true then c n else 0 := by
  unfold SD
  rw [List.range_succ, List.filter_append, List.map_append, List.sum_append]
  congr 1
  by_cases h : isDue D n = true
  · rw [if_pos h, List.filter_cons_of_pos h]
    simp
  · rw [if_neg h, List.filter_cons_of_neg h]
    rfl
theorem BF_pred {c : Nat → Nat} {D : Nat} (h : 1 ≤ D) : ∀ n, BF c n D = BF c n (D - 1) + SD c D n
  | 0 => rfl
  | n + 1 => by
    rw [BF_succ, BF_succ, SD_succ, BF_pred h n, div_pred (l := n) h, Nat.mul_add]
    by_cases hd : isDue D n = true
    · rw [if_pos hd, if_pos hd]
      omega
    · rw [if_neg hd, if_neg hd]
      omega
theorem BF_more {c : Nat → Nat} {D n : Nat} (h : D < 2 ^ n) : ∀ m, BF c (n + m) D = BF c n D
  | 0 => rfl
  | m + 1 => by
    rw [← Nat.add_assoc, BF_succ, BF_more h m, Nat.div_eq_of_lt (Nat.lt_of_lt_of_le h (Nat.pow_le_pow_right (by decide) (Nat.le_add_right n m)))]
    rfl
theorem BF_any {c : Nat → Nat} {D n m : Nat} (h : D < 2 ^ n) (h' : D < 2 ^ m) : BF c n D = BF c m D := by
  rcases Nat.le_total n m with q | q
  · obtain ⟨k, rfl⟩ := Nat.exists_eq_add_of_le q
    exact (BF_more h k).symm
  · obtain ⟨k, rfl⟩ := Nat.exists_eq_add_of_le q
    exact BF_more h' k
theorem isDue_lt {D n : Nat} (h : isDue D n = true) : 2 ^ n ≤ D := by
  unfold isDue at h
  rw [Bool.and_eq_true] at h
  have h1 := of_decide_eq_true h.1
  have h2 := of_decide_eq_true h.2
  rcases Nat.eq_zero_or_pos (D / 2 ^ n) with z | z
  · rw [z, Nat.zero_mul] at h2; omega
  · have := Nat.mul_le_mul_right (2 ^ n) z
    omega
theorem SD_more {c : Nat → Nat} {D n : Nat} (h : D < 2 ^ n) : ∀ m, SD c D (n + m) = SD c D n
  | 0 => rfl
  | m + 1 => by
    rw [← Nat.add_assoc, SD_succ, SD_more h m, if_neg]
    · rfl
    · intro z
      have := isDue_lt z
      have := Nat.pow_le_pow_right (show 0 < 2 by decide) (Nat.le_add_right n m)
      omega
theorem BF_cong {c c' : Nat → Nat} {D : Nat} : ∀ {n}, (∀ l, l < n → c l = c' l) → BF c n D = BF c' n D
  | 0, _ => rfl
  | n + 1, h => by
    rw [BF_succ, BF_succ, BF_cong fun l hl => h l (by omega), h n (by omega)]
theorem SD_cong {c c' : Nat → Nat} {D : Nat} : ∀ {n}, (∀ l, l < n → c l = c' l) → SD c D n = SD c' D n
  | 0, _ => rfl
  | n + 1, h => by
    rw [SD_succ, SD_succ, SD_cong fun l hl => h l (by omega), h n (by omega)]
theorem dba_BF {tb : List Nat} {D : Nat} : dba tb D = BF (fun l => tb.getD l 0) tb.length D := rfl
theorem sdF_SD {tb : List Nat} {D n : Nat} : sdF tb D n = SD (fun l => tb.getD l 0) D n := rfl
theorem BF_mono {c : Nat → Nat} {n x y : Nat} (h : x ≤ y) : BF c n x ≤ BF c n y := sum_le fun l _ => Nat.mul_le_mul_left _ (Nat.div_le_div_right h)
theorem SD_mono {c : Nat → Nat} {D m n : Nat} (h : m ≤ n) : SD c D m ≤ SD c D n := by
  obtain ⟨k, rfl⟩ := Nat.exists_eq_add_of_le h
  induction k with
  | zero => exact Nat.le_refl _
  | succ k ih => rw [← Nat.add_assoc, SD_succ]; exact Nat.le_trans (ih (Nat.le_add_right ..)) (Nat.le_add_right ..)
/-- the sum of the longer lengths that are due -/
theorem lgF_SD {tb : List Nat} {L D : Nat} : ∀ n, L < n → (((List.range n).filter fun l => decide (L < l) && isDue D l).map fun l => tb.getD l 0).sum + SD (fun l => tb.getD l 0) D (L + 1) = SD (fun l => tb.getD l 0) D n := by
  intro n hn
  obtain ⟨k, rfl⟩ := Nat.exists_eq_add_of_le (show L + 1 ≤ n from hn)
  clear hn
  induction k with
  | zero =>
    rw [Nat.add_zero]
    have : ((List.range (L + 1)).filter fun l => decide (L < l) && isDue D l) = [] := by
      rw [List.filter_eq_nil_iff]
      intro l hl
      have := List.mem_range.mp hl
      rw [decide_eq_false (show ¬ L < l by omega)]
      simp
    rw [this]
    simp
  | succ k ih =>
    rw [← Nat.add_assoc, SD_succ (n := L + 1 + k), ← ih, List.range_succ, List.filter_append, List.map_append, List.sum_append]
    by_cases h : isDue D (L + 1 + k) = true
    · rw [if_pos h, List.filter_cons_of_pos (by rw [h, decide_eq_true (show L < L + 1 + k by omega)]; rfl)]
      simp
      omega
    · rw [if_neg h, List.filter_cons_of_neg (by simp [h])]
      simp
theorem tlF_eq {tb : List Nat} {L D : Nat} (h1 : 1 ≤ D) : ∀ n, tlF tb L D n + (if L < n then tb.getD L 0 * ((D - 1) / 2 ^ L) else 0) = BF (fun l => tb.getD l 0) n (D - 1) + SD (fun l => tb.getD l 0) D (min L n)
  | 0 => by simp [tlF, BF, SD]
  | n + 1 => by
    have ih := tlF_eq (tb := tb) (L := L) h1 n
    rw [tlF_succ, BF_succ]
    rcases Nat.lt_trichotomy n L with h | h | h
    · rw [if_neg (show ¬ n = L by omega), if_pos h, if_neg (show ¬ L < n + 1 by omega), Nat.min_eq_right (by omega), SD_succ]
      rw [if_neg (show ¬ L < n by omega), Nat.min_eq_right (by omega)] at ih
      have := div_pred (l := n) h1
      rw [this, Nat.mul_add]
      by_cases hd : isDue D n = true
      · rw [if_pos hd, if_pos hd]; omega
      · rw [if_neg hd, if_neg hd]; omega
    · subst h
      rw [if_pos rfl, if_pos (by omega), Nat.min_eq_left (by omega)]
      rw [if_neg (show ¬ n < n by omega), Nat.min_self] at ih
      omega
    · rw [if_neg (show ¬ n = L by omega), if_neg (show ¬ n < L by omega), if_pos (show L < n + 1 by omega), Nat.min_eq_left (by omega)]
      rw [if_pos h, Nat.min_eq_left (by omega)] at ih
      omega
/-- the law's own tick -/
theorem tickL_eq {tb : List Nat} {L A D : Nat} (h1 : 1 ≤ D) (hL : L < tb.length) (hd : isDue D L = true) : tickL tb L A D = ((dba tb (D - 1) + sdF tb D L + A + 1 : Nat) : Int) := by
  have e1 := tlF_eq (tb := tb) (L := L) h1 tb.length
  rw [if_pos hL, Nat.min_eq_left (by omega)] at e1
  have e2 := div_pred (l := L) h1
  rw [if_pos hd] at e2
  unfold tickL
  rw [e2, dba_BF, sdF_SD]
  generalize (D - 1) / 2 ^ L = q at e1 ⊢
  have e3 : ((tlF tb L D tb.length : Nat) : Int) + ((tb.getD L 0 : Nat) : Int) * (q : Int) = ((BF (fun l => tb.getD l 0) tb.length (D - 1) : Nat) : Int) + ((SD (fun l => tb.getD l 0) D L : Nat) : Int) := by
    exact_mod_cast e1
  generalize ((tlF tb L D tb.length : Nat) : Int) = t at e3 ⊢
  generalize ((tb.getD L 0 : Nat) : Int) = c at e3 ⊢
  push_cast
  have e4 : ((A : Int) + 1) * ((q : Int) + 1) + (c - A - 1) * (q : Int) = c * q + (A + 1) := by
    rw [Int.mul_add, Int.sub_mul, Int.sub_mul, Int.add_mul]
    omega
  omega
/-- the program's tick of a due -/
theorem tickP_eq {tb : List Nat} {L A D : Nat} (h1 : 1 ≤ D) (hL : L < tb.length) (hd : isDue D L = true) : ((dba tb D : Nat) : Int) - (((tb.getD L 0 : Nat) : Int) - 1 - (A : Int) + (lgF tb L D : Nat)) = ((dba tb (D - 1) + sdF tb D L + A + 1 : Nat) : Int) := by
  have e1 := BF_pred (c := fun l => tb.getD l 0) h1 tb.length
  have e2 := lgF_SD (tb := tb) (L := L) (D := D) tb.length hL
  rw [SD_succ, if_pos hd] at e2
  have e3 : lgF tb L D = (((List.range tb.length).filter fun l => decide (L < l) && isDue D l).map fun l => tb.getD l 0).sum := rfl
  rw [← e3] at e2
  rw [dba_BF, dba_BF, sdF_SD]
  omega
end Dt
set_option Elab.async false
set_option linter.all false
set_option maxHeartbeats 4000000
/-! M2: how many programs a length has, the place of a program among those of its length. -/
namespace Dt
open PySem L2
/-! ### the tables -/
theorem zip_ways {tb : List Nat} {L : Nat} : ∀ {ns ws : List Str}, ns.length = ws.length → (∀ w ∈ ws, w ≠ ("end" : Str)) → ((ns.zip ws).map fun c => ways tb c.1 c.2 L).sum = ((ns.filter fun n => decide (n.length ≤ L)).map fun n => tb.getD (L - n.length) 0).sum
  | [], [], _, _ => rfl
  | n :: ns, w :: ws, hl, h => by
    have ih := zip_ways (tb := tb) (L := L) (ns := ns) (ws := ws) (by simpa using hl) fun x hx => h x (.tail _ hx)
    rw [List.zip_cons_cons, List.map_cons, List.sum_cons, ih, List.filter_cons]
    have hw := h w (.head _)
    unfold ways
    rw [if_neg hw]
    by_cases hn : n.length ≤ L
    · rw [if_pos hn, if_pos (decide_eq_true hn), List.map_cons, List.sum_cons]
    · rw [if_neg hn, if_neg (by simpa using hn), Nat.zero_add]
theorem zip_split {names : List Str} (h : names.length = 8) : names.zip W8 = (names.take 7).zip W7 ++ [(names.getD 7 Str.empty, ("end" : Str))] := by
  match names, h with
  | [a, b, c, d, e, f, g, i], _ => rfl
theorem W7_end : ∀ w ∈ W7, w ≠ ("end" : Str) := by decide +kernel
theorem waysSum_all {names : List Str} (h : names.length = 8) {tb : List Nat} {L : Nat} (hL : L = tb.length) : waysSum tb L (chF names) = mNext names tb := by
  have e : waysSum tb L (chF names) = ((names.zip W8).map fun c => ways tb c.1 c.2 L).sum := (chF_perm.map _).sum_nat
  rw [e, zip_split h, List.map_append, List.sum_append, zip_ways (by rw [List.length_take, h]; rfl) W7_end]
  unfold mNext
  subst hL
  congr 1
  show ways tb _ ("end" : Str) _ + 0 = _
  unfold ways
  rw [if_pos rfl, Nat.add_zero]
  by_cases q : tb.length = (names.getD 7 Str.empty).length
  · rw [if_pos q, if_pos q.symm]
  · rw [if_neg q, if_neg (fun z => q z.symm)]
theorem ch_lo {names : List Str} (ok : NamesOk names) : ∀ c ∈ chF names, 1 ≤ c.1.length := fun c hc => ok.lo _ (ch_name hc).2.2
theorem tbl_c {names : List Str} (ok : NamesOk names) : ∀ m l, l < m → (tblN names m).getD l 0 = cF names l
  | 0, l, h => absurd h (Nat.not_lt_zero _)
  | m + 1, l, h => by
    show (tblN names m ++ [mNext names (tblN names m)]).getD l 0 = _
    rw [List.getD_eq_getElem?_getD]
    by_cases hl : l < m
    · rw [List.getElem?_append_left (by rw [tblN_len]; exact hl), ← List.getD_eq_getElem?_getD]
      exact tbl_c ok m l hl
    · have e : l = m := by omega
      subst e
      rw [List.getElem?_append_right (by rw [tblN_len]; exact Nat.le_refl _), tblN_len, Nat.sub_self]
      show mNext names (tblN names l) = _
      rw [← waysSum_all ok.len (tblN_len l).symm, ← flat_len (fun i hi => tbl_c ok l i hi) (chF names) (ch_lo ok), ← rows_eq (ch_lo ok)]
theorem end_nm {names : List Str} (ok : NamesOk names) : nameOf names "end" = names.getD 7 Str.empty := by
  have h := nameOf_at (names := names) ok.len (j := 7) (x := ("end" : Str)) rfl
  rw [List.getD_eq_getElem?_getD, h]
  rfl
theorem end_len {names : List Str} (ok : NamesOk names) : lenW names "end" = endLen names := by
  unfold lenW
  rw [end_nm ok]
/-- no program is shorter than the end's name -/
theorem c_low {names : List Str} (ok : NamesOk names) {l : Nat} (h : l < endLen names) : cF names l = 0 := by
  show (rows (chF names) l).length = 0
  cases hr : rows (chF names) l with
  | nil => rfl
  | cons p q =>
    have hm := (rows_mem ok (L := l) (p := p) (by rw [hr]; exact .head _)).2
    unfold lenP at hm
    rw [end_len ok] at hm
    omega
theorem ch_nodup {names : List Str} (hl : names.length = 8) : ((chF names).map (·.2)).Nodup := by
  have h : ((chF names).map (·.2)).Perm ((names.zip W8).map (·.2)) := chF_perm.map _
  rw [List.map_snd_zip (by rw [hl]; decide)] at h
  exact h.nodup_iff.mpr W8_nodup
theorem take_ne {names : List Str} (hl : names.length = 8) {j : Nat} {c : Str × Str} (hc : (chF names)[j]? = some c) : ∀ y ∈ (chF names).take j, y.2 ≠ c.2 := by
  intro y hy e
  obtain ⟨i, hi, rfl⟩ := List.mem_iff_getElem.mp hy
  rw [List.length_take] at hi
  rw [List.getElem_take] at e
  obtain ⟨hj, rfl⟩ := List.getElem?_eq_some_iff.mp hc
  have hn := List.pairwise_iff_getElem.mp (ch_nodup hl) i j (by rw [List.length_map]; omega) (by rw [List.length_map]; omega) (by omega)
  rw [List.getElem_map, List.getElem_map] at hn
  exact hn e
theorem befo_take {names : List Str} (hl : names.length = 8) {j : Nat} {c : Str × Str} (hc : (chF names)[j]? = some c) : befo (chF names) c.2 = (chF names).take j :=
  tw_take hc (by simp) fun y hy => decide_eq_true (take_ne hl hc y hy)
theorem flat_ix {α β : Type} {g : α → List β} {p : β} : ∀ {l : List α} {i : Nat}, (l.flatMap g)[i]? = some p → ∃ j c r, l[j]? = some c ∧ i = ((l.take j).flatMap g).length + r ∧ (g c)[r]? = some p
  | [], i, h => by simp at h
  | a :: l, i, h => by
    rw [List.flatMap_cons] at h
    by_cases hi : i < (g a).length
    · rw [List.getElem?_append_left hi] at h
      exact ⟨0, a, i, rfl, by simp, h⟩
    · rw [List.getElem?_append_right (by omega)] at h
      obtain ⟨j, c, r, h1, h2, h3⟩ := flat_ix h
      refine ⟨j + 1, c, r, by rw [List.getElem?_cons_succ]; exact h1, ?_, h3⟩
      rw [List.take_succ_cons, List.flatMap_cons, List.length_append]
      omega
/-- before the end's name nothing is counted at the end's length -/
theorem ways_low {names : List Str} (ok : NamesOk names) {tb : List Nat} {L : Nat} (ht : ∀ l, l < L → tb.getD l 0 = cF names l) (hL : L ≤ endLen names) : ∀ l : Ch, (∀ c ∈ l, c.2 ≠ ("end" : Str) ∧ 1 ≤ c.1.length) → waysSum tb L l = 0
  | [], _ => rfl
  | c :: l, h => by
    unfold waysSum
    rw [List.map_cons, List.sum_cons]
    have ih := ways_low ok ht hL l fun x hx => h x (.tail _ hx)
    unfold waysSum at ih
    rw [ih]
    obtain ⟨h1, h2⟩ := h c (.head _)
    unfold ways
    rw [if_neg h1]
    by_cases hl : c.1.length ≤ L
    · rw [if_pos hl, ht _ (by omega), c_low ok (by omega)]
    · rw [if_neg hl]
/-- the rank of the i-th program of a length is i -/
theorem rank_at {names : List Str} (ok : NamesOk names) {tb : List Nat} : ∀ (p : List Str) {L i : Nat}, (∀ l, l < L → tb.getD l 0 = cF names l) → (rows (chF names) L)[i]? = some p → rankF names (chF names) tb p = i := by
  intro p
  induction p with
  | nil =>
    intro L i ht h
    rw [rows_eq (ch_lo ok)] at h
    obtain ⟨j, c, r, h1, h2, h3⟩ := flat_ix h
    have hcm := List.mem_of_getElem? h1
    unfold grp at h3
    by_cases he : c.2 = ("end" : Str)
    · rw [if_pos he] at h3
      by_cases hl : c.1.length = L
      · rw [if_pos hl] at h3
        have hr : r = 0 := by
          obtain ⟨q, _⟩ := List.getElem?_eq_some_iff.mp h3
          simpa using q
        rw [flat_len ht _ fun x hx => ch_lo ok x (List.mem_of_mem_take hx)] at h2
        have hL : L = endLen names := by rw [← hl, ch_lenW hcm, he, end_len ok]
        rw [ways_low ok ht (Nat.le_of_eq hL) _ fun x hx => ⟨fun z => take_ne ok.len h1 x hx (z.trans he.symm), ch_lo ok x (List.mem_of_mem_take hx)⟩] at h2
        show 0 = i
        omega
      · rw [if_neg hl] at h3
        simp at h3
    · rw [if_neg he] at h3
      by_cases hl : c.1.length ≤ L
      · rw [if_pos hl, List.getElem?_map] at h3
        obtain ⟨q, _, e⟩ := Option.map_eq_some_iff.mp h3
        cases e
      · rw [if_neg hl] at h3
        simp at h3
  | cons w p ih =>
    intro L i ht h
    have hm := rows_mem ok (List.mem_of_getElem? h)
    rw [rows_eq (ch_lo ok)] at h
    obtain ⟨j, c, r, h1, h2, h3⟩ := flat_ix h
    have hcm := List.mem_of_getElem? h1
    have hc1 := ch_lo ok c hcm
    unfold grp at h3
    by_cases he : c.2 = ("end" : Str)
    · rw [if_pos he] at h3
      by_cases hl : c.1.length = L
      · rw [if_pos hl] at h3
        have e : [] = w :: p := List.mem_singleton.mp (List.mem_of_getElem? h3) |>.symm
        cases e
      · rw [if_neg hl] at h3
        simp at h3
    · rw [if_neg he] at h3
      by_cases hl : c.1.length ≤ L
      · rw [if_pos hl, List.getElem?_map] at h3
        obtain ⟨q, hq, e⟩ := Option.map_eq_some_iff.mp h3
        injection e with e1 e2
        subst e2
        rw [flat_len ht _ fun x hx => ch_lo ok x (List.mem_of_mem_take hx)] at h2
        have hr := ih (L := L - c.1.length) (i := r) (fun l hl' => ht l (by omega)) hq
        show waysSum tb (lenP names (w :: q)) (befo (chF names) w) + rankF names (chF names) tb q = i
        rw [hr, hm.2, ← e1, befo_take ok.len h1]
        omega
      · rw [if_neg hl] at h3
        simp at h3
/-! ### the order of texts -/
theorem lex_apart : ∀ {a b r : List Nat}, ¬ a <+: b → ¬ b <+: a → (((b ++ r).take a.length ≠ a ∧ a < (b ++ r).take a.length) ↔ a < b) ∧ ((a < b ++ r ∧ b ++ r ≠ a) ↔ a < b)
  | [], b, r, h, _ => absurd (List.nil_prefix) h
  | _ :: _, [], r, _, h => absurd (List.nil_prefix) h
  | u :: a, v :: b, r, h1, h2 => by
    rw [List.cons_append, List.length_cons, List.take_succ_cons]
    rw [List.cons_prefix_cons] at h1 h2
    by_cases e : u = v
    · subst e
      have ih := lex_apart (a := a) (b := b) (r := r) (fun z => h1 ⟨rfl, z⟩) (fun z => h2 ⟨rfl, z⟩)
      simp only [List.cons_lt_cons_iff, Nat.lt_irrefl, false_or, true_and, ne_eq, List.cons.injEq]
      exact ih
    · have e' : ¬ v = u := fun z => e z.symm
      simp only [List.cons_lt_cons_iff, ne_eq, List.cons.injEq, e, e', false_and, or_false, not_false_eq_true, true_and, and_true, and_self]
theorem ch_sorted {names : List Str} : (chF names).Pairwise fun a b => a.1.cps.toList ≤ b.1.cps.toList := by
  have h := List.pairwise_mergeSort (le := fun a b : Str × Str => decide (a.1.cps.toList ≤ b.1.cps.toList))
    (fun a b c h1 h2 => decide_eq_true (List.le_trans (of_decide_eq_true h1) (of_decide_eq_true h2)))
    (fun a b => by
      rcases List.le_total a.1.cps.toList b.1.cps.toList with q | q
      · rw [decide_eq_true q]; rfl
      · rw [decide_eq_true q, Bool.or_true]) (names.zip W8)
  exact h.imp fun q => of_decide_eq_true q
/-- what stands before a word in the order of the names -/
theorem befo_filter {names : List Str} (ok : NamesOk names) {x : Str} (hx : x ∈ W8) : befo (chF names) x = (chF names).filter fun c => decide (c.1.cps.toList < (nameOf names x).cps.toList) := by
  obtain ⟨c, hc, e⟩ := ch_has ok.len hx
  obtain ⟨j, hj, ej⟩ := List.mem_iff_getElem.mp hc
  have h1 : (chF names)[j]? = some c := by rw [List.getElem?_eq_getElem hj, ej]
  subst e
  rw [befo_take ok.len h1]
  have hn : c.1 = nameOf names c.2 := (ch_name hc).1
  rw [← hn]
  have es : chF names = (chF names).take j ++ (chF names).drop j := (List.take_append_drop j _).symm
  have sp := List.pairwise_iff_getElem.mp (ch_sorted (names := names))
  have inj : ∀ (i : Nat) (hi : i < (chF names).length), ((chF names)[i]).1.cps.toList = c.1.cps.toList → i = j := by
    intro i hi q
    have h0 : ((chF names)[i]).1 = c.1 := by
      have q2 := Array.toList_inj.mp q
      generalize ((chF names)[i]).1 = s1 at q2
      generalize c.1 = s2 at q2
      cases s1; cases s2
      cases q2
      rfl
    -- equal names are of one place
    have hm : (chF names)[i] ∈ chF names := List.getElem_mem _
    have hz := chF_perm.mem_iff.mp hm
    have hz2 := chF_perm.mem_iff.mp hc
    obtain ⟨k, hk, ek⟩ := List.mem_iff_getElem.mp hz
    obtain ⟨k2, hk2, ek2⟩ := List.mem_iff_getElem.mp hz2
    have n1 : names[k]? = some c.1 := by
      rw [← h0, ← ek, List.getElem_zip]
      exact List.getElem?_eq_getElem _
    have n2 : names[k2]? = some c.1 := by
      rw [← ek2, List.getElem_zip]
      exact List.getElem?_eq_getElem _
    have hkk : k = k2 := by
      rcases Nat.lt_trichotomy k k2 with z | z | z
      · exact (free_ix ok.free n1 n2 z (List.prefix_refl _) (List.prefix_refl _)).elim
      · exact z
      · exact (free_ix ok.free n2 n1 z (List.prefix_refl _) (List.prefix_refl _)).elim
    subst hkk
    have ec : (chF names)[i] = (chF names)[j] := by rw [← ek, ek2, ej]
    have nd := ch_nodup ok.len (names := names)
    have e2 : ((chF names).map (·.2))[i]'(by rw [List.length_map]; exact hi) = ((chF names).map (·.2))[j]'(by rw [List.length_map]; exact hj) := by
      rw [List.getElem_map, List.getElem_map, ec]
    exact (List.getElem_inj nd).mp e2
  have f1 : ((chF names).take j).filter (fun d => decide (d.1.cps.toList < c.1.cps.toList)) = (chF names).take j := by
    refine List.filter_eq_self.mpr fun d hd => decide_eq_true ?_
    obtain ⟨i, hi, rfl⟩ := List.mem_iff_getElem.mp hd
    rw [List.length_take] at hi
    rw [List.getElem_take]
    have h2 := sp i j (by omega) hj (by omega)
    rw [ej] at h2
    rcases List.le_iff_lt_or_eq.mp h2 with q | q
    · exact q
    · have := inj i (by omega) q
      omega
  have f2 : ((chF names).drop j).filter (fun d => decide (d.1.cps.toList < c.1.cps.toList)) = [] := by
    refine List.filter_eq_nil_iff.mpr fun d hd => ?_
    obtain ⟨i, hi, rfl⟩ := List.mem_iff_getElem.mp hd
    rw [List.length_drop] at hi
    rw [List.getElem_drop]
    intro z
    have z := of_decide_eq_true z
    rcases Nat.eq_zero_or_pos i with q | q
    · subst q
      simp only [Nat.add_zero] at z
      rw [ej] at z
      exact List.lt_irrefl _ z
    · have h2 := sp j (j + i) hj (by omega) (by omega)
      rw [ej] at h2
      exact absurd z (List.not_lt.mpr h2)
  conv => rhs; rw [es]
  rw [List.filter_append, f1, f2, List.append_nil]
theorem sum_filter {α : Type} {p : α → Bool} {f : α → Nat} : ∀ l : List α, ((l.filter p).map f).sum = (l.map fun c => if p c = true then f c else 0).sum
  | [] => rfl
  | a :: l => by
    rw [List.filter_cons, List.map_cons, List.sum_cons, ← sum_filter l]
    by_cases h : p a = true
    · rw [if_pos h, if_pos h, List.map_cons, List.sum_cons]
    · rw [if_neg h, if_neg h, Nat.zero_add]
theorem zip_sum {f : Str × Str → Nat} {g : Str → Nat} : ∀ {ns ws : List Str}, ns.length = ws.length → (∀ c ∈ ns.zip ws, f c = g c.1) → ((ns.zip ws).map f).sum = (ns.map g).sum
  | [], [], _, _ => rfl
  | n :: ns, w :: ws, hl, h => by
    rw [List.zip_cons_cons, List.map_cons, List.sum_cons, List.map_cons, List.sum_cons, h (n, w) (by rw [List.zip_cons_cons]; exact .head _), zip_sum (by simpa using hl) fun c hc => h c (by rw [List.zip_cons_cons]; exact .tail _ hc)]
theorem str_ext {a b : Str} (h : a.cps.toList = b.cps.toList) : a = b := by
  have q := Array.toList_inj.mp h
  cases a; cases b
  cases q
  rfl
/-- what _law_ahead sums up where a word is spelt: the ways ahead of it -/
theorem aheadOne_cons {names p : List Str} {x : Str} (ok : NamesOk names) (hx : x ∈ W7) {tb : List Nat} : aheadOne names tb (tx names (x :: p)) (lenP names (x :: p)) = waysSum tb (lenP names (x :: p)) (befo (chF names) x) := by
  rw [befo_filter ok (W78 hx)]
  unfold waysSum
  rw [sum_filter]
  have e1 : ((chF names).map fun c => if decide (c.1.cps.toList < (nameOf names x).cps.toList) = true then ways tb c.1 c.2 (lenP names (x :: p)) else 0).sum = ((names.zip W8).map fun c => if decide (c.1.cps.toList < (nameOf names x).cps.toList) = true then ways tb c.1 c.2 (lenP names (x :: p)) else 0).sum := (chF_perm.map _).sum_nat
  rw [e1, zip_split ok.len, List.map_append, List.sum_append]
  have hxn := (nameOf_get ok.len (W78 hx)).2
  have apart : ∀ n ∈ names, n ≠ nameOf names x → ¬ n.cps.toList <+: (nameOf names x).cps.toList ∧ ¬ (nameOf names x).cps.toList <+: n.cps.toList := fun n hn ne =>
    ⟨fun z => ne (free_eq ok.free hn hxn z (List.prefix_refl _)), fun z => ne (free_eq ok.free hn hxn (List.prefix_refl _) z)⟩
  unfold aheadOne
  rw [tx_cons]
  generalize lenP names (x :: p) = M
  generalize tx names p = R
  congr 1
  · refine (zip_sum (by rw [List.length_take, ok.len]; rfl) fun c hc => ?_).symm
    obtain ⟨n, w⟩ := c
    have hm := List.of_mem_zip hc
    have hw := W7_end w hm.2
    have hn : n ∈ names := List.mem_of_mem_take hm.1
    show (if decide (n.cps.toList < (nameOf names x).cps.toList) = true then ways tb n w M else 0) = addN tb ((nameOf names x).cps.toList ++ R) M n
    unfold addN ways
    rw [if_neg hw]
    by_cases e : n = nameOf names x
    · subst e
      rw [if_neg (by rw [decide_eq_false (List.lt_irrefl _)]; exact Bool.false_ne_true), if_neg]
      rintro ⟨z, _⟩
      apply z
      rw [← len_tl, List.take_left]
    · obtain ⟨a1, a2⟩ := apart n hn e
      have lx := (lex_apart (r := R) a1 a2).1
      rw [len_tl] at lx
      by_cases hlt : n.cps.toList < (nameOf names x).cps.toList
      · rw [if_pos (decide_eq_true hlt)]
        have l2 := lx.mpr hlt
        by_cases hl : n.length ≤ M
        · rw [if_pos hl, if_pos ⟨l2.1, l2.2, hl⟩]
        · rw [if_neg hl, if_neg (fun z => hl z.2.2)]
      · rw [if_neg (by rw [decide_eq_false hlt]; exact Bool.false_ne_true), if_neg (fun z => hlt (lx.mp ⟨z.1, z.2.1⟩))]
  · have hen : names[7]? = some (names.getD 7 Str.empty) := by
      rw [List.getD_eq_getElem?_getD, List.getElem?_eq_getElem (by rw [ok.len]; decide)]
      rfl
    obtain ⟨k, hk, hk2⟩ := get7 ok hx
    rw [List.getElem?_take, if_pos hk] at hk2
    have ne : names.getD 7 Str.empty ≠ nameOf names x := fun z => (free_ix ok.free hk2 hen hk (by rw [z]; exact List.prefix_refl _) (List.prefix_refl _)).elim
    obtain ⟨a1, a2⟩ := apart _ (List.mem_of_getElem? hen) ne
    have lx := (lex_apart (r := R) a1 a2).2
    show addE ((nameOf names x).cps.toList ++ R) M (names.getD 7 Str.empty) = (if decide ((names.getD 7 Str.empty).cps.toList < (nameOf names x).cps.toList) = true then ways tb (names.getD 7 Str.empty) "end" M else 0) + 0
    unfold addE ways
    rw [if_pos rfl, Nat.add_zero]
    by_cases hlt : (names.getD 7 Str.empty).cps.toList < (nameOf names x).cps.toList
    · rw [if_pos (decide_eq_true hlt)]
      have l2 := lx.mpr hlt
      by_cases hl : (names.getD 7 Str.empty).length = M
      · rw [if_pos hl, if_pos ⟨l2.1, l2.2, hl⟩]
      · rw [if_neg hl, if_neg (fun z => hl z.2.2)]
    · rw [if_neg (fun z => hlt (lx.mp ⟨z.1, z.2.1⟩)), if_neg (by rw [decide_eq_false hlt]; exact Bool.false_ne_true)]
theorem aheadOne_nil {names : List Str} (ok : NamesOk names) {tb : List Nat} (ht : ∀ l, l < lenP names [] → tb.getD l 0 = cF names l) : aheadOne names tb (tx names []) (lenP names []) = 0 := by
  have hl : lenP names [] = endLen names := by
    unfold lenP
    rw [end_len ok]
    simp
  unfold aheadOne
  rw [hl] at ht ⊢
  rw [tx_nil, end_nm ok]
  have h1 : ((names.take 7).map (addN tb (names.getD 7 Str.empty).cps.toList (endLen names))).sum = ((names.take 7).map fun _ => 0).sum := by
    congr 1
    refine List.map_congr_left fun n hn => ?_
    unfold addN
    have hn1 := ok.lo n (List.mem_of_mem_take hn)
    by_cases h : (names.getD 7 Str.empty).cps.toList.take n.length ≠ n.cps.toList ∧ n.cps.toList < (names.getD 7 Str.empty).cps.toList.take n.length ∧ n.length ≤ endLen names
    · rw [if_pos h]
      have := h.2.2
      rw [ht _ (by omega), c_low ok (by omega)]
    · rw [if_neg h]
  rw [h1]
  unfold addE
  rw [if_neg (fun z => z.2.1 rfl), List.map_const', List.sum_replicate_nat]
  omega
/-- the law's own place of a program is its rank -/
theorem ahead_rank {names : List Str} (ok : NamesOk names) {tb : List Nat} : ∀ (p : List Str), (∀ x ∈ p, x ∈ W7) → (∀ l, l < lenP names p → tb.getD l 0 = cF names l) → aheadF names tb p = rankF names (chF names) tb p
  | [], _, ht => aheadOne_nil ok ht
  | x :: p, hp, ht => by
    show aheadOne names tb (tx names (x :: p)) (lenP names (x :: p)) + aheadF names tb p = waysSum tb (lenP names (x :: p)) (befo (chF names) x) + rankF names (chF names) tb p
    rw [aheadOne_cons ok (hp x (.head _)), ahead_rank ok p (fun y hy => hp y (.tail _ hy)) fun l hl => ht l (by rw [lenP_cons]; omega)]
end Dt
set_option Elab.async false
set_option linter.all false
set_option maxHeartbeats 4000000
/-! L1: the leaves of the law's names. -/
namespace Dt
open PySem L2
structure LeavesOk (ls : List Str) : Prop where
  free : Free ls
  bi : ∀ x ∈ ls, bin x
  hi : ∀ x ∈ ls, x.length ≤ 8
  kraft : (ls.map fun n => 2 ^ (8 - n.length)).sum = 256
theorem free_nodup {ls : List Str} (h : Free ls) : ls.Nodup := List.Pairwise.imp (fun {a b} q e => q.1 (by rw [e]; exact List.prefix_refl _)) h
theorem free_ne {ls : List Str} (h : Free ls) {a b : Str} (ha : a ∈ ls) (hb : b ∈ ls) (n : a ≠ b) : ¬ a.cps.toList <+: b.cps.toList := by
  intro z
  exact n (free_eq h ha hb z (List.prefix_refl _))
theorem sum_without {f : Str → Nat} {x : Str} : ∀ {ls : List Str}, ls.Nodup → x ∈ ls → ((ls.filter fun y => decide (y ≠ x)).map f).sum + f x = (ls.map f).sum
  | [], _, h => by cases h
  | a :: ls, nd, h => by
    rw [List.nodup_cons] at nd
    rw [List.filter_cons, List.map_cons, List.sum_cons]
    by_cases e : a = x
    · subst e
      rw [if_neg (by simp)]
      have : ls.filter (fun y => decide (y ≠ a)) = ls := List.filter_eq_self.mpr fun y hy => decide_eq_true fun z => nd.1 (z ▸ hy)
      rw [this]
      omega
    · rw [if_pos (decide_eq_true e), List.map_cons, List.sum_cons]
      have ih := sum_without (f := f) nd.2 (by
        rcases List.mem_cons.mp h with q | q
        · exact absurd q.symm e
        · exact q)
      omega
theorem filter_len {x : Str} {ls : List Str} (nd : ls.Nodup) (h : x ∈ ls) : (ls.filter fun y => decide (y ≠ x)).length + 1 = ls.length := by
  have e := sum_without (f := fun _ => 1) nd h
  rw [List.map_const', List.map_const', List.sum_replicate_nat, List.sum_replicate_nat] at e
  omega
theorem app_list {a b : Str} : (a ++ b).cps.toList = a.cps.toList ++ b.cps.toList := Array.toList_append
theorem z_list : ("0" : Str).cps.toList = [48] := by decide +kernel
theorem o_list : ("1" : Str).cps.toList = [49] := by decide +kernel
theorem app_len {a : Str} {c : Nat} {b : Str} (h : b.cps.toList = [c]) : (a ++ b).length = a.length + 1 := by
  rw [← len_tl, app_list, h, List.length_append, len_tl]
  rfl
theorem leaves_start : LeavesOk [("" : Str)] where
  free := List.pairwise_singleton _ _
  bi := fun x hx => by rw [List.mem_singleton.mp hx]; intro c hc; revert c; decide +kernel
  hi := fun x hx => by rw [List.mem_singleton.mp hx]; decide +kernel
  kraft := by decide +kernel
theorem leaves_split {ls : List Str} (ok : LeavesOk ls) {x : Str} (hx : x ∈ ls) (h8 : x.length < 8) : LeavesOk (ls.filter (fun y => decide (y ≠ x)) ++ [x ++ "0", x ++ "1"]) := by
  have l0 : (x ++ ("0" : Str)).cps.toList = x.cps.toList ++ [48] := by rw [app_list, z_list]
  have l1 : (x ++ ("1" : Str)).cps.toList = x.cps.toList ++ [49] := by rw [app_list, o_list]
  have n0 := app_len (a := x) z_list
  have n1 := app_len (a := x) o_list
  have memf : ∀ y ∈ ls.filter (fun y => decide (y ≠ x)), y ∈ ls ∧ y ≠ x := fun y hy => by
    obtain ⟨q1, q2⟩ := List.mem_filter.mp hy
    exact ⟨q1, of_decide_eq_true q2⟩
  refine ⟨?_, ?_, ?_, ?_⟩
  · refine List.pairwise_append.mpr ⟨ok.free.sublist (List.filter_sublist), ?_, ?_⟩
    · refine List.pairwise_cons.mpr ⟨fun b hb => ?_, List.pairwise_singleton _ _⟩
      rw [List.mem_singleton.mp hb, l0, l1]
      constructor
      · intro z
        have e := List.append_cancel_left (z.eq_of_length (by simp))
        simp at e
      · intro z
        have e := List.append_cancel_left (z.eq_of_length (by simp))
        simp at e
    · intro y hy z hz
      obtain ⟨y1, y2⟩ := memf y hy
      have p1 := free_ne ok.free y1 hx y2
      have p2 := free_ne ok.free hx y1 (Ne.symm y2)
      have key : ∀ c : Nat, ¬ y.cps.toList <+: x.cps.toList ++ [c] ∧ ¬ x.cps.toList ++ [c] <+: y.cps.toList := by
        intro c
        refine ⟨fun q => ?_, fun q => p2 ((List.prefix_append _ _).trans q)⟩
        rcases List.prefix_or_prefix_of_prefix q (List.prefix_append x.cps.toList [c]) with r | r
        · exact p1 r
        · exact p2 r
      rcases List.mem_cons.mp hz with e | e
      · rw [e, l0]; exact key 48
      · rw [List.mem_singleton.mp e, l1]; exact key 49
  · intro y hy
    rcases List.mem_append.mp hy with q | q
    · exact ok.bi y (memf y q).1
    · have hb := ok.bi x hx
      rcases List.mem_cons.mp q with e | e
      · intro c hc
        rw [e, l0] at hc
        rcases List.mem_append.mp hc with r | r
        · exact hb c r
        · rw [List.mem_singleton.mp r]; exact .inl rfl
      · intro c hc
        rw [List.mem_singleton.mp e, l1] at hc
        rcases List.mem_append.mp hc with r | r
        · exact hb c r
        · rw [List.mem_singleton.mp r]; exact .inr rfl
  · intro y hy
    rcases List.mem_append.mp hy with q | q
    · exact ok.hi y (memf y q).1
    · rcases List.mem_cons.mp q with e | e
      · rw [e, n0]; omega
      · rw [List.mem_singleton.mp e, n1]; omega
  · rw [List.map_append, List.sum_append]
    have e := sum_without (f := fun n => 2 ^ (8 - n.length)) (free_nodup ok.free) hx
    rw [ok.kraft] at e
    have e2 : ([x ++ ("0" : Str), x ++ ("1" : Str)].map fun n => 2 ^ (8 - n.length)).sum = 2 ^ (8 - x.length) := by
      simp only [List.map_cons, List.map_nil, List.sum_cons, List.sum_nil, n0, n1]
      rw [show 8 - x.length = (8 - (x.length + 1)) + 1 by omega, Nat.pow_succ]
      omega
    rw [e2]
    exact e
theorem split_len {ls : List Str} (ok : LeavesOk ls) {x : Str} (hx : x ∈ ls) : (ls.filter (fun y => decide (y ≠ x)) ++ [x ++ ("0" : Str), x ++ ("1" : Str)]).length = ls.length + 1 := by
  rw [List.length_append]
  have := filter_len (free_nodup ok.free) hx
  simp only [List.length_cons, List.length_nil]
  omega
theorem leaves_short {ls : List Str} (ok : LeavesOk ls) (h : ls.length ≤ 9) : ∃ x ∈ ls, x.length < 8 := by
  refine Classical.byContradiction fun no => ?_
  have e : (ls.map fun n => 2 ^ (8 - n.length)) = ls.map fun _ => 1 := List.map_congr_left fun x hx => by
    have : ¬ x.length < 8 := fun z => no ⟨x, hx, z⟩
    have : 8 - x.length = 0 := by omega
    rw [this]
  have k := ok.kraft
  rw [e, List.map_const', List.sum_replicate_nat] at k
  omega
theorem free_sym {a b : Str} (h : ¬ a.cps.toList <+: b.cps.toList ∧ ¬ b.cps.toList <+: a.cps.toList) : ¬ b.cps.toList <+: a.cps.toList ∧ ¬ a.cps.toList <+: b.cps.toList := ⟨h.2, h.1⟩
/-- the order in which the words get their names -/
def ordL : List Nat := [0, 1, 7, 3, 2, 4, 5, 6]
theorem names_of {ls ps rest fs : List Str} (ok : LeavesOk ls) (hp : (ps ++ rest).Perm ls) (h8 : ps.length = 8) (hf : fs.length = 8) (hat : ∀ (i o : Nat), ordL[i]? = some o → fs[o]? = ps[i]?) : NamesOk fs := by
  obtain ⟨p0, p1, p2, p3, p4, p5, p6, p7, rfl⟩ : ∃ a b c d e f g h, ps = [a, b, c, d, e, f, g, h] := by
    match ps, h8 with
    | [a, b, c, d, e, f, g, h], _ => exact ⟨a, b, c, d, e, f, g, h, rfl⟩
  obtain ⟨f0, f1, f2, f3, f4, f5, f6, f7, rfl⟩ : ∃ a b c d e f g h, fs = [a, b, c, d, e, f, g, h] := by
    match fs, hf with
    | [a, b, c, d, e, f, g, h], _ => exact ⟨a, b, c, d, e, f, g, h, rfl⟩
  have e0 : f0 = p0 := Option.some.inj (hat 0 0 rfl)
  have e1 : f1 = p1 := Option.some.inj (hat 1 1 rfl)
  have e2 : f7 = p2 := Option.some.inj (hat 2 7 rfl)
  have e3 : f3 = p3 := Option.some.inj (hat 3 3 rfl)
  have e4 : f2 = p4 := Option.some.inj (hat 4 2 rfl)
  have e5 : f4 = p5 := Option.some.inj (hat 5 4 rfl)
  have e6 : f5 = p6 := Option.some.inj (hat 6 5 rfl)
  have e7 : f6 = p7 := Option.some.inj (hat 7 6 rfl)
  subst e0 e1 e2 e3 e4 e5 e6 e7
  have sub : ∀ x ∈ [f0, f1, f2, f3, f4, f5, f6, f7], x ∈ ls := by
    intro x hx
    refine hp.mem_iff.mp (List.mem_append_left _ ?_)
    simp only [List.mem_cons, List.not_mem_nil, or_false] at hx ⊢
    rcases hx with h | h | h | h | h | h | h | h <;> simp [h]
  have fr : Free ([f0, f1, f7, f3, f2, f4, f5, f6] ++ rest) := (hp.pairwise_iff (R := fun a b : Str => ¬ a.cps.toList <+: b.cps.toList ∧ ¬ b.cps.toList <+: a.cps.toList) free_sym).mpr ok.free
  have fr2 : Free [f0, f1, f7, f3, f2, f4, f5, f6] := fr.sublist (List.sublist_append_left _ _)
  have pm : [f0, f1, f7, f3, f2, f4, f5, f6].Perm [f0, f1, f2, f3, f4, f5, f6, f7] := by
    refine List.Perm.cons _ (List.Perm.cons _ ?_)
    rw [List.perm_iff_count]
    intro a
    simp only [List.count_cons, List.count_nil]
    omega
  have fr3 : Free [f0, f1, f2, f3, f4, f5, f6, f7] := (pm.pairwise_iff (R := fun a b : Str => ¬ a.cps.toList <+: b.cps.toList ∧ ¬ b.cps.toList <+: a.cps.toList) free_sym).mp fr2
  refine ⟨rfl, fun n hn => ?_, fun n hn => ok.hi n (sub n hn), fun n hn => ok.bi n (sub n hn), fr3, ?_⟩
  · rcases Nat.eq_zero_or_pos n.length with z | z
    · have e : n.cps.toList = [] := by rw [← List.length_eq_zero_iff, len_tl]; exact z
      have key : ∀ y ∈ [f0, f1, f2, f3, f4, f5, f6, f7], y = n := fun y hy => Classical.byContradiction fun ne => free_ne fr3 hn hy (fun q => ne q.symm) (by rw [e]; exact List.nil_prefix)
      have a0 := key f0 (by simp)
      have a1 := key f1 (by simp)
      have nd := free_nodup fr3
      rw [List.nodup_cons] at nd
      exact absurd (by rw [a0, a1]; simp : f0 ∈ [f1, f2, f3, f4, f5, f6, f7]) nd.1
    · exact z
  · have e : (([f0, f1, f2, f3, f4, f5, f6, f7] ++ rest).map fun n : Str => 2 ^ (8 - n.length)).sum = (ls.map fun n => 2 ^ (8 - n.length)).sum := (((pm.symm.append_right rest).trans hp).map _).sum_nat
    rw [ok.kraft, List.map_append, List.sum_append] at e
    omega
end Dt
set_option Elab.async false
set_option linter.all false
set_option maxRecDepth 100000
set_option maxHeartbeats 4000000
/-! F30: _law_word. -/
namespace Dt
open PySem PySem.Spec L2
theorem g_glst {K : PySem.W.Frag} {n : Nat} {t : TGs} {v : V} {σ : St} {H : Hp} {Q : St → Hp → Prop} (h : ∃ a xs, v = .ref a ∧ SqL K H a xs ∧ xs.length = n ∧ t xs σ H Q) : gLst K n t v σ H Q := h
local macro_rules | `(tactic| walk_at "st") => `(tactic| (simp only [L2.start, List.map_cons, List.map_nil, List.length_cons, List.length_nil, List.replicate_succ, List.replicate_zero, List.cons_append, List.nil_append, Nat.zero_add, Nat.reduceAdd, Nat.reduceSub]))
local macro_rules | `(tactic| walk_at "r1") => `(tactic| with_reducible first
  | refine g_seq ?_
  | refine g_next ?_
  | refine g_asg ?_
  | refine g_ifS ?_
  | refine g_ret ?_
  | refine g_retN ?_
  | refine g_drop ?_
  | refine g_brk ?_
  | refine g_c ?_
  | refine g_op ?_
  | refine g_un ?_
  | refine g_I0 ?_
  | refine g_U ?_
  | refine g_eqI ?_
  | refine g_neI ?_
  | refine g_eqS ?_
  | refine g_neS ?_
  | refine g_test ?_
  | refine g_B ?_
  | refine g_bl ?_
  | refine g_if ?_
  | refine g_not ?_
  | refine g_and ?_
  | refine g_or ?_
  | refine g_andV ?_
  | refine g_orV ?_
  | refine g_notV ?_
  | refine g_blif ?_
  | refine g_chain ?_
  | refine g_nil ?_
  | refine g_cons ?_
  | refine g_cb ?_
  | refine g_call ?_
  | refine g_tup ?_
  | refine g_lst ?_
  | refine g_tfld ?_
  | refine g_dget ?_
  | refine g_mk ?_
  | refine g_lc2 ?_
  | refine g_gfld ?_
  | refine g_meth ?_
  | refine g_sfld ?_
  | refine g_din ?_
  | refine g_dput ?_
  | refine g_isN_int ?_
  | refine g_isN_str ?_
  | refine g_isN_ref ?_
  | refine g_isN_non ?_
  | refine g_nN_int ?_
  | refine g_nN_str ?_
  | refine g_nN_ref ?_
  | refine g_nN_non ?_
  | refine g_lc ?_
  | refine g_dc ?_
  | refine g_for ?_
  | refine g_iStr ?_
  | refine g_iList ?_
  | refine g_iTup ?_
  | refine g_iR1 ?_
  | refine g_iR2 ?_
  | refine g_iR3 ?_
  | refine g_iEnum ?_
  | refine g_iZip ?_
  | refine g_iZipA ?_
  | refine g_bm ?_
  | refine g_bm0 ?_
  | refine g_m1 ?_
  | refine g_sl ?_
  | refine g_poN ?_
  | refine g_poS ?_
  | refine g_poI ?_
  | refine g_yes ?_
  | refine g_gtup ?_
  | refine g_gcons ?_
  | refine g_gnil ?_
  | refine g_par ?_
  | refine g_isi_ii ?_
  | refine g_isi_ib ?_
  | refine g_isi_ss ?_
  | refine g_inC ?_
  | refine g_int1 ?_
  | refine g_int1b ?_
  | refine g_abs ?_
  | refine g_ltS ?_
  | refine iteT ?_
  | refine iteNT ?_
  | refine iteNF ?_
  | refine iteF ?_)
local macro_rules | `(tactic| walk_at "sd") => `(tactic| first | assumption | rfl | decide | omega)
local macro_rules | `(tactic| walk_at "hp") => `(tactic| first | assumption | exact upd_same | exact Same.get (by assumption) (by walk_at "hp") | exact Off.get (by assumption) (by walk_at "hp") (by walk_at "ne"))
local macro_rules | `(tactic| walk_at "ne") => `(tactic| first | assumption | (refine Ne.symm ?_; assumption) | exact ne_of_none (by walk_at "hp") (by assumption) | exact ne_none (by walk_at "hp") (by assumption) | exact ne_of (by walk_at "hp") (by walk_at "hp") (by intro z; cases z))
local macro_rules | `(tactic| walk_at "sq") => `(tactic| first | assumption | exact SqL.rd (by walk_at "hp") | exact SqT.rd (by walk_at "hp") | exact Same.seq (by assumption) (by walk_at "sq") | exact Same.seqT (by assumption) (by walk_at "sq"))
local macro_rules | `(tactic| walk_at "rI") => `(tactic| ((with_reducible refine g_I ?_ ?_); (focus (first | (refine Or.inl ⟨?_, ?_⟩ <;> (first | decide | omega)) | (refine Or.inr ⟨?_, ?_⟩ <;> (first | decide | omega)) | (show (0 : Int) < _; first | decide | omega | assumption) | (refine And.intro ?_ ?_ <;> (first | decide | omega | (refine And.intro ?_ ?_ <;> (first | decide | omega))))))))
local macro_rules | `(tactic| walk_at "r2") => `(tactic| first
  | ((with_reducible refine g_tvar ?_); (refine ⟨_, rfl, ?_⟩))
  | ((with_reducible refine g_name' (σ' := ?s) ?e ?h); (case e => (simp only [wipe, List.set_cons_zero, List.set_cons_succ]; first | done | rfl)))
  | (refine And.intro (show wipe _ _ = wipe _ _ from rfl) ?_)
  | walk_at "rI")
local macro_rules | `(tactic| walk_at "rd") => `(tactic| repeat (first | walk_at "r1" | walk_at "r2"))
local macro_rules | `(tactic| walk_at "gn") => `(tactic| (intro pA hA; generalize hG : upd _ _ _ = H2A; (have sA : Same _ H2A := hG ▸ Same.upd hA); (have lA : H2A pA = some _ := hG ▸ upd_same); clear hG))
local macro_rules | `(tactic| walk_at "mk") => `(tactic| (intro xM dxM h1M h2M hneM; generalize hG : upd (upd _ _ _) _ _ = HM; (have sM : Same _ HM := hG ▸ Same.updW (Same.upd h2M) h1M); (have lM : HM xM = some _ := hG ▸ upd_same); clear hG))
section
variable {P : Program} {w : World} {K : PySem.W.Frag} {mg : Str → Option Value} {base : Heap}
/-- a step of the law's own running -/
def sp_law_word : PySem.W.Frag → Sp := fun K vs H Q _ => ∃ p b, ∃ (ws : List Str) (s : RunS), vs = [.ref p, .ref b, .int s.spot] ∧ H p = some (.tup (ws.map V.str)) ∧ ws.length ≤ 200 ∧ H b = some (.lst [.int s.left, .int s.right]) ∧ RunOk ws.length s ∧ s.fallen = false ∧
  ∀ t H', Off b H H' → H' b = some (.lst [.int (adv ws s).2.left, .int (adv ws s).2.right]) → H' t = some (.tup [optV (adv ws s).1, .int (adv ws s).2.spot]) → Q (.ref t) H'
theorem c_law_word (T : TX w K mg) : C8.Cal P w K mg base 1 "_law_word" (sp_law_word K) [] := by
  obtain ⟨f, fd, F, b⟩ := T.d_law_word
  have nd := sc_law_word.nd
  refine C8.cal0 F b .nil sc_law_word (fun vs H Q E h => ?_) (fun cdv A outer s H vs Q E hr h => ?_)
  · obtain ⟨p, b, ws, st, rfl, _⟩ := h
    rfl
  · obtain ⟨p, b, ws, st, rfl, hp, h200, hb, rok, hfal, q⟩ := h
    obtain ⟨left, right, spot, fallen⟩ := st
    obtain ⟨hspot, hbox⟩ := rok
    simp only at hfal hspot hbox hb
    subst hfal
    obtain ⟨bl, br⟩ := hbox rfl
    have bl := boxOk_iff.mp bl
    have br := boxOk_iff.mp br
    have hpb : p ≠ b := ne_of hp hb (by intro z; cases z)
    refine ⟨_, (pss_cons (ps_set (i := 3) nd rfl (Or.inl rfl) (pe_op op_cat (pe_callTy kc_list (by rfl) T.z_list (by decide +kernel) (pa_cons (pv 0) pa_nil)) (pe_lst (pa_cons pe_str pa_nil))))
    (pss_cons (ps_par (i := 4) (j := 5) rfl nd rfl rfl (by decide) rfl rfl (pa_cons (pe_ix ix_list (pv 3) (pv 2) (fun _ _ => rfl)) (pa_cons (pe_op op_mod (pe_callTy kc_int (by rfl) T.z_int (by decide +kernel) (pa_cons (pe_op op_add (pv 2) pe_int) pa_nil)) (pe_callB kc_len (by rfl) T.z_len (by decide +kernel) (pa_cons (pv 3) pa_nil))) pa_nil)) (by rfl))
    (pss_cons (ps_asg (pv 1) (pg_lst rfl (pgs_cons (pg_name (i := 6) nd rfl (Or.inl rfl)) (pgs_cons (pg_name (i := 7) nd rfl (Or.inl rfl)) pgs_nil))))
    (pss_cons (ps_if (pt_cmpR op_eq (pv 4) pe_str (nomark _))
      (pss_one (ps_asg (pe_tup (pa_cons (pv 7) (pa_cons (pv 6) pa_nil))) (pg_tup rfl (pgs_cons (pg_sub (pv 1) pe_int set_list) (pgs_cons (pg_sub (pv 1) pe_int set_list) pgs_nil)))))
      (pss_one (ps_if (PW.pt (pw_or (pt_cmpR op_eq (pv 4) pe_str (nomark _)) (pw_or1 (pt_cmpR op_eq (pv 4) pe_str (nomark _)))))
        (pss_one (ps_asg (pe_op op_add (pv 6) (pe_ifExp (pt_cmpR op_eq (pv 4) pe_str (nomark _)) pe_int (pe_un un_neg pe_int))) (pg_sub (pv 1) pe_int set_list)))
        (pss_one (ps_if (PW.pt (pw_or (pt_cmpR op_eq (pv 4) pe_str (nomark _)) (pw_or1 (pt_cmpR op_eq (pv 4) pe_str (nomark _)))))
          (pss_one (ps_asg (pe_ifExp (pt_cmpR op_eq (pv 4) pe_str (nomark _)) (pe_op op_add (pv 6) (pv 7)) (pe_op op_mul (pv 6) (pv 7))) (pg_sub (pv 1) pe_int set_list)))
          (pss_one (ps_if (PW.pt (pw_and (pt_cmpR op_eq (pv 4) pe_str (nomark _)) (pw_and1 (pt_cmpR op_ne (pv 6) pe_int (nomark _)))))
            (pss_one (ps_set (i := 5) nd rfl (Or.inl rfl) (pe_op op_mod (pe_callTy kc_int (by rfl) T.z_int (by decide +kernel) (pa_cons (pe_op op_add (pv 2) pe_int) pa_nil)) (pe_callB kc_len (by rfl) T.z_len (by decide +kernel) (pa_cons (pv 3) pa_nil)))))
            pss_nil)))))))
    (pss_one (ps_ret (pe_tup (pa_cons (pe_ifExp (pt_cmpR op_eq (pv 4) pe_str (nomark _)) (pv 6) pe_non) (pa_cons (pv 5) pa_nil))))))))), ?_⟩
    walk_at "st"
    walk_at "rd"
    refine g_listT (SqT.rd hp) fun a na => ?_
    have s2 := Same.upd (o := .lst (ws.map V.str)) na
    have l2 := upd_same (H := H) (a := a) (o := .lst (ws.map V.str))
    generalize upd H a (.lst (ws.map V.str)) = H2 at s2 l2
    walk_at "rd"
    refine ⟨show (1 : Nat) ≤ sizeLine by decide, fun e ne => ?_⟩
    have s3 := Same.upd (o := .lst [.str "end"]) ne
    have l3 := upd_same (H := H2) (a := e) (o := .lst [.str "end"])
    generalize upd H2 e (.lst [.str "end"]) = H3 at s3 l3
    refine ⟨a, e, _, _, rfl, rfl, s3 _ _ l2, l3, by rw [List.length_map, sizeLine_eq]; simp; omega, fun c nc => ?_⟩
    have ec : ws.map V.str ++ [V.str "end"] = (ws ++ [("end" : Str)]).map V.str := by rw [List.map_append]; rfl
    rw [ec]
    have s4 := Same.upd (o := .lst ((ws ++ [("end" : Str)]).map V.str)) nc
    have l4 := upd_same (H := H3) (a := c) (o := .lst ((ws ++ [("end" : Str)]).map V.str))
    generalize upd H3 c (.lst ((ws ++ [("end" : Str)]).map V.str)) = H4 at s4 l4
    have s14 := (s2.trans s3).trans s4
    have hwd : (ws ++ [("end" : Str)])[spot]? = some (wordAt ws spot) := by
      unfold wordAt
      rw [List.getD_eq_getElem?_getD]
      by_cases h : spot < ws.length
      · rw [List.getElem?_append_left h, List.getElem?_eq_getElem h]
        rfl
      · have : spot = ws.length := by omega
        subst this
        rw [List.getElem?_append_right (Nat.le_refl _), List.getElem?_eq_none (Nat.le_refl _), Nat.sub_self]
        rfl
    walk_at "rd"
    refine g_ixL (SqL.rd l4) (atI_nat (v := .str (wordAt ws spot)) (by rw [List.getElem?_map, hwd]; rfl)) ?_
    walk_at "rd"
    refine g_lenL (SqL.rd l4) ?_
    have hln : ((ws ++ [("end" : Str)]).map V.str).length = ws.length + 1 := by simp
    rw [hln]
    walk_at "rd"
    refine ⟨_, _, rfl, ?_⟩
    have hlat : ((spot : Int) + 1) % ((ws.length + 1 : Nat) : Int) = ((nextSpot ws.length spot false : Nat) : Int) := by
      unfold nextSpot
      rw [if_neg Bool.false_ne_true]
      exact (Int.natCast_emod (spot + 1) (ws.length + 1)).symm
    have hlat2 : ((spot : Int) + 2) % ((ws.length + 1 : Nat) : Int) = ((nextSpot ws.length spot true : Nat) : Int) := by
      unfold nextSpot
      rw [if_pos rfl]
      exact (Int.natCast_emod (spot + 2) (ws.length + 1)).symm
    rw [hlat]
    have hb4 : H4 b = some (.lst [.int left, .int right]) := s14 _ _ hb
    walk_at "rd"
    refine g_glst ⟨b, _, rfl, SqL.rd hb4, rfl, ?_⟩
    walk_at "rd"
    have hadv : adv ws ⟨left, right, spot, false⟩ = (if wordAt ws spot = "say" then (some left, ⟨left, right, nextSpot ws.length spot (decide (wordAt ws spot = "skip") && !decide (left = 0)), false⟩)
      else if wordAt ws spot = "swap" then (none, ⟨right, left, nextSpot ws.length spot (decide (wordAt ws spot = "skip") && !decide (left = 0)), !boxOk right⟩)
      else (none, ⟨changedF (wordAt ws spot) left right, right, nextSpot ws.length spot (decide (wordAt ws spot = "skip") && !decide (left = 0)), !boxOk (changedF (wordAt ws spot) left right)⟩)) := rfl
    rw [hadv] at q
    clear hadv hwd hspot
    generalize wordAt ws spot = wd at q ⊢
    have o4 : Off b H H4 := fun x o h _ => s14 _ _ h
    by_cases e1 : wd = ("swap" : Str)
    · subst e1
      rw [if_neg (by decide +kernel), if_pos rfl, decide_eq_false (show ¬ ("swap" : Str) = "skip" by decide +kernel), Bool.false_and] at q
      refine ifD_t rfl ?_
      walk_at "rd"
      refine ⟨show (2 : Nat) ≤ sizeLine by decide, fun tp ntp => ?_⟩
      have s5 := Same.upd (o := .tup [.int right, .int left]) ntp
      have l5 := upd_same (H := H4) (a := tp) (o := .tup [.int right, .int left])
      generalize upd H4 tp (.tup [.int right, .int left]) = H5 at s5 l5
      walk_at "rd"
      refine ⟨tp, _, rfl, SqT.rd l5, rfl, ?_⟩
      walk_at "rd"
      unfold gSub
      walk_at "rd"
      refine ⟨b, _, 0, 0, rfl, rfl, s5 _ _ hb4, rfl, ?_⟩
      walk_at "rd"
      refine ⟨b, _, 1, 1, rfl, rfl, upd_same, rfl, ?_⟩
      walk_at "rd"
      refine ifD_f (by decide +kernel) ?_
      walk_at "rd"
      refine ⟨show (2 : Nat) ≤ sizeLine by decide, fun t nt => ?_⟩
      refine q t _ ?_ ?_ upd_same
      · exact fun x o h n => Same.upd nt _ _ (Off.upd _ _ (Off.upd _ _ (s5 _ _ (o4 _ _ h n)) n) n)
      · exact Same.upd nt _ _ upd_same
    refine ifD_f e1 ?_
    rw [if_neg e1] at q
    -- one write of the left box
    have put : ∀ (v : Int) (H9 : Hp), H9 = upd H4 b (.lst [.int v, .int right]) → ∀ t, H9 t = none → Off b H (upd H9 t (.tup [.non, .int (nextSpot ws.length spot false : Nat)])) ∧ upd H9 t (.tup [.non, .int (nextSpot ws.length spot false : Nat)]) b = some (.lst [.int v, .int right]) := by
      rintro v H9 rfl t nt
      exact ⟨fun x o h n => Same.upd nt _ _ (Off.upd _ _ (o4 _ _ h n) n), Same.upd nt _ _ upd_same⟩
    walk_at "rd"
    by_cases e_up : wd = ("up" : Str)
    · subst e_up
      rw [if_neg (show ¬ ("up" : Str) = "say" by decide +kernel), decide_eq_false (show ¬ ("up" : Str) = "skip" by decide +kernel), Bool.false_and, show changedF "up" left right = left + 1 by unfold changedF; rw [if_pos rfl]] at q
      refine ifD_t rfl ?_
      walk_at "rd"
      refine ifD_t rfl ?_
      walk_at "rd"
      unfold gSub
      walk_at "rd"
      refine ⟨b, _, 0, 0, rfl, rfl, hb4, rfl, ?_⟩
      walk_at "rd"
      refine ifD_f (by decide +kernel) ?_
      walk_at "rd"
      refine ⟨show (2 : Nat) ≤ sizeLine by decide, fun t nt => ?_⟩
      obtain ⟨y1, y2⟩ := put (left + 1) _ rfl t nt
      exact q t _ y1 y2 upd_same
    refine ifD_f e_up ?_
    walk_at "rd"
    by_cases e_down : wd = ("down" : Str)
    · subst e_down
      rw [if_neg (show ¬ ("down" : Str) = "say" by decide +kernel), decide_eq_false (show ¬ ("down" : Str) = "skip" by decide +kernel), Bool.false_and, show changedF "down" left right = left - 1 by unfold changedF; rw [if_neg (by decide +kernel), if_pos rfl]] at q
      refine ifD_t rfl ?_
      walk_at "rd"
      refine ifD_f (by decide +kernel) ?_
      walk_at "rd"
      rw [show left - 1 = left + -1 by omega] at q
      unfold gSub
      walk_at "rd"
      refine ⟨b, _, 0, 0, rfl, rfl, hb4, rfl, ?_⟩
      walk_at "rd"
      refine ifD_f (by decide +kernel) ?_
      walk_at "rd"
      refine ⟨show (2 : Nat) ≤ sizeLine by decide, fun t nt => ?_⟩
      obtain ⟨y1, y2⟩ := put (left + -1) _ rfl t nt
      exact q t _ y1 y2 upd_same
    refine ifD_f e_down ?_
    walk_at "rd"
    by_cases e_add : wd = ("add" : Str)
    · subst e_add
      rw [if_neg (show ¬ ("add" : Str) = "say" by decide +kernel), decide_eq_false (show ¬ ("add" : Str) = "skip" by decide +kernel), Bool.false_and, show changedF "add" left right = left + right by unfold changedF; rw [if_neg (by decide +kernel), if_neg (by decide +kernel), if_pos rfl]] at q
      refine ifD_t rfl ?_
      walk_at "rd"
      refine ifD_t rfl ?_
      walk_at "rd"
      unfold gSub
      walk_at "rd"
      refine ⟨b, _, 0, 0, rfl, rfl, hb4, rfl, ?_⟩
      walk_at "rd"
      refine ifD_f (by decide +kernel) ?_
      walk_at "rd"
      refine ⟨show (2 : Nat) ≤ sizeLine by decide, fun t nt => ?_⟩
      obtain ⟨y1, y2⟩ := put (left + right) _ rfl t nt
      exact q t _ y1 y2 upd_same
    refine ifD_f e_add ?_
    walk_at "rd"
    by_cases e_times : wd = ("times" : Str)
    · subst e_times
      rw [if_neg (show ¬ ("times" : Str) = "say" by decide +kernel), decide_eq_false (show ¬ ("times" : Str) = "skip" by decide +kernel), Bool.false_and, show changedF "times" left right = left * right by unfold changedF; rw [if_neg (by decide +kernel), if_neg (by decide +kernel), if_neg (by decide +kernel), if_pos rfl]] at q
      refine ifD_t rfl ?_
      walk_at "rd"
      refine ifD_f (by decide +kernel) ?_
      walk_at "rd"
      unfold gSub
      walk_at "rd"
      refine ⟨b, _, 0, 0, rfl, rfl, hb4, rfl, ?_⟩
      walk_at "rd"
      refine ifD_f (by decide +kernel) ?_
      walk_at "rd"
      refine ⟨show (2 : Nat) ≤ sizeLine by decide, fun t nt => ?_⟩
      obtain ⟨y1, y2⟩ := put (left * right) _ rfl t nt
      exact q t _ y1 y2 upd_same
    refine ifD_f e_times ?_
    have hch : changedF wd left right = left := by
      unfold changedF
      rw [if_neg e_up, if_neg e_down, if_neg e_add, if_neg e_times]
    rw [hch] at q
    walk_at "rd"
    have end2 : ∀ (v : V) (n : Nat) (t : Addr), H4 t = none → Off b H (upd H4 t (.tup [v, .int (n : Nat)])) ∧ upd H4 t (.tup [v, .int (n : Nat)]) b = some (.lst [.int left, .int right]) := fun v n t nt =>
      ⟨fun x o h m => Same.upd nt _ _ (o4 _ _ h m), Same.upd nt _ _ hb4⟩
    by_cases e5 : wd = ("skip" : Str)
    · subst e5
      rw [if_neg (show ¬ ("skip" : Str) = "say" by decide +kernel), decide_eq_true (show ("skip" : Str) = "skip" from rfl), Bool.true_and] at q
      refine ifD_t rfl ?_
      walk_at "rd"
      by_cases hz : left = 0
      · rw [decide_eq_true hz] at q
        refine ifB_f (by rw [decide_eq_true hz]; rfl) ?_
        walk_at "rd"
        refine ifD_f (by decide +kernel) ?_
        walk_at "rd"
        refine ⟨show (2 : Nat) ≤ sizeLine by decide, fun t nt => ?_⟩
        obtain ⟨y1, y2⟩ := end2 .non _ t nt
        exact q t _ y1 y2 upd_same
      · rw [decide_eq_false hz] at q
        refine ifB_t (by rw [decide_eq_false hz]; rfl) ?_
        walk_at "rd"
        refine g_lenL (SqL.rd l4) ?_
        rw [hln]
        walk_at "rd"
        rw [hlat2]
        refine ifD_f (by decide +kernel) ?_
        walk_at "rd"
        refine ⟨show (2 : Nat) ≤ sizeLine by decide, fun t nt => ?_⟩
        obtain ⟨y1, y2⟩ := end2 .non _ t nt
        exact q t _ y1 y2 upd_same
    · rw [decide_eq_false e5, Bool.false_and] at q
      refine ifD_f e5 ?_
      walk_at "rd"
      by_cases e6 : wd = ("say" : Str)
      · rw [if_pos e6] at q
        refine ifD_t e6 ?_
        walk_at "rd"
        refine ⟨show (2 : Nat) ≤ sizeLine by decide, fun t nt => ?_⟩
        obtain ⟨y1, y2⟩ := end2 (.int left) _ t nt
        exact q t _ y1 y2 upd_same
      · rw [if_neg e6] at q
        refine ifD_f e6 ?_
        walk_at "rd"
        refine ⟨show (2 : Nat) ≤ sizeLine by decide, fun t nt => ?_⟩
        obtain ⟨y1, y2⟩ := end2 .non _ t nt
        exact q t _ y1 y2 upd_same
end
end Dt
set_option Elab.async false
set_option linter.all false
set_option maxRecDepth 100000
set_option maxHeartbeats 4000000
/-! F31: _law_part. -/
namespace Dt
open PySem PySem.Spec L2
local macro_rules | `(tactic| walk_at "st") => `(tactic| (simp only [L2.start, List.map_cons, List.map_nil, List.length_cons, List.length_nil, List.replicate_succ, List.replicate_zero, List.cons_append, List.nil_append, Nat.zero_add, Nat.reduceAdd, Nat.reduceSub]))
local macro_rules | `(tactic| walk_at "r1") => `(tactic| with_reducible first
  | refine g_seq ?_
  | refine g_next ?_
  | refine g_asg ?_
  | refine g_ifS ?_
  | refine g_ret ?_
  | refine g_retN ?_
  | refine g_drop ?_
  | refine g_brk ?_
  | refine g_c ?_
  | refine g_op ?_
  | refine g_un ?_
  | refine g_I0 ?_
  | refine g_U ?_
  | refine g_eqI ?_
  | refine g_neI ?_
  | refine g_eqS ?_
  | refine g_neS ?_
  | refine g_test ?_
  | refine g_B ?_
  | refine g_bl ?_
  | refine g_if ?_
  | refine g_not ?_
  | refine g_and ?_
  | refine g_or ?_
  | refine g_andV ?_
  | refine g_orV ?_
  | refine g_notV ?_
  | refine g_blif ?_
  | refine g_chain ?_
  | refine g_nil ?_
  | refine g_cons ?_
  | refine g_cb ?_
  | refine g_call ?_
  | refine g_tup ?_
  | refine g_lst ?_
  | refine g_tfld ?_
  | refine g_dget ?_
  | refine g_mk ?_
  | refine g_lc2 ?_
  | refine g_gfld ?_
  | refine g_meth ?_
  | refine g_sfld ?_
  | refine g_din ?_
  | refine g_dput ?_
  | refine g_isN_int ?_
  | refine g_isN_str ?_
  | refine g_isN_ref ?_
  | refine g_isN_non ?_
  | refine g_nN_int ?_
  | refine g_nN_str ?_
  | refine g_nN_ref ?_
  | refine g_nN_non ?_
  | refine g_lc ?_
  | refine g_dc ?_
  | refine g_for ?_
  | refine g_iStr ?_
  | refine g_iList ?_
  | refine g_iTup ?_
  | refine g_iR1 ?_
  | refine g_iR2 ?_
  | refine g_iR3 ?_
  | refine g_iEnum ?_
  | refine g_iZip ?_
  | refine g_iZipA ?_
  | refine g_bm ?_
  | refine g_bm0 ?_
  | refine g_m1 ?_
  | refine g_sl ?_
  | refine g_poN ?_
  | refine g_poS ?_
  | refine g_poI ?_
  | refine g_yes ?_
  | refine g_gtup ?_
  | refine g_gcons ?_
  | refine g_gnil ?_
  | refine g_par ?_
  | refine g_isi_ii ?_
  | refine g_isi_ib ?_
  | refine g_isi_ss ?_
  | refine g_inC ?_
  | refine g_int1 ?_
  | refine g_int1b ?_
  | refine g_abs ?_
  | refine g_ltS ?_
  | refine iteT ?_
  | refine iteNT ?_
  | refine iteNF ?_
  | refine iteF ?_)
local macro_rules | `(tactic| walk_at "sd") => `(tactic| first | assumption | rfl | decide | omega)
local macro_rules | `(tactic| walk_at "hp") => `(tactic| first | assumption | exact upd_same | exact Same.get (by assumption) (by walk_at "hp") | exact Off.get (by assumption) (by walk_at "hp") (by walk_at "ne"))
local macro_rules | `(tactic| walk_at "ne") => `(tactic| first | assumption | (refine Ne.symm ?_; assumption) | exact ne_of_none (by walk_at "hp") (by assumption) | exact ne_none (by walk_at "hp") (by assumption) | exact ne_of (by walk_at "hp") (by walk_at "hp") (by intro z; cases z))
local macro_rules | `(tactic| walk_at "sq") => `(tactic| first | assumption | exact SqL.rd (by walk_at "hp") | exact SqT.rd (by walk_at "hp") | exact Same.seq (by assumption) (by walk_at "sq") | exact Same.seqT (by assumption) (by walk_at "sq"))
local macro_rules | `(tactic| walk_at "rI") => `(tactic| ((with_reducible refine g_I ?_ ?_); (focus (first | (refine Or.inl ⟨?_, ?_⟩ <;> (first | decide | omega)) | (refine Or.inr ⟨?_, ?_⟩ <;> (first | decide | omega)) | (show (0 : Int) < _; first | decide | omega | assumption) | (refine And.intro ?_ ?_ <;> (first | decide | omega | (refine And.intro ?_ ?_ <;> (first | decide | omega))))))))
local macro_rules | `(tactic| walk_at "r2") => `(tactic| first
  | ((with_reducible refine g_tvar ?_); (refine ⟨_, rfl, ?_⟩))
  | ((with_reducible refine g_name' (σ' := ?s) ?e ?h); (case e => (simp only [wipe, List.set_cons_zero, List.set_cons_succ]; first | done | rfl)))
  | (refine And.intro (show wipe _ _ = wipe _ _ from rfl) ?_)
  | walk_at "rI")
local macro_rules | `(tactic| walk_at "rd") => `(tactic| repeat (first | walk_at "r1" | walk_at "r2"))
local macro_rules | `(tactic| walk_at "gn") => `(tactic| (intro pA hA; generalize hG : upd _ _ _ = H2A; (have sA : Same _ H2A := hG ▸ Same.upd hA); (have lA : H2A pA = some _ := hG ▸ upd_same); clear hG))
local macro_rules | `(tactic| walk_at "mk") => `(tactic| (intro xM dxM h1M h2M hneM; generalize hG : upd (upd _ _ _) _ _ = HM; (have sM : Same _ HM := hG ▸ Same.updW (Same.upd h2M) h1M); (have lM : HM xM = some _ := hG ▸ upd_same); clear hG))
theorem code_pos : ∀ e : Ex, 1 ≤ e.code.length
  | .a => Nat.le_refl _
  | .n => Nat.le_refl _
  | .num _ => Nat.le_refl _
  | .bin o l r => by
    show 1 ≤ (l.code ++ r.code ++ [o.i]).length
    rw [List.length_append, List.length_singleton]
    omega
/-- numbers within the bound -/
def Ex.small : Ex → Prop
  | .num i => -1000000000000000000 ≤ i ∧ i ≤ 1000000000000000000
  | .bin _ l r => l.small ∧ r.small
  | _ => True
def Ex.dep : Ex → Nat
  | .bin _ l r => Nat.max l.dep r.dep + 1
  | _ => 1
/-- typed: a number or a truth -/
inductive Ex.Ty : Ex → Bool → Prop
  | a : Ex.Ty .a false
  | n : Ex.Ty .n false
  | num (i : Int) : Ex.Ty (.num i) false
  | eq {l r : Ex} : Ex.Ty l false → Ex.Ty r false → Ex.Ty (.bin .eq l r) true
  | lt {l r : Ex} : Ex.Ty l false → Ex.Ty r false → Ex.Ty (.bin .lt l r) true
  | rem {l r : Ex} : Ex.Ty l false → Ex.Ty r false → Ex.Ty (.bin .rem l r) false
  | and {l r : Ex} : Ex.Ty l true → Ex.Ty r true → Ex.Ty (.bin .and l r) true
  | or {l r : Ex} : Ex.Ty l true → Ex.Ty r true → Ex.Ty (.bin .or l r) true
theorem ty_int {g x : Int} : ∀ {e : Ex}, e.Ty false → ∃ i, e.val g x = .int i
  | _, .a => ⟨_, rfl⟩
  | _, .n => ⟨_, rfl⟩
  | _, .num _ => ⟨_, rfl⟩
  | _, .rem (l := l) (r := r) h1 h2 => by
    obtain ⟨i, e1⟩ := ty_int h1
    obtain ⟨j, e2⟩ := ty_int h2
    refine ⟨restOf i j, ?_⟩
    show opV .rem (l.val g x) (r.val g x) = _
    rw [e1, e2]
    rfl
theorem ty_bl {g x : Int} : ∀ {e : Ex}, e.Ty true → ∃ b, e.val g x = .bl b
  | _, .eq (l := l) (r := r) h1 h2 => by
    obtain ⟨i, e1⟩ := ty_int (g := g) (x := x) h1
    obtain ⟨j, e2⟩ := ty_int (g := g) (x := x) h2
    refine ⟨decide (i = j), ?_⟩
    show opV .eq (l.val g x) (r.val g x) = _
    rw [e1, e2]
    rfl
  | _, .lt (l := l) (r := r) h1 h2 => by
    obtain ⟨i, e1⟩ := ty_int (g := g) (x := x) h1
    obtain ⟨j, e2⟩ := ty_int (g := g) (x := x) h2
    refine ⟨decide (i < j), ?_⟩
    show opV .lt (l.val g x) (r.val g x) = _
    rw [e1, e2]
    rfl
  | _, .and (l := l) (r := r) h1 h2 => by
    obtain ⟨i, e1⟩ := ty_bl (g := g) (x := x) h1
    obtain ⟨j, e2⟩ := ty_bl (g := g) (x := x) h2
    refine ⟨i && j, ?_⟩
    show opV .and (l.val g x) (r.val g x) = _
    rw [e1, e2]
    rfl
  | _, .or (l := l) (r := r) h1 h2 => by
    obtain ⟨i, e1⟩ := ty_bl (g := g) (x := x) h1
    obtain ⟨j, e2⟩ := ty_bl (g := g) (x := x) h2
    refine ⟨i || j, ?_⟩
    show opV .or (l.val g x) (r.val g x) = _
    rw [e1, e2]
    rfl
theorem item_at {items pre post : List Itm} {c : List Itm} {it : Itm} (h : items = pre ++ (c ++ [it]) ++ post) {k : Nat} (hk : k = pre.length + c.length) : (items.map fun it => V.str it.s)[k]? = some (.str it.s) := by
  subst h hk
  rw [List.getElem?_map, List.append_assoc, List.getElem?_append_right (Nat.le_add_right ..), Nat.add_sub_cancel_left, List.append_assoc, List.getElem?_append_right (Nat.le_refl _), Nat.sub_self]
  rfl
section
variable {P : Program} {w : World} {K : PySem.W.Frag} {mg : Str → Option Value} {base : Heap}
def sp_law_part (d : Nat) : PySem.W.Frag → Sp := fun K vs H Q _ => ∃ il, ∃ (items pre post : List Itm) (e : Ex) (b : Bool) (g x : Int), vs = [.ref il, .int ((pre.length + e.code.length - 1 : Nat) : Int), .int g, .int x] ∧ H il = some (.lst (items.map fun it => V.str it.s)) ∧ items = pre ++ e.code ++ post ∧ e.Ty b ∧ e.small ∧ e.dep ≤ d ∧
  ∀ t H', Same H H' → H' t = some (.tup [e.val g x, .int (pre.length : Nat)]) → Q (.ref t) H'
theorem st_law_part (T : TX w K mg) (d : Nat) (ih : C8.Cal P w K mg base d "_law_part" (sp_law_part d K) []) : C8.Cal P w K mg base (d + 1) "_law_part" (sp_law_part (d + 1) K) [] := by
  obtain ⟨f, fd, F, b⟩ := T.d_law_part
  have nd := sc_law_part.nd
  refine C8.cal0 F b .nil sc_law_part (fun vs H Q E h => ?_) (fun cdv A outer s H vs Q E hr h => ?_)
  · obtain ⟨il, items, pre, post, e, b, g, x, rfl, _⟩ := h
    rfl
  · obtain ⟨il, items, pre, post, e, b, g, x, rfl, hil, hit, ty, sm, dep, q⟩ := h
    have hnine : ∀ (H1 : Hp) (p1 : Addr), H1 p1 = some (.tup ((["+", "-", "*", "rem", "=", "<", "and", "or", "not"] : List Str).map V.str)) → SqT K H1 p1 ((["+", "-", "*", "rem", "=", "<", "and", "or", "not"] : List Str).map V.str) := fun _ _ h => SqT.rd h
    refine ⟨_, (pss_cons (ps_set (i := 4) nd rfl (Or.inl rfl) (pe_ix ix_list (pv 0) (pv 1) (fun _ _ => rfl)))
    (pss_cons (ps_if (pt_cmpR op_in_seq (pv 4) (pe_tup (pa_cons pe_str (pa_cons pe_str pa_nil))) (by rfl))
      (pss_one (ps_ret (pe_tup (pa_cons (pe_ifExp (pt_cmpR op_eq (pv 4) pe_str (nomark _)) (pv 3) (pv 2)) (pa_cons (pv 1) pa_nil)))))
      pss_nil)
    (pss_cons (ps_if (pt_cmpR op_notIn_seq (pv 4) (pe_tup (pa_cons pe_str (pa_cons pe_str (pa_cons pe_str (pa_cons pe_str (pa_cons pe_str (pa_cons pe_str (pa_cons pe_str (pa_cons pe_str (pa_cons pe_str pa_nil)))))))))) (by rfl))
      (pss_one (ps_ret (pe_tup (pa_cons (pe_callTy kc_intS (by rfl) T.z_int (by decide +kernel) (pa_cons (pv 4) pa_nil)) (pa_cons (pv 1) pa_nil)))))
      pss_nil)
    (pss_cons (ps_asg (C8.pe_c (ih) hr (Nat.le_refl _) (by rfl) (pa_cons (pv 0) (pa_cons (pe_op op_sub (pv 1) pe_int) (pa_cons (pv 2) (pa_cons (pv 3) pa_nil))))) (pg_2 (K := K) (i := 5) (j := 6) rfl rfl nd rfl (Or.inl rfl) (by first | exact .inl rfl | exact .inr rfl) rfl (Or.inl rfl) (by first | exact .inl rfl | exact .inr rfl) rfl rfl rfl rfl))
    (pss_cons (ps_if (pt_cmpR op_eq (pv 4) pe_str (nomark _))
      (pss_one (ps_ret (pe_tup (pa_cons (pe_not (pv 5)) (pa_cons (pv 6) pa_nil)))))
      pss_nil)
    (pss_cons (ps_asg (C8.pe_c (ih) hr (Nat.le_refl _) (by rfl) (pa_cons (pv 0) (pa_cons (pe_op op_sub (pv 6) pe_int) (pa_cons (pv 2) (pa_cons (pv 3) pa_nil))))) (pg_2 (K := K) (i := 7) (j := 6) rfl rfl nd rfl (Or.inl rfl) (by first | exact .inl rfl | exact .inr rfl) rfl (Or.inl rfl) (by first | exact .inl rfl | exact .inr rfl) rfl rfl rfl rfl))
    (pss_cons (ps_if (pt_cmpR op_in_seq (pv 4) (pe_tup (pa_cons pe_str (pa_cons pe_str pa_nil))) (by rfl))
      (pss_one (ps_ret (pe_tup (pa_cons (pe_ifExp (pt_cmpR op_eq (pv 4) pe_str (nomark _)) (pe_cmpR op_eq (pv 7) (pv 5) (nomark _)) (pe_cmpR op_lt (pv 7) (pv 5) (nomark _))) (pa_cons (pv 6) pa_nil)))))
      pss_nil)
    (pss_cons (ps_if (pt_cmpR op_in_seq (pv 4) (pe_tup (pa_cons pe_str (pa_cons pe_str pa_nil))) (by rfl))
      (pss_one (ps_ret (pe_tup (pa_cons (pe_ifExp (pt_cmpR op_eq (pv 4) pe_str (nomark _)) (pe_and (pv 7) (pe_one (pv 5))) (pe_or (pv 7) (pe_one (pv 5)))) (pa_cons (pv 6) pa_nil)))))
      pss_nil)
    (pss_cons (ps_if (pt_cmpR op_eq (pv 4) pe_str (nomark _))
      (pss_one (ps_ret (pe_tup (pa_cons (pe_ifExp (pt_cmpR op_ne (pv 5) pe_int (nomark _)) (pe_op op_mod (pe_callTy kc_int (by rfl) T.z_int (by decide +kernel) (pa_cons (pv 7) pa_nil)) (pe_callB kc_abs (by rfl) T.z_abs (by decide +kernel) (pa_cons (pv 5) pa_nil))) (pv 7)) (pa_cons (pv 6) pa_nil)))))
      pss_nil)
    (pss_one (ps_ret (pe_tup (pa_cons (pe_ifExp (pt_cmpR op_eq (pv 4) pe_str (nomark _)) (pe_op op_add (pv 7) (pv 5)) (pe_ifExp (pt_cmpR op_eq (pv 4) pe_str (nomark _)) (pe_op op_sub (pv 7) (pv 5)) (pe_op op_mul (pv 7) (pv 5)))) (pa_cons (pv 6) pa_nil)))))))))))))), ?_⟩
    walk_at "st"
    walk_at "rd"
    cases e with
    | a =>
      refine g_ixL (SqL.rd hil) (atI_nat (item_at (c := []) (it := .a) hit (by show pre.length + 1 - 1 = pre.length + 0; omega))) ?_
      walk_at "rd"
      refine ⟨show (2 : Nat) ≤ sizeLine by decide, fun p1 np1 => ?_⟩
      have s1 := Same.upd (o := .tup [.str "a", .str "n"]) np1
      have l1 := upd_same (H := H) (a := p1) (o := .tup [.str "a", .str "n"])
      generalize upd H p1 (.tup [.str "a", .str "n"]) = H1 at s1 l1
      refine g_inT (SqT.rd l1) rfl rfl (b := true) (by decide +kernel) ?_
      walk_at "rd"
      refine ifD_t (by decide +kernel) ?_
      walk_at "rd"
      refine ⟨show (2 : Nat) ≤ sizeLine by decide, fun p2 np2 => ?_⟩
      refine q p2 _ (s1.trans (Same.upd np2)) ?_
      rw [upd_same]
      rfl
    | n =>
      refine g_ixL (SqL.rd hil) (atI_nat (item_at (c := []) (it := .n) hit (by show pre.length + 1 - 1 = pre.length + 0; omega))) ?_
      walk_at "rd"
      refine ⟨show (2 : Nat) ≤ sizeLine by decide, fun p1 np1 => ?_⟩
      have s1 := Same.upd (o := .tup [.str "a", .str "n"]) np1
      have l1 := upd_same (H := H) (a := p1) (o := .tup [.str "a", .str "n"])
      generalize upd H p1 (.tup [.str "a", .str "n"]) = H1 at s1 l1
      refine g_inT (SqT.rd l1) rfl rfl (b := true) (by decide +kernel) ?_
      walk_at "rd"
      refine ifD_f (by decide +kernel) ?_
      walk_at "rd"
      refine ⟨show (2 : Nat) ≤ sizeLine by decide, fun p2 np2 => ?_⟩
      refine q p2 _ (s1.trans (Same.upd np2)) ?_
      rw [upd_same]
      rfl
    | num i =>
      have hs : Itm.s (.num i) = SX.S (numS i) := num_text i
      refine g_ixL (SqL.rd hil) (atI_nat (item_at (c := []) (it := .num i) hit (by show pre.length + 1 - 1 = pre.length + 0; omega))) ?_
      walk_at "rd"
      rw [hs]
      refine ⟨show (2 : Nat) ≤ sizeLine by decide, fun p1 np1 => ?_⟩
      have s1 := Same.upd (o := .tup [.str "a", .str "n"]) np1
      have l1 := upd_same (H := H) (a := p1) (o := .tup [.str "a", .str "n"])
      generalize upd H p1 (.tup [.str "a", .str "n"]) = H1 at s1 l1
      refine g_inT (SqT.rd l1) rfl rfl (b := false) ((inV_strs (l := ["a", "n"])).trans (decide_eq_false fun z => ?_)) ?_
      · simp only [List.mem_cons, List.not_mem_nil, or_false] at z
        rcases z with e | e <;> exact num_not (by decide +kernel) e
      walk_at "rd"
      refine ⟨show (9 : Nat) ≤ sizeLine by decide, fun p2 np2 => ?_⟩
      refine g_ninT (hnine _ p2 upd_same) rfl rfl (b := false) (inV_strs.trans (decide_eq_false (num_noop i))) ?_
      have s2 := s1.trans (Same.upd (o := .tup ((["+", "-", "*", "rem", "=", "<", "and", "or", "not"] : List Str).map V.str)) np2)
      walk_at "rd"
      have hl := numS_len sm.1 sm.2
      refine ⟨_, i, rfl, numS_read i sm.1 sm.2, by rw [SX.S_len]; omega, ?_⟩
      walk_at "rd"
      refine ⟨show (2 : Nat) ≤ sizeLine by decide, fun p3 np3 => ?_⟩
      refine q p3 _ (s2.trans (Same.upd np3)) ?_
      rw [upd_same]
      rfl
    | bin o l r =>
      have hlr : ∃ b', l.Ty b' ∧ r.Ty b' := by
        cases ty with
        | eq h1 h2 => exact ⟨_, h1, h2⟩
        | lt h1 h2 => exact ⟨_, h1, h2⟩
        | rem h1 h2 => exact ⟨_, h1, h2⟩
        | and h1 h2 => exact ⟨_, h1, h2⟩
        | or h1 h2 => exact ⟨_, h1, h2⟩
      obtain ⟨b', tl, tr⟩ := hlr
      have dl : l.dep ≤ d := by
        have h1 : Nat.max l.dep r.dep + 1 ≤ d + 1 := dep
        exact Nat.le_trans (Nat.le_max_left _ _) (Nat.le_of_succ_le_succ h1)
      have dr : r.dep ≤ d := by
        have h1 : Nat.max l.dep r.dep + 1 ≤ d + 1 := dep
        exact Nat.le_trans (Nat.le_max_right _ _) (Nat.le_of_succ_le_succ h1)
      have pl := code_pos l
      have pr := code_pos r
      have hc : (Ex.bin o l r).code = l.code ++ r.code ++ [o.i] := rfl
      rw [hc] at hit
      have hk : pre.length + (Ex.bin o l r).code.length - 1 = pre.length + (l.code ++ r.code).length := by
        rw [hc, List.length_append (as := l.code ++ r.code), List.length_singleton]
        omega
      rw [hk]
      refine g_ixL (SqL.rd hil) (atI_nat (item_at hit rfl)) ?_
      walk_at "rd"
      refine ⟨show (2 : Nat) ≤ sizeLine by decide, fun p1 np1 => ?_⟩
      have s1 := Same.upd (o := .tup [.str "a", .str "n"]) np1
      have l1 := upd_same (H := H) (a := p1) (o := .tup [.str "a", .str "n"])
      generalize upd H p1 (.tup [.str "a", .str "n"]) = H1 at s1 l1
      refine g_inT (SqT.rd l1) rfl rfl (b := false) ((inV_strs (l := ["a", "n"])).trans (by cases o <;> decide +kernel)) ?_
      walk_at "rd"
      refine ⟨show (9 : Nat) ≤ sizeLine by decide, fun p2 np2 => ?_⟩
      refine g_ninT (hnine _ p2 upd_same) rfl rfl (b := true) (inV_strs.trans (by cases o <;> decide +kernel)) ?_
      have s2 := s1.trans (Same.upd (o := .tup [.str "+", .str "-", .str "*", .str "rem", .str "=", .str "<", .str "and", .str "or", .str "not"]) np2)
      generalize upd H1 p2 (.tup [.str "+", .str "-", .str "*", .str "rem", .str "=", .str "<", .str "and", .str "or", .str "not"]) = H2 at s2 ⊢
      walk_at "rd"
      have hk1 : ((pre.length + (l.code ++ r.code).length : Nat) : Int) - 1 = (((pre ++ l.code).length + r.code.length - 1 : Nat) : Int) := by
        rw [List.length_append, List.length_append]
        omega
      rw [hk1]
      refine ⟨il, items, pre ++ l.code, [o.i] ++ post, r, b', g, x, rfl, s2 _ _ hil, by rw [hit]; simp only [List.append_assoc], tr, sm.2, dr, fun t1 H3 s3 l3 => ?_⟩
      walk_at "rd"
      refine ⟨t1, _, rfl, SqT.rd l3, rfl, ?_⟩
      walk_at "rd"
      refine ifD_f (by cases o <;> decide +kernel) ?_
      walk_at "rd"
      have hk2 : (((pre ++ l.code).length : Nat) : Int) - 1 = ((pre.length + l.code.length - 1 : Nat) : Int) := by
        rw [List.length_append]
        omega
      rw [hk2]
      refine ⟨il, items, pre, r.code ++ [o.i] ++ post, l, b', g, x, rfl, s3 _ _ (s2 _ _ hil), by rw [hit]; simp only [List.append_assoc], tl, sm.1, dl, fun t2 H4 s4 l4 => ?_⟩
      walk_at "rd"
      refine ⟨t2, _, rfl, SqT.rd l4, rfl, ?_⟩
      have s24 := (s2.trans s3).trans s4
      walk_at "rd"
      cases ty with
      | eq h1 h2 =>
        obtain ⟨u, hu⟩ := ty_int (g := g) (x := x) h1
        obtain ⟨v, hv⟩ := ty_int (g := g) (x := x) h2
        have hval : (Ex.bin .eq l r).val g x = .bl (decide (u = v)) := by
          show opV .eq (l.val g x) (r.val g x) = _
          rw [hu, hv]
          rfl
        rw [hval] at q
        rw [hu, hv]
        refine ⟨show (2 : Nat) ≤ sizeLine by decide, fun p4 np4 => ?_⟩
        refine g_inT (SqT.rd (xs := [.str "=", .str "<"]) upd_same) rfl rfl (b := true) (by decide +kernel) ?_
        walk_at "rd"
        refine ifD_t (by decide +kernel) ?_
        walk_at "rd"
        refine ⟨show (2 : Nat) ≤ sizeLine by decide, fun p9 np9 => ?_⟩
        exact q p9 _ ((s24.trans (Same.upd np4)).trans (Same.upd np9)) upd_same
      | lt h1 h2 =>
        obtain ⟨u, hu⟩ := ty_int (g := g) (x := x) h1
        obtain ⟨v, hv⟩ := ty_int (g := g) (x := x) h2
        have hval : (Ex.bin .lt l r).val g x = .bl (decide (u < v)) := by
          show opV .lt (l.val g x) (r.val g x) = _
          rw [hu, hv]
          rfl
        rw [hval] at q
        rw [hu, hv]
        refine ⟨show (2 : Nat) ≤ sizeLine by decide, fun p4 np4 => ?_⟩
        refine g_inT (SqT.rd (xs := [.str "=", .str "<"]) upd_same) rfl rfl (b := true) (by decide +kernel) ?_
        walk_at "rd"
        refine ifD_f (by decide +kernel) ?_
        walk_at "rd"
        refine ⟨show (2 : Nat) ≤ sizeLine by decide, fun p9 np9 => ?_⟩
        exact q p9 _ ((s24.trans (Same.upd np4)).trans (Same.upd np9)) upd_same
      | rem h1 h2 =>
        obtain ⟨u, hu⟩ := ty_int (g := g) (x := x) h1
        obtain ⟨v, hv⟩ := ty_int (g := g) (x := x) h2
        have hval : (Ex.bin .rem l r).val g x = .int (restOf u v) := by
          show opV .rem (l.val g x) (r.val g x) = _
          rw [hu, hv]
          rfl
        rw [hval] at q
        rw [hu, hv]
        refine ⟨show (2 : Nat) ≤ sizeLine by decide, fun p4 np4 => ?_⟩
        refine g_inT (SqT.rd (xs := [.str "=", .str "<"]) upd_same) rfl rfl (b := false) (by decide +kernel) ?_
        walk_at "rd"
        refine ⟨show (2 : Nat) ≤ sizeLine by decide, fun p5 np5 => ?_⟩
        refine g_inT (SqT.rd (xs := [.str "and", .str "or"]) upd_same) rfl rfl (b := false) (by decide +kernel) ?_
        walk_at "rd"
        refine ifD_t (by decide +kernel) ?_
        have s25 := (s24.trans (Same.upd (o := .tup [.str "=", .str "<"]) np4)).trans (Same.upd (o := .tup [.str "and", .str "or"]) np5)
        walk_at "rd"
        unfold restOf at q
        by_cases hz : v = 0
        · rw [if_pos hz] at q
          refine ifB_f (by rw [decide_eq_true hz]; rfl) ?_
          walk_at "rd"
          refine ⟨show (2 : Nat) ≤ sizeLine by decide, fun p9 np9 => ?_⟩
          exact q p9 _ (s25.trans (Same.upd np9)) upd_same
        · rw [if_neg hz] at q
          refine ifB_t (by rw [decide_eq_false hz]; rfl) ?_
          walk_at "rd"
          refine ⟨show (2 : Nat) ≤ sizeLine by decide, fun p9 np9 => ?_⟩
          exact q p9 _ (s25.trans (Same.upd np9)) upd_same
      | and h1 h2 =>
        obtain ⟨u, hu⟩ := ty_bl (g := g) (x := x) h1
        obtain ⟨v, hv⟩ := ty_bl (g := g) (x := x) h2
        have hval : (Ex.bin .and l r).val g x = .bl (u && v) := by
          show opV .and (l.val g x) (r.val g x) = _
          rw [hu, hv]
          rfl
        rw [hval] at q
        rw [hu, hv]
        refine ⟨show (2 : Nat) ≤ sizeLine by decide, fun p4 np4 => ?_⟩
        refine g_inT (SqT.rd (xs := [.str "=", .str "<"]) upd_same) rfl rfl (b := false) (by decide +kernel) ?_
        walk_at "rd"
        refine ⟨show (2 : Nat) ≤ sizeLine by decide, fun p5 np5 => ?_⟩
        refine g_inT (SqT.rd (xs := [.str "and", .str "or"]) upd_same) rfl rfl (b := true) (by decide +kernel) ?_
        have s25 := (s24.trans (Same.upd (o := .tup [.str "=", .str "<"]) np4)).trans (Same.upd (o := .tup [.str "and", .str "or"]) np5)
        walk_at "rd"
        refine ifD_t (by decide +kernel) ?_
        walk_at "rd"
        cases u with
        | true =>
          walk_at "rd"
          refine ⟨show (2 : Nat) ≤ sizeLine by decide, fun p9 np9 => ?_⟩
          exact q p9 _ (s25.trans (Same.upd np9)) upd_same
        | false =>
          walk_at "rd"
          refine ⟨show (2 : Nat) ≤ sizeLine by decide, fun p9 np9 => ?_⟩
          exact q p9 _ (s25.trans (Same.upd np9)) upd_same
      | or h1 h2 =>
        obtain ⟨u, hu⟩ := ty_bl (g := g) (x := x) h1
        obtain ⟨v, hv⟩ := ty_bl (g := g) (x := x) h2
        have hval : (Ex.bin .or l r).val g x = .bl (u || v) := by
          show opV .or (l.val g x) (r.val g x) = _
          rw [hu, hv]
          rfl
        rw [hval] at q
        rw [hu, hv]
        refine ⟨show (2 : Nat) ≤ sizeLine by decide, fun p4 np4 => ?_⟩
        refine g_inT (SqT.rd (xs := [.str "=", .str "<"]) upd_same) rfl rfl (b := false) (by decide +kernel) ?_
        walk_at "rd"
        refine ⟨show (2 : Nat) ≤ sizeLine by decide, fun p5 np5 => ?_⟩
        refine g_inT (SqT.rd (xs := [.str "and", .str "or"]) upd_same) rfl rfl (b := true) (by decide +kernel) ?_
        have s25 := (s24.trans (Same.upd (o := .tup [.str "=", .str "<"]) np4)).trans (Same.upd (o := .tup [.str "and", .str "or"]) np5)
        walk_at "rd"
        refine ifD_f (by decide +kernel) ?_
        walk_at "rd"
        cases u with
        | true =>
          walk_at "rd"
          refine ⟨show (2 : Nat) ≤ sizeLine by decide, fun p9 np9 => ?_⟩
          exact q p9 _ (s25.trans (Same.upd np9)) upd_same
        | false =>
          walk_at "rd"
          refine ⟨show (2 : Nat) ≤ sizeLine by decide, fun p9 np9 => ?_⟩
          exact q p9 _ (s25.trans (Same.upd np9)) upd_same
theorem c_law_part (T : TX w K mg) : ∀ d, C8.Cal P w K mg base d "_law_part" (sp_law_part d K) []
  | 0 => by
    obtain ⟨f, fd, F, b⟩ := T.d_law_part
    have no : ∀ vs H Q E, sp_law_part 0 K vs H Q E → False := by
      rintro vs H Q E ⟨il, items, pre, post, e, b, g, x, _, _, _, _, _, dep, _⟩
      cases e <;> exact absurd dep (by simp [Ex.dep])
    exact ⟨f, fd, _, [], ⟨fun vs H Q E h => (no _ _ _ _ h).elim, fun A outer s H args us vs Q E _ _ _ _ h => (no _ _ _ _ h).elim⟩, F.mgf, F.kp, b, .nil⟩
  | d + 1 => st_law_part T d (c_law_part T d)
end
end Dt
set_option Elab.async false
set_option linter.all false
set_option maxRecDepth 100000
set_option maxHeartbeats 4000000
/-! F32: _law_trial. -/
namespace Dt
open PySem PySem.Spec L2
/-! ### what the law's own running sees of a trial -/
section
variable {p : List Str} {cost : Nat} {R : Int → Bool} {g : Int}
theorem trAt_succ {n : Nat} : trAt p cost R g (n + 1) = (triedF p cost R (trAt p cost R g n)).2 := rfl
theorem tr_step {n : Nat} (h : (trAt p cost R g n).waits = 0) : hit p cost R g n = false ∧ trAt p cost R g (n + 1) = ⟨(adv p (trAt p cost R g n).run).2, if (adv p (trAt p cost R g n).run).1 = none then 0 else cost, (adv p (trAt p cost R g n).run).1⟩ := by
  have e : triedF p cost R (trAt p cost R g n) = (false, ⟨(adv p (trAt p cost R g n).run).2, if (adv p (trAt p cost R g n).run).1 = none then 0 else cost, (adv p (trAt p cost R g n).run).1⟩) := by
    unfold triedF
    rw [if_pos h]
  exact ⟨by show (triedF p cost R (trAt p cost R g n)).1 = false; rw [e], by rw [trAt_succ, e]⟩
theorem tr_wait {n w : Nat} {r : RunS} {a : Option Int} (h : trAt p cost R g n = ⟨r, w + 1, a⟩) : hit p cost R g n = (decide (w = 0) && R (a.getD 0)) ∧ trAt p cost R g (n + 1) = ⟨r, w, a⟩ := by
  have e : triedF p cost R (trAt p cost R g n) = (decide (w = 0) && R (a.getD 0), ⟨r, w, a⟩) := by
    unfold triedF
    rw [h, if_neg (Nat.succ_ne_zero w)]
    rfl
  exact ⟨by show (triedF p cost R (trAt p cost R g n)).1 = _; rw [e], by rw [trAt_succ, e]⟩
/-- a fallen run never says anything more -/
theorem tr_stuck {n : Nat} (h : (trAt p cost R g n).waits = 0) (hf : (trAt p cost R g n).run.fallen = true) : ∀ j, hit p cost R g (n + j) = false := by
  have key : ∀ j, (trAt p cost R g (n + j)).waits = 0 ∧ (trAt p cost R g (n + j)).run.fallen = true := by
    intro j
    induction j with
    | zero => exact ⟨h, hf⟩
    | succ j ih =>
      have ha : adv p (trAt p cost R g (n + j)).run = (none, (trAt p cost R g (n + j)).run) := by
        unfold adv
        rw [if_pos ih.2]
      have e := (tr_step (p := p) (cost := cost) (R := R) (g := g) ih.1).2
      rw [ha] at e
      rw [← Nat.add_assoc, e]
      exact ⟨rfl, ih.2⟩
  exact fun j => (tr_step (key j).1).1
theorem tr_waits {n : Nat} {r : RunS} {x : Int} (h : trAt p cost R g (n + 1) = ⟨r, cost, some x⟩) : ∀ j, j ≤ cost → trAt p cost R g (n + 1 + j) = ⟨r, cost - j, some x⟩ := by
  intro j
  induction j with
  | zero => intro _; exact h
  | succ j ih =>
    intro hj
    have e := ih (by omega)
    have hw : cost - j = (cost - (j + 1)) + 1 := by omega
    rw [hw] at e
    exact (tr_wait e).2
theorem tr_hits {n : Nat} {r : RunS} {x : Int} (h : trAt p cost R g (n + 1) = ⟨r, cost, some x⟩) {j : Nat} (hj : j < cost) : hit p cost R g (n + 1 + j) = (decide (j + 1 = cost) && R x) := by
  have e := tr_waits h j (by omega)
  have hw : cost - j = (cost - (j + 1)) + 1 := by omega
  rw [hw] at e
  rw [(tr_wait e).1]
  congr 1
  exact decide_eq_decide.mpr (by omega)
theorem adv_none {s : RunS} (h : s.fallen = false) (hn : (adv p s).1 = none) : (adv p s).2.fallen = !boxOk (adv p s).2.left := by
  unfold adv at hn ⊢
  rw [if_neg (by rw [h]; decide)] at hn ⊢
  by_cases e1 : wordAt p s.spot = ("say" : Str)
  · rw [if_pos e1] at hn
    cases hn
  · rw [if_neg e1]
    by_cases e2 : wordAt p s.spot = ("swap" : Str)
    · rw [if_pos e2]
    · rw [if_neg e2]
theorem adv_some {s : RunS} {x : Int} (h : s.fallen = false) (hn : (adv p s).1 = some x) : (adv p s).2.fallen = false ∧ (adv p s).2.left = s.left := by
  unfold adv at hn ⊢
  rw [if_neg (by rw [h]; decide)] at hn ⊢
  by_cases e1 : wordAt p s.spot = ("say" : Str)
  · rw [if_pos e1]
    exact ⟨h, rfl⟩
  · rw [if_neg e1] at hn
    by_cases e2 : wordAt p s.spot = ("swap" : Str)
    · rw [if_pos e2] at hn
      cases hn
    · rw [if_neg e2] at hn
      cases hn
theorem box_abs {i : Int} : decide ((if i < 0 then -i else i) > 10 ^ (18 : Int).toNat) = !boxOk i := by
  have e : (10 : Int) ^ (18 : Int).toNat = 1000000000000000000 := by decide
  rw [e]
  cases hb : boxOk i with
  | true =>
    have h := boxOk_iff.mp hb
    refine decide_eq_false ?_
    by_cases hi : i < 0
    · rw [if_pos hi]; omega
    · rw [if_neg hi]; omega
  | false =>
    refine decide_eq_true ?_
    have h : ¬ (-1000000000000000000 ≤ i ∧ i ≤ 1000000000000000000) := fun z => by rw [boxOk_iff.mpr z] at hb; cases hb
    by_cases hi : i < 0
    · rw [if_pos hi]; omega
    · rw [if_neg hi]; omega
end
local macro_rules | `(tactic| walk_at "st") => `(tactic| (simp only [L2.start, List.map_cons, List.map_nil, List.length_cons, List.length_nil, List.replicate_succ, List.replicate_zero, List.cons_append, List.nil_append, Nat.zero_add, Nat.reduceAdd, Nat.reduceSub]))
local macro_rules | `(tactic| walk_at "r1") => `(tactic| with_reducible first
  | refine g_seq ?_
  | refine g_next ?_
  | refine g_asg ?_
  | refine g_ifS ?_
  | refine g_ret ?_
  | refine g_retN ?_
  | refine g_drop ?_
  | refine g_brk ?_
  | refine g_c ?_
  | refine g_op ?_
  | refine g_un ?_
  | refine g_I0 ?_
  | refine g_U ?_
  | refine g_eqI ?_
  | refine g_neI ?_
  | refine g_eqS ?_
  | refine g_neS ?_
  | refine g_test ?_
  | refine g_B ?_
  | refine g_bl ?_
  | refine g_if ?_
  | refine g_not ?_
  | refine g_and ?_
  | refine g_or ?_
  | refine g_andV ?_
  | refine g_orV ?_
  | refine g_notV ?_
  | refine g_blif ?_
  | refine g_chain ?_
  | refine g_nil ?_
  | refine g_cons ?_
  | refine g_cb ?_
  | refine g_call ?_
  | refine g_tup ?_
  | refine g_lst ?_
  | refine g_tfld ?_
  | refine g_dget ?_
  | refine g_mk ?_
  | refine g_lc2 ?_
  | refine g_gfld ?_
  | refine g_meth ?_
  | refine g_sfld ?_
  | refine g_din ?_
  | refine g_dput ?_
  | refine g_isN_int ?_
  | refine g_isN_str ?_
  | refine g_isN_ref ?_
  | refine g_isN_non ?_
  | refine g_nN_int ?_
  | refine g_nN_str ?_
  | refine g_nN_ref ?_
  | refine g_nN_non ?_
  | refine g_lc ?_
  | refine g_dc ?_
  | refine g_for ?_
  | refine g_iStr ?_
  | refine g_iList ?_
  | refine g_iTup ?_
  | refine g_iR1 ?_
  | refine g_iR2 ?_
  | refine g_iR3 ?_
  | refine g_iEnum ?_
  | refine g_iZip ?_
  | refine g_iZipA ?_
  | refine g_bm ?_
  | refine g_bm0 ?_
  | refine g_m1 ?_
  | refine g_sl ?_
  | refine g_poN ?_
  | refine g_poS ?_
  | refine g_poI ?_
  | refine g_yes ?_
  | refine g_gtup ?_
  | refine g_gcons ?_
  | refine g_gnil ?_
  | refine g_par ?_
  | refine g_isi_ii ?_
  | refine g_isi_ib ?_
  | refine g_isi_ss ?_
  | refine g_inC ?_
  | refine g_int1 ?_
  | refine g_int1b ?_
  | refine g_abs ?_
  | refine g_ltS ?_
  | refine iteT ?_
  | refine iteNT ?_
  | refine iteNF ?_
  | refine iteF ?_)
local macro_rules | `(tactic| walk_at "sd") => `(tactic| first | assumption | rfl | decide | omega)
local macro_rules | `(tactic| walk_at "hp") => `(tactic| first | assumption | exact upd_same | exact Same.get (by assumption) (by walk_at "hp") | exact Off.get (by assumption) (by walk_at "hp") (by walk_at "ne"))
local macro_rules | `(tactic| walk_at "ne") => `(tactic| first | assumption | (refine Ne.symm ?_; assumption) | exact ne_of_none (by walk_at "hp") (by assumption) | exact ne_none (by walk_at "hp") (by assumption) | exact ne_of (by walk_at "hp") (by walk_at "hp") (by intro z; cases z))
local macro_rules | `(tactic| walk_at "sq") => `(tactic| first | assumption | exact SqL.rd (by walk_at "hp") | exact SqT.rd (by walk_at "hp") | exact Same.seq (by assumption) (by walk_at "sq") | exact Same.seqT (by assumption) (by walk_at "sq"))
local macro_rules | `(tactic| walk_at "rI") => `(tactic| ((with_reducible refine g_I ?_ ?_); (focus (first | (refine Or.inl ⟨?_, ?_⟩ <;> (first | decide | omega)) | (refine Or.inr ⟨?_, ?_⟩ <;> (first | decide | omega)) | (show (0 : Int) < _; first | decide | omega | assumption) | (refine And.intro ?_ ?_ <;> (first | decide | omega | (refine And.intro ?_ ?_ <;> (first | decide | omega))))))))
local macro_rules | `(tactic| walk_at "r2") => `(tactic| first
  | ((with_reducible refine g_tvar ?_); (refine ⟨_, rfl, ?_⟩))
  | ((with_reducible refine g_name' (σ' := ?s) ?e ?h); (case e => (simp only [wipe, List.set_cons_zero, List.set_cons_succ]; first | done | rfl)))
  | (refine And.intro (show wipe _ _ = wipe _ _ from rfl) ?_)
  | walk_at "rI")
local macro_rules | `(tactic| walk_at "rd") => `(tactic| repeat (first | walk_at "r1" | walk_at "r2"))
local macro_rules | `(tactic| walk_at "gn") => `(tactic| (intro pA hA; generalize hG : upd _ _ _ = H2A; (have sA : Same _ H2A := hG ▸ Same.upd hA); (have lA : H2A pA = some _ := hG ▸ upd_same); clear hG))
local macro_rules | `(tactic| walk_at "mk") => `(tactic| (intro xM dxM h1M h2M hneM; generalize hG : upd (upd _ _ _) _ _ = HM; (have sM : Same _ HM := hG ▸ Same.updW (Same.upd h2M) h1M); (have lM : HM xM = some _ := hG ▸ upd_same); clear hG))
section
variable {P : Program} {w : World} {K : PySem.W.Frag} {mg : Str → Option Value} {base : Heap}
/-- the answer is found with step many, and with no lesser one -/
def FirstHit (ws : List Str) (cost : Nat) (R : Int → Bool) (g : Int) (many : Nat) : Prop := 1 ≤ many ∧ hit ws cost R g (many - 1) = true ∧ ∀ m, m < many - 1 → hit ws cost R g m = false
def sp_law_trial : PySem.W.Frag → Sp := fun K vs H Q _ => ∃ p il, ∃ (ws : List Str) (items : List Itm) (e : Ex) (R : Int → Bool) (g : Int) (many : Nat), vs = [.ref p, .ref il, .int g, .int many] ∧ H p = some (.tup (ws.map V.str)) ∧ ws.length ≤ 200 ∧ H il = some (.lst (items.map fun it => V.str it.s)) ∧
  items = e.code ∧ items.length ≤ 9 ∧ e.Ty true ∧ e.small ∧ e.dep ≤ 4 ∧ (∀ v, e.val g v = .bl (R v)) ∧ -1000000000000000000 ≤ g ∧ g ≤ 1000000000000000000 ∧ FirstHit ws items.length R g many ∧ many < 2 ^ 60 ∧
  ∀ t x H', Same H H' → (trAt ws items.length R g many).ans = some x → H' t = some (.tup [.int many, .int x]) → Q (.ref t) H'
def TrW (p il b : Addr) (ws : List Str) (cost : Nat) (R : Int → Bool) (g : Int) (many : Nat) (H1 : Hp) : Nat → St → Hp → Prop := fun m σ H' =>
  Same H1 H' ∧ ∃ (n : Nat) (z : Option V), σ = [some (.ref p), some (.ref il), some (.int g), some (.int many), some (.ref b), some (.int (trAt ws cost R g n).run.spot), some (.int n), some (.bl false), z] ∧ m = many - n ∧ n < many ∧
    (trAt ws cost R g n).waits = 0 ∧ (trAt ws cost R g n).run.fallen = false ∧ H' b = some (.lst [.int (trAt ws cost R g n).run.left, .int (trAt ws cost R g n).run.right])
theorem c_law_trial (T : TX w K mg) : C8.Cal P w K mg base 5 "_law_trial" (sp_law_trial K) [] := by
  obtain ⟨f, fd, F, b⟩ := T.d_law_trial
  have nd := sc_law_trial.nd
  refine C8.cal0 F b .nil sc_law_trial (fun vs H Q E h => ?_) (fun cdv A outer s H vs Q E hr h => ?_)
  · obtain ⟨p, il, ws, items, e, R, g, many, rfl, _⟩ := h
    rfl
  · obtain ⟨p, il, ws, items, e, R, g, many, rfl, hp, h200, hil, hit0, h9, ty, sm, dep, hR, g1, g2, fh, hmany, q⟩ := h
    have hc1 : 1 ≤ items.length := by rw [hit0]; exact code_pos e
    have ok := tr_ok (p := ws) (right := R) hc1 ⟨g1, g2⟩
    refine ⟨_, (pss_cons (ps_asg (pe_tup (pa_cons (pe_lst (pa_cons pe_int (pa_cons (pv 2) pa_nil))) (pa_cons pe_int (pa_cons pe_int (pa_cons pe_bl pa_nil))))) (pg_tup rfl (pgs_cons (pg_name (i := 4) nd rfl (Or.inl rfl)) (pgs_cons (pg_name (i := 5) nd rfl (Or.inl rfl)) (pgs_cons (pg_name (i := 6) nd rfl (Or.inl rfl)) (pgs_cons (pg_name (i := 7) nd rfl (Or.inl rfl)) pgs_nil))))))
    (pss_cons (ps_while PassesOwn.never (PW.pt (pw_and (pt_cmpR op_lt (pv 6) (pv 3) (nomark _)) (pw_and1 (pt_not (pt_val (pv 7))))))
      (pss_cons (ps_asg (C8.pe_c (c_law_word T) hr (by decide) (by rfl) (pa_cons (pv 0) (pa_cons (pv 4) (pa_cons (pv 5) pa_nil)))) (pg_2 (K := K) (i := 8) (j := 5) rfl rfl nd rfl (Or.inl rfl) (by first | exact .inl rfl | exact .inr rfl) rfl (Or.inl rfl) (by first | exact .inl rfl | exact .inr rfl) rfl rfl rfl rfl))
      (pss_cons (ps_par (i := 6) (j := 7) rfl nd rfl rfl (by decide) rfl rfl (pa_cons (pe_op op_add (pv 6) pe_int) (pa_cons (pe_cmpR op_gt (pe_callB kc_abs (by rfl) T.z_abs (by decide +kernel) (pa_cons (pe_ix ix_list (pv 4) pe_int (fun _ _ => rfl)) pa_nil)) (pe_op op_pow pe_int pe_int) (nomark _)) pa_nil)) (by rfl))
      (pss_one (ps_if (pt_cmpR op_notN1 (pv 8) pe_non (nomark _))
        (pss_cons (ps_set (i := 6) nd rfl (Or.inl rfl) (pe_op op_add (pv 6) (pe_callB kc_len (by rfl) T.z_len (by decide +kernel) (pa_cons (pv 1) pa_nil))))
        (pss_one (ps_if (PW.pt (pw_and (pt_cmpR op_le (pv 6) (pv 3) (nomark _)) (pw_and1 (pt_val (pe_ix ix_tup (C8.pe_c (c_law_part T 4) hr (by decide) (by rfl) (pa_cons (pv 1) (pa_cons (pe_op op_sub (pe_callB kc_len (by rfl) T.z_len (by decide +kernel) (pa_cons (pv 1) pa_nil)) pe_int) (pa_cons (pv 2) (pa_cons (pv 8) pa_nil))))) pe_int (fun _ _ => rfl))))))
          (pss_one (ps_ret (pe_tup (pa_cons (pv 6) (pa_cons (pv 8) pa_nil)))))
          pss_nil)))
        pss_nil)))))
    (pss_one (ps_ret pe_non)))), ?_⟩
    walk_at "st"
    walk_at "rd"
    refine ⟨show (2 : Nat) ≤ sizeLine by decide, fun b nb => ?_⟩
    have s1 := Same.upd (o := .lst [.int 0, .int g]) nb
    have l1 := upd_same (H := H) (a := b) (o := .lst [.int 0, .int g])
    generalize upd H b (.lst [.int 0, .int g]) = H1 at s1 l1
    walk_at "rd"
    refine ⟨show (4 : Nat) ≤ sizeLine by decide, fun t0 nt0 => ?_⟩
    have s2 := Same.upd (o := .tup [.ref b, .int 0, .int 0, .bl false]) nt0
    have l2 := upd_same (H := H1) (a := t0) (o := .tup [.ref b, .int 0, .int 0, .bl false])
    generalize upd H1 t0 (.tup [.ref b, .int 0, .int 0, .bl false]) = H2 at s2 l2
    refine ⟨t0, _, rfl, SqT.rd l2, rfl, ?_⟩
    walk_at "rd"
    refine g_while ⟨TrW p il b ws items.length R g many H, ⟨many - 0, s1.trans s2, 0, none, rfl, rfl, fh.1, rfl, rfl, s2 _ _ l1⟩, fun m σ H3 hw => ?_⟩
    obtain ⟨s3, n, z, rfl, rfl, hn, hwt, hfl, hb⟩ := hw
    walk_at "rd"
    refine ifD_t (by omega) ?_
    walk_at "rd"
    refine ⟨fun σ H' => ∃ m', m' < many - n ∧ TrW p il b ws items.length R g many H m' σ H', fun σ' H' h => h, ?_⟩
    walk_at "rd"
    obtain ⟨hst1, hst2⟩ := tr_step (p := ws) (cost := items.length) (R := R) (g := g) hwt
    refine ⟨p, b, ws, (trAt ws items.length R g n).run, rfl, s3 _ _ hp, h200, hb, (ok n).1, hfl, fun t1 H4 o4 hb4 ht4 => ?_⟩
    have s4 : Same H H4 := Off.to s3 o4 nb
    have nofall : ∀ k, k < many → (trAt ws items.length R g k).waits = 0 → (trAt ws items.length R g k).run.fallen = false := by
      intro k hk h1
      cases hf : (trAt ws items.length R g k).run.fallen with
      | false => rfl
      | true =>
        have z := tr_stuck h1 hf (many - 1 - k)
        rw [show k + (many - 1 - k) = many - 1 by omega, fh.2.1] at z
        cases z
    have hn1 : n + 1 < many := by
      rcases Nat.lt_or_ge (n + 1) many with z | z
      · exact z
      · have e1 : n = many - 1 := by omega
        rw [e1] at hst1
        rw [fh.2.1] at hst1
        cases hst1
    walk_at "rd"
    refine ⟨t1, _, rfl, SqT.rd ht4, rfl, ?_⟩
    walk_at "rd"
    refine g_ixL (SqL.rd hb4) (atI_nat (j := 0) rfl) ?_
    walk_at "rd"
    refine ⟨_, _, rfl, ?_⟩
    have hdn : decide ((10 : Int) ^ (18 : Int).toNat < if (adv ws (trAt ws items.length R g n).run).2.left < 0 then -(adv ws (trAt ws items.length R g n).run).2.left else (adv ws (trAt ws items.length R g n).run).2.left) = !boxOk (adv ws (trAt ws items.length R g n).run).2.left := box_abs
    rw [hdn]
    cases ha : (adv ws (trAt ws items.length R g n).run).1 with
    | none =>
      rw [ha, if_pos rfl] at hst2
      have hfl2 := adv_none hfl ha
      have hw1 : (trAt ws items.length R g (n + 1)).waits = 0 := by rw [hst2]
      have hf1 := nofall (n + 1) hn1 hw1
      rw [hst2] at hf1
      have hf1' : (adv ws (trAt ws items.length R g n).run).2.fallen = false := hf1
      rw [← hfl2, hf1']
      rw [show optV none = V.non from rfl]
      walk_at "rd"
      exact ⟨many - (n + 1), by omega, s4, n + 1, some .non, by rw [hst2]; rfl, rfl, hn1, hw1, by rw [hst2]; exact hf1', by rw [hst2]; exact hb4⟩
    | some x =>
      rw [ha, if_neg (by simp)] at hst2
      obtain ⟨hf2, hl2⟩ := adv_some hfl ha
      have hbx : boxOk (adv ws (trAt ws items.length R g n).run).2.left = true := by
        rw [hl2]
        exact ((ok n).1.2 hfl).1
      rw [hbx]
      rw [show optV (some x) = V.int x from rfl]
      -- the hits of the waiting
      have hh : ∀ j, j < items.length → hit ws items.length R g (n + 1 + j) = (decide (j + 1 = items.length) && R x) := fun j hj => tr_hits hst2 hj
      have hlow : ∀ k, k < n + items.length → hit ws items.length R g k = true → False := by
        intro k hk hkt
        rcases Nat.lt_or_ge k (many - 1) with z | z
        · rw [fh.2.2 k z] at hkt
          cases hkt
        · have ek : many - 1 ≤ k := z
          rcases Nat.lt_or_ge n (many - 1) with z2 | z2
          · have e1 := hh (many - 1 - (n + 1)) (by omega)
            rw [show n + 1 + (many - 1 - (n + 1)) = many - 1 by omega, fh.2.1, decide_eq_false (by omega)] at e1
            cases e1
          · omega
      have hge : n + items.length ≤ many - 1 := by
        rcases Nat.lt_or_ge (many - 1) (n + items.length) with z | z
        · exact (hlow _ z fh.2.1).elim
        · exact z
      have hlast := hh (items.length - 1) (by omega)
      rw [show n + 1 + (items.length - 1) = n + items.length by omega, decide_eq_true (by omega), Bool.true_and] at hlast
      walk_at "rd"
      refine g_lenL (SqL.rd (s4 _ _ hil)) ?_
      rw [List.length_map]
      walk_at "rd"
      refine ifD_t (by omega) ?_
      walk_at "rd"
      refine g_lenL (SqL.rd (s4 _ _ hil)) ?_
      rw [List.length_map]
      walk_at "rd"
      have hk0 : ((items.length : Nat) : Int) - 1 = (((([] : List Itm).length + e.code.length - 1 : Nat)) : Int) := by
        rw [hit0, List.length_nil]
        have := code_pos e
        omega
      rw [hk0]
      refine ⟨il, items, [], [], e, true, g, x, rfl, s4 _ _ hil, by rw [hit0]; simp, ty, sm, dep, fun t5 H5 s5 l5 => ?_⟩
      rw [hR x] at l5
      walk_at "rd"
      refine g_ixT (SqT.rd l5) (atI_nat (j := 0) rfl) ?_
      cases hRx : R x with
      | true =>
        rw [hRx] at hlast
        have hend : n + items.length = many - 1 := by
          rcases Nat.lt_or_ge (n + items.length) (many - 1) with z | z
          · rw [fh.2.2 _ z] at hlast
            cases hlast
          · omega
        walk_at "rd"
        refine ⟨show (2 : Nat) ≤ sizeLine by decide, fun t nt => ?_⟩
        have hm : ((n : Int) + 1) + (items.length : Int) = (many : Int) := by omega
        refine q t x _ ((s4.trans s5).trans (Same.upd nt)) ?_ (by rw [upd_same, hm])
        have e1 := tr_waits hst2 items.length (Nat.le_refl _)
        rw [show n + 1 + items.length = many by omega] at e1
        rw [e1]
      | false =>
        rw [hRx] at hlast
        have hend : n + items.length < many - 1 := by
          rcases Nat.lt_or_ge (n + items.length) (many - 1) with z | z
          · exact z
          · rw [show n + items.length = many - 1 by omega, fh.2.1] at hlast
            cases hlast
        walk_at "rd"
        have e1 := tr_waits hst2 items.length (Nat.le_refl _)
        rw [Nat.sub_self] at e1
        refine ⟨many - (n + 1 + items.length), by omega, s4.trans s5, n + 1 + items.length, some (.int x), by rw [e1]; rfl, rfl, by omega, by rw [e1], by rw [e1]; exact hf2, by rw [e1]; exact s5 _ _ hb4⟩
end
end Dt
set_option Elab.async false
set_option linter.all false
set_option maxRecDepth 100000
set_option maxHeartbeats 4000000
/-! F33: _law_names. -/
namespace Dt
open PySem PySem.Spec L2
theorem shaped_strs (l : List Str) (h : ∀ x ∈ l, ∀ c ∈ x.cps.toList, c < 0x110000) : SeqAt.shaped (.list (l.map PyData.str)) = true := by
  have h1 : ∀ l : List Str, (∀ x ∈ l, ∀ c ∈ x.cps.toList, c < 0x110000) → PyData.canLayAll0 (l.map PyData.str) = true := by
    intro l
    induction l with
    | nil => intro _; rfl
    | cons a l ih =>
      intro h
      have ha : PyData.strOk a = true := by
        unfold PyData.strOk
        rw [Array.all_eq_true']
        intro c hc
        exact decide_eq_true (h a (.head _) c (by simpa using hc))
      simp [PyData.canLayAll0, PyData.canLay0, ih fun x hx => h x (.tail _ hx), ha]
  have h2 : ∀ l : List Str, PyData.depthAll (l.map PyData.str) ≤ 0 := by
    intro l
    induction l with
    | nil => exact Nat.zero_le _
    | cons a l ih =>
      rw [List.map_cons]
      show max (PyData.depth (.str a)) (PyData.depthAll _) ≤ 0
      exact Nat.max_le.mpr ⟨Nat.zero_le _, ih⟩
  unfold SeqAt.shaped
  have e : PyData.canLay0 (.list (l.map PyData.str)) = true := h1 l h
  rw [e, Bool.true_and]
  refine decide_eq_true ?_
  show PyData.depthAll _ + 1 ≤ 64
  have := h2 l
  omega
theorem dp_strs {K : PySem.W.Frag} {H : Hp} : ∀ l : List Str, DpAll K H (l.map V.str) (l.map PyData.str)
  | [] => .nil
  | x :: l => .cons (.str x) (dp_strs l)
theorem bin_ok {l : List Str} (h : ∀ x ∈ l, bin x) : ∀ x ∈ l, ∀ c ∈ x.cps.toList, c < 0x110000 := by
  intro x hx c hc
  rcases h x hx c hc with rfl | rfl <;> decide
local macro_rules | `(tactic| walk_at "st") => `(tactic| (simp only [L2.start, List.map_cons, List.map_nil, List.length_cons, List.length_nil, List.replicate_succ, List.replicate_zero, List.cons_append, List.nil_append, Nat.zero_add, Nat.reduceAdd, Nat.reduceSub]))
local macro_rules | `(tactic| walk_at "r1") => `(tactic| with_reducible first
  | refine g_seq ?_
  | refine g_next ?_
  | refine g_asg ?_
  | refine g_ifS ?_
  | refine g_ret ?_
  | refine g_retN ?_
  | refine g_drop ?_
  | refine g_brk ?_
  | refine g_c ?_
  | refine g_op ?_
  | refine g_un ?_
  | refine g_I0 ?_
  | refine g_U ?_
  | refine g_eqI ?_
  | refine g_neI ?_
  | refine g_eqS ?_
  | refine g_neS ?_
  | refine g_test ?_
  | refine g_B ?_
  | refine g_bl ?_
  | refine g_if ?_
  | refine g_not ?_
  | refine g_and ?_
  | refine g_or ?_
  | refine g_andV ?_
  | refine g_orV ?_
  | refine g_notV ?_
  | refine g_blif ?_
  | refine g_chain ?_
  | refine g_nil ?_
  | refine g_cons ?_
  | refine g_cb ?_
  | refine g_call ?_
  | refine g_tup ?_
  | refine g_lst ?_
  | refine g_tfld ?_
  | refine g_dget ?_
  | refine g_mk ?_
  | refine g_lc2 ?_
  | refine g_gfld ?_
  | refine g_meth ?_
  | refine g_sfld ?_
  | refine g_din ?_
  | refine g_dput ?_
  | refine g_isN_int ?_
  | refine g_isN_str ?_
  | refine g_isN_ref ?_
  | refine g_isN_non ?_
  | refine g_nN_int ?_
  | refine g_nN_str ?_
  | refine g_nN_ref ?_
  | refine g_nN_non ?_
  | refine g_lc ?_
  | refine g_dc ?_
  | refine g_for ?_
  | refine g_iStr ?_
  | refine g_iList ?_
  | refine g_iTup ?_
  | refine g_iR1 ?_
  | refine g_iR2 ?_
  | refine g_iR3 ?_
  | refine g_iEnum ?_
  | refine g_iZip ?_
  | refine g_iZipA ?_
  | refine g_bm ?_
  | refine g_bm0 ?_
  | refine g_m1 ?_
  | refine g_sl ?_
  | refine g_poN ?_
  | refine g_poS ?_
  | refine g_poI ?_
  | refine g_yes ?_
  | refine g_gtup ?_
  | refine g_gcons ?_
  | refine g_gnil ?_
  | refine g_par ?_
  | refine g_isi_ii ?_
  | refine g_isi_ib ?_
  | refine g_isi_ss ?_
  | refine g_inC ?_
  | refine g_int1 ?_
  | refine g_int1b ?_
  | refine g_abs ?_
  | refine g_ltS ?_
  | refine iteT ?_
  | refine iteNT ?_
  | refine iteNF ?_
  | refine iteF ?_)
local macro_rules | `(tactic| walk_at "sd") => `(tactic| first | assumption | rfl | decide | omega)
local macro_rules | `(tactic| walk_at "hp") => `(tactic| first | assumption | exact upd_same | exact Same.get (by assumption) (by walk_at "hp") | exact Off.get (by assumption) (by walk_at "hp") (by walk_at "ne"))
local macro_rules | `(tactic| walk_at "ne") => `(tactic| first | assumption | (refine Ne.symm ?_; assumption) | exact ne_of_none (by walk_at "hp") (by assumption) | exact ne_none (by walk_at "hp") (by assumption) | exact ne_of (by walk_at "hp") (by walk_at "hp") (by intro z; cases z))
local macro_rules | `(tactic| walk_at "sq") => `(tactic| first | assumption | exact SqL.rd (by walk_at "hp") | exact SqT.rd (by walk_at "hp") | exact Same.seq (by assumption) (by walk_at "sq") | exact Same.seqT (by assumption) (by walk_at "sq"))
local macro_rules | `(tactic| walk_at "rI") => `(tactic| ((with_reducible refine g_I ?_ ?_); (focus (first | (refine Or.inl ⟨?_, ?_⟩ <;> (first | decide | omega)) | (refine Or.inr ⟨?_, ?_⟩ <;> (first | decide | omega)) | (show (0 : Int) < _; first | decide | omega | assumption) | (refine And.intro ?_ ?_ <;> (first | decide | omega | (refine And.intro ?_ ?_ <;> (first | decide | omega))))))))
local macro_rules | `(tactic| walk_at "r2") => `(tactic| first
  | ((with_reducible refine g_tvar ?_); (refine ⟨_, rfl, ?_⟩))
  | ((with_reducible refine g_name' (σ' := ?s) ?e ?h); (case e => (simp only [wipe, List.set_cons_zero, List.set_cons_succ]; first | done | rfl)))
  | (refine And.intro (show wipe _ _ = wipe _ _ from rfl) ?_)
  | walk_at "rI")
local macro_rules | `(tactic| walk_at "rd") => `(tactic| repeat (first | walk_at "r1" | walk_at "r2"))
local macro_rules | `(tactic| walk_at "gn") => `(tactic| (intro pA hA; generalize hG : upd _ _ _ = H2A; (have sA : Same _ H2A := hG ▸ Same.upd hA); (have lA : H2A pA = some _ := hG ▸ upd_same); clear hG))
local macro_rules | `(tactic| walk_at "mk") => `(tactic| (intro xM dxM h1M h2M hneM; generalize hG : upd (upd _ _ _) _ _ = HM; (have sM : Same _ HM := hG ▸ Same.updW (Same.upd h2M) h1M); (have lM : HM xM = some _ := hG ▸ upd_same); clear hG))
section
variable {P : Program} {w : World} {K : PySem.W.Frag} {mg : Str → Option Value} {base : Heap}
def sp_law_names : PySem.W.Frag → Sp := fun K vs H Q _ => ∃ m cl, vs = [.ref m] ∧ MineAt H m cl 0 ∧ ∀ (nl : Addr) (names : List Str) H', Off m H H' → MineAt H' m cl 500 → H' nl = some (.lst (names.map V.str)) → NamesOk names → nl ≠ m → Q (.ref nl) H'
/-- the comprehension with draws, behind i leaves -/
def LcP (m cl D : Addr) (H4 : Hp) (ls : List Str) (k : Nat) (i : Nat) (H' : Hp) : Prop := Off m H4 H' ∧ MineAt H' m cl (k + i) ∧ ∃ ys : List Str, H' D = some (.lst (ys.map V.str)) ∧ (∀ y ∈ ys, y ∈ ls ∧ y.length < 8) ∧ ys.length ≤ i
/-- the loop that gives the names -/
def NmW (m cl l fl ol : Addr) (H : Hp) (ls : List Str) (k : Nat) (i : Nat) (σ : St) (H' : Hp) : Prop :=
  Off m H H' ∧ MineAt H' m cl (k + i) ∧ ∃ (fs ps rest : List Str) (z2 x3 x4 : Option V), H' fl = some (.lst (fs.map V.str)) ∧ H' l = some (.lst (rest.map V.str)) ∧ H' ol = some (.lst (ordL.map fun n => V.int (n : Nat))) ∧ fs.length = 8 ∧ ps.length = i ∧ (ps ++ rest).Perm ls ∧
    (∀ (i' o : Nat), i' < i → ordL[i']? = some o → fs[o]? = ps[i']?) ∧ σ = [some (.ref m), some (.ref l), z2, x3, x4, some (.ref fl), some (.ref ol), none, none]
theorem ixN8 : ∀ o, o < 8 → ixN 8 ((o : Nat) : Int) = some o := by decide
theorem ord_lt : ∀ (i o : Nat), ordL[i]? = some o → o < 8 := by
  intro i o h
  exact (show ∀ x ∈ ordL, x < 8 by decide) o (List.mem_of_getElem? h)
theorem seqIx {i n : Nat} (h : i < n) : seqIndex? (i : Int) n = some i := by
  unfold seqIndex?
  simp only
  rw [if_neg (show ¬ ((i : Int) < 0) by omega), if_pos (by simp; omega)]
  rfl
theorem erase_perm {α : Type} : ∀ {l : List α} {i : Nat} (h : i < l.length), (l[i] :: l.eraseIdx i).Perm l
  | a :: l, 0, _ => List.Perm.refl _
  | a :: l, i + 1, h => (List.Perm.swap a _ _).trans (List.Perm.cons a (erase_perm (l := l) (i := i) (Nat.lt_of_succ_lt_succ h)))
theorem MineAt.upd {H : Hp} {m cl a : Addr} {k : Nat} {o : HO} (h : MineAt H m cl k) (n1 : a ≠ m) (n2 : a ≠ cl) : MineAt (L2.upd H a o) m cl k := by
  obtain ⟨cells, x, r, h1, h2, h3, h4, h5⟩ := h
  exact ⟨cells, x, r, by rw [upd_ne n1.symm]; exact h1, by rw [upd_ne n2.symm]; exact h2, h3, h4, h5⟩
theorem MineAt.ne_strs {H : Hp} {m cl a : Addr} {k : Nat} {l : List Str} (h : MineAt H m cl k) (ha : H a = some (.lst (l.map V.str))) (hl : 0 < l.length) : a ≠ cl := by
  rintro rfl
  obtain ⟨cells, x, r, h1, h2, h3, h4, h5⟩ := h
  rw [ha] at h2
  cases l with
  | nil => simp at hl
  | cons y l =>
    cases cells with
    | nil => cases h2
    | cons c cells => cases h2
theorem off_none {m c : Addr} {H H' : Hp} (o : Off m H H') (h : H' c = none) (n : c ≠ m) : H c = none := by
  cases e : H c with
  | none => rfl
  | some u =>
    rw [o _ _ e n] at h
    cases h
theorem perm_drop {α : Type} {ps rest ls : List α} {k : Nat} (h : (ps ++ rest).Perm ls) (hk : k < rest.length) : ((ps ++ [rest[k]]) ++ rest.eraseIdx k).Perm ls := by
  refine List.Perm.trans ?_ h
  rw [List.append_assoc]
  exact List.Perm.append_left ps (erase_perm hk)
theorem ord_inj : ∀ (i j o : Nat), ordL[i]? = some o → ordL[j]? = some o → i = j := by
  intro i j o h1 h2
  exact (List.getElem?_inj (List.getElem?_eq_some_iff.mp h1).1 (show ordL.Nodup by decide)).mp (h1.trans h2.symm)
/-- ahead of a turn of the loop that splits leaves -/
def LfW (m cl : Addr) (H : Hp) : Nat → St → Hp → Prop := fun k σ H' =>
  Off m H H' ∧ ∃ (ls : List Str) (l : Addr) (x3 x4 : Option V), k = 10 - ls.length ∧ 1 ≤ ls.length ∧ ls.length ≤ 9 ∧ LeavesOk ls ∧ MineAt H' m cl (30 * ls.length) ∧ H' l = some (.lst (ls.map V.str)) ∧ l ≠ m ∧ H l = none ∧
    σ = [some (.ref m), some (.ref l), none, x3, x4, none, none, none, none]
theorem c_law_names (T : TX w K mg) : C8.Cal P w K mg base 3 "_law_names" (sp_law_names K) [] := by
  obtain ⟨f, fd, F, b⟩ := T.d_law_names
  have nd := sc_law_names.nd
  refine C8.cal0 F b .nil sc_law_names (fun vs H Q E h => ?_) (fun cdv A outer s H vs Q E hr h => ?_)
  · obtain ⟨m, cl, rfl, _⟩ := h
    rfl
  · obtain ⟨m, cl, rfl, hm, q⟩ := h
    refine ⟨_, (pss_cons (ps_set (i := 1) nd rfl (Or.inl rfl) (pe_lst (pa_cons pe_str pa_nil)))
    (pss_cons (ps_while PassesOwn.never (pt_cmpR op_lt (pe_callB kc_len (by rfl) T.z_len (by decide +kernel) (pa_cons (pv 1) pa_nil)) (pe_op op_add pe_int (C8.pe_c (c_law_one T) hr (by decide) (by rfl) (pa_cons (pv 0) (pa_cons (pe_lst (pa_cons pe_int (pa_cons pe_int (pa_cons pe_int (pa_cons pe_int pa_nil))))) pa_nil)))) (nomark _))
      (pss_cons (ps_setLc (i := 3) rfl nd rfl rfl (sw_true rfl rfl rfl (by decide +kernel)) (pi_list (pv 1)) (blkOk_by (own := [("_law_leaf", 4)]) (N := n_law_names) (sc := defScope s_law_names) (by decide +kernel)) (fun _ _ _ _ _ => (pg_name (i := 4) nd rfl (Or.inl rfl))) (fun _ _ _ _ _ => (pts_one (pt_cmpR op_lt (pe_callB kc_lenS (by rfl) T.z_len (by decide +kernel) (pa_cons (pv 4) pa_nil)) (C8.pe_c (c_law_one T) hr (by decide) (by rfl) (pa_cons (pv 0) (pa_cons (pe_lst (pa_cons pe_int (pa_cons pe_int (pa_cons pe_int (pa_cons pe_int pa_nil))))) pa_nil))) (nomark _)))) (fun _ _ _ _ _ => (pv 4)))
      (pss_cons (ps_set (i := 3) nd rfl (Or.inl rfl) (pe_ifExp (pt_cmpR (op_neD hr.units) (pv 3) (pe_lst pa_nil) (nomark _)) (pv 3) (pe_lc rfl nd (pi_list (pv 1)) (blkOk_by (own := [("_law_leaf", 4)]) (N := n_law_names) (sc := defScope s_law_names) (by decide +kernel)) (fun _ _ _ _ _ => (pg_name (i := 4) nd rfl (Or.inl rfl))) (fun _ _ _ _ _ => (pts_one (pt_cmpR op_lt (pe_callB kc_lenS (by rfl) T.z_len (by decide +kernel) (pa_cons (pv 4) pa_nil)) pe_int (nomark _)))) (fun _ _ _ _ _ => (pv 4)))))
      (pss_cons (ps_set (i := 4) nd rfl (Or.inr rfl) (C8.pe_c (c_law_one T) hr (by decide) (by rfl) (pa_cons (pv 0) (pa_cons (pv 3) pa_nil))))
      (pss_one (ps_set (i := 1) nd rfl (Or.inl rfl) (pe_op op_cat (pe_lc rfl nd (pi_list (pv 1)) (blkOk_by (own := [("_law_each", 7)]) (N := n_law_names) (sc := defScope s_law_names) (by decide +kernel)) (fun _ _ _ _ _ => (pg_name (i := 7) nd rfl (Or.inl rfl))) (fun _ _ _ _ _ => (pts_one (pt_cmpR op_ne (pv 7) (pv 4) (nomark _)))) (fun _ _ _ _ _ => (pv 7))) (pe_lst (pa_cons (pe_op op_add_str (pv 4) pe_str) (pa_cons (pe_op op_add_str (pv 4) pe_str) pa_nil))))))))))
    (pss_cons (ps_par (i := 5) (j := 6) rfl nd rfl rfl (by decide) rfl rfl (pa_cons (pe_op op_rep (pe_lst (pa_cons pe_str pa_nil)) pe_int) (pa_cons (pe_lst (pa_cons pe_int (pa_cons pe_int (pa_cons pe_int (pa_cons pe_int (pa_cons pe_int (pa_cons pe_int (pa_cons pe_int (pa_cons pe_int pa_nil))))))))) pa_nil)) (by rfl))
    (pss_cons (ps_if (pt_cmpR op_gt (C8.pe_c (c_law_delve T) hr (by decide) (by rfl) (pa_cons (pv 0) (pa_cons pe_int pa_nil))) pe_int (nomark _))
      (pss_one (ps_setLc (i := 1) rfl nd rfl rfl (sw_true rfl rfl rfl (by decide +kernel)) (pi_list (pe_callB (cr_sortP hr.units) (by rfl) T.z_sorted (by decide +kernel) (pa_cons (pe_lc rfl nd (pi_list (pv 1)) (blkOk_by (own := [("_law_leaf", 4)]) (N := n_law_names) (sc := defScope s_law_names) (by decide +kernel)) (fun _ _ _ _ _ => (pg_name (i := 4) nd rfl (Or.inl rfl))) (fun _ _ _ _ _ => pts_nil) (fun _ _ _ _ _ => (pe_tup (pa_cons (pe_callB kc_lenS (by rfl) T.z_len (by decide +kernel) (pa_cons (pv 4) pa_nil)) (pa_cons (pv 4) pa_nil))))) pa_nil))) (blkOk_by (own := [("_law_size", 8), ("_law_leaf", 4)]) (N := n_law_names) (sc := defScope s_law_names) (by decide +kernel)) (fun _ _ _ _ _ => (pg_2 (K := K) (i := 8) (j := 4) rfl rfl nd rfl (Or.inl rfl) (by first | exact .inl rfl | exact .inr rfl) rfl (Or.inl rfl) (by first | exact .inl rfl | exact .inr rfl) rfl rfl rfl rfl)) (fun _ _ _ _ _ => pts_nil) (fun _ _ _ _ _ => (pv 4))))
      pss_nil)
    (pss_cons (ps_for PassesOwn.never rfl (pi_list (pv 6)) (pg_name (i := 2) nd rfl (Or.inl rfl))
      (pss_one (ps_asg (pe_bm PySem.F.plainAttrs_list PySem.F.slot_list_pop PySem.F.type_list_pop mt_popAt (pv 1) (pa_cons (pe_ifExp (pt_cmpR op_gt (pe_callB kc_len (by rfl) T.z_len (by decide +kernel) (pa_cons (pv 1) pa_nil)) pe_int (nomark _)) pe_int (C8.pe_c (c_law_delve T) hr (by decide) (by rfl) (pa_cons (pv 0) (pa_cons (pe_callB kc_len (by rfl) T.z_len (by decide +kernel) (pa_cons (pv 1) pa_nil)) pa_nil)))) pa_nil)) (pg_sub (pv 5) (pv 2) set_list))))
    (pss_one (ps_ret (pv 5)))))))), ?_⟩
    have hmx : ∃ xs, H m = some (.lst xs) := by
      obtain ⟨cells, a, r, h1, _⟩ := hm
      exact ⟨_, h1⟩
    obtain ⟨mxs, hmx⟩ := hmx
    walk_at "st"
    walk_at "rd"
    refine ⟨show (1 : Nat) ≤ sizeLine by decide, fun l0 nl0 => ?_⟩
    have s1 := Same.upd (o := .lst [.str ""]) nl0
    have l1 := upd_same (H := H) (a := l0) (o := .lst [.str ""])
    have nel : l0 ≠ m := (ne_of_none hmx nl0).symm
    generalize upd H l0 (.lst [.str ""]) = H1 at s1 l1
    walk_at "rd"
    refine g_while ⟨LfW m cl H, ⟨9, fun b o h _ => s1 _ _ h, [""], l0, none, none, rfl, Nat.le_refl _, by decide, leaves_start, (hm.same s1).mono (Nat.zero_le _), l1, nel, nl0, rfl⟩, fun k σ H2 hw => ?_⟩
    obtain ⟨o2, ls, l, x3, x4, rfl, n1, n9, lok, hm2, hl, nlm, nHl, rfl⟩ := hw
    walk_at "rd"
    refine g_lenL (SqL.rd hl) ?_
    rw [List.length_map]
    walk_at "rd"
    refine ⟨show (4 : Nat) ≤ sizeLine by decide, fun a1 na1 => ?_⟩
    have s3 := Same.upd (o := .lst [.int 0, .int 0, .int 0, .int 1]) na1
    have l3 := upd_same (H := H2) (a := a1) (o := .lst [.int 0, .int 0, .int 0, .int 1])
    have na1m : a1 ≠ m := by
      obtain ⟨cells, a, r, h1, _⟩ := hm2
      exact (ne_of_none h1 na1).symm
    generalize upd H2 a1 (.lst [.int 0, .int 0, .int 0, .int 1]) = H3 at s3 l3
    refine ⟨m, cl, a1, 30 * ls.length, _, rfl, hm2.same s3, l3, na1m, by omega, by decide, by decide, fun y H4 hy o4 hm4 => ?_⟩
    obtain ⟨b, rfl, hb⟩ : ∃ b : Nat, y = .int b ∧ b ≤ 1 := by
      simp only [List.mem_cons, List.not_mem_nil, or_false] at hy
      rcases hy with e | e | e | e
      · exact ⟨0, e, by decide⟩
      · exact ⟨0, e, by decide⟩
      · exact ⟨0, e, by decide⟩
      · exact ⟨1, e, by decide⟩
    have o24 : Off m H H4 := fun x o h n => o4 _ _ (s3 _ _ (o2 _ _ h n)) n
    have hl4 : H4 l = some (.lst (ls.map V.str)) := o4 _ _ (s3 _ _ hl) nlm
    walk_at "rd"
    by_cases hlt : ls.length < 8 + b
    · refine ifD_t (by omega) ?_
      refine ⟨fun σ H' => ∃ m', m' < 10 - ls.length ∧ LfW m cl H m' σ H', fun σ' H' h => h, ?_⟩
      walk_at "rd"
      refine ⟨l, rfl, ⟨_, SqL.rd hl4⟩, fun D nD => ?_⟩
      have nDm : D ≠ m := by
        obtain ⟨cells, a, r, h1, _⟩ := hm4
        exact (ne_of_none h1 nD).symm
      refine lc_it walk_list (LcP m cl D H4 ls (30 * ls.length + 1)) ⟨fun x o h _ => Same.upd nD _ _ h, hm4.same (Same.upd nD), [], upd_same, fun y hy => (nomatch hy), Nat.le_refl _⟩ (fun _ _ _ pv => SqL.rd (pv.1 _ _ hl4 nlm)) (fun i x H5 H6 hi pv y => ?_) (fun H5 pv => ?_)
      · obtain ⟨rfl, hx1⟩ := y
        obtain ⟨x, hx2, rfl⟩ := get_map hx1
        obtain ⟨o5, hm5, ys, hD5, hys, hyl⟩ := pv
        have hxm := List.mem_of_getElem? hx2
        have hx8 := lok.hi x hxm
        rw [List.length_map] at hi
        walk_at "rd"
        refine g_lenS (by rw [sizeLine_eq]; omega) ?_
        walk_at "rd"
        refine ⟨show (4 : Nat) ≤ sizeLine by decide, fun a2 na2 => ?_⟩
        have s6 := Same.upd (o := .lst [.int 2, .int 3, .int 3, .int 4]) na2
        have l6 := upd_same (H := H6) (a := a2) (o := .lst [.int 2, .int 3, .int 3, .int 4])
        have na2m : a2 ≠ m := by
          obtain ⟨cells, a, r, h1, _⟩ := hm5
          exact (ne_of_none h1 na2).symm
        generalize upd H6 a2 (.lst [.int 2, .int 3, .int 3, .int 4]) = H6a at s6 l6
        refine ⟨m, cl, a2, 30 * ls.length + 1 + i, _, rfl, hm5.same s6, l6, na2m, by omega, by decide, by decide, fun y H7 hy o7 hm7 => ?_⟩
        obtain ⟨b2, rfl, hb2⟩ : ∃ b : Nat, y = .int b ∧ b ≤ 4 := by
          simp only [List.mem_cons, List.not_mem_nil, or_false] at hy
          rcases hy with e | e | e | e
          · exact ⟨2, e, by decide⟩
          · exact ⟨3, e, by decide⟩
          · exact ⟨3, e, by decide⟩
          · exact ⟨4, e, by decide⟩
        have o57 : Off m H4 H7 := fun x o h n => o7 _ _ (s6 _ _ (o5 _ _ h n)) n
        have hD7 : H7 D = some (.lst (ys.map V.str)) := o7 _ _ (s6 _ _ hD5) nDm
        walk_at "rd"
        refine ifD (fun hx => ?_) (fun hx => ?_)
        · walk_at "rd"
          refine ⟨_, hD7, by rw [List.length_map, sizeLine_eq]; omega, ?_⟩
          have e1 : ys.map V.str ++ [V.str x] = (ys ++ [x]).map V.str := by rw [List.map_append]; rfl
          rw [e1]
          refine ⟨fun z o h n => ?_, ?_, ys ++ [x], upd_same, fun z hz => ?_, by rw [List.length_append, List.length_singleton]; omega⟩
          · rw [upd_ne (ne_of_none h nD)]
            exact o57 _ _ h n
          · obtain ⟨cells, a, r, h1, h2, h3, h4, h5⟩ := hm7
            have hcl : cl ≠ D := by
              obtain ⟨cells0, a0, r0, g1, g2, _⟩ := hm4
              exact ne_of_none g2 nD
            exact ⟨cells, a, r, by rw [upd_ne nDm.symm]; exact h1, by rw [upd_ne hcl]; exact h2, h3, h4, h5⟩
          · rcases List.mem_append.mp hz with q1 | q1
            · exact hys z q1
            · rw [List.mem_singleton.mp q1]
              exact ⟨hxm, by omega⟩
        · walk_at "rd"
          exact ⟨o57, hm7, ys, hD7, hys, by omega⟩
      · rw [List.length_map] at pv
        obtain ⟨o5, hm5, ys, hD5, hys, hyl⟩ := pv
        have o25 : Off m H H5 := fun x o h n => o5 _ _ (o24 _ _ h n) n
        have hl5 : H5 l = some (.lst (ls.map V.str)) := o5 _ _ hl4 nlm
        walk_at "rd"
        refine ⟨show (0 : Nat) ≤ sizeLine by decide, fun e ne => ?_⟩
        have s6 := Same.upd (o := .lst []) ne
        have l6 := upd_same (H := H5) (a := e) (o := .lst [])
        generalize upd H5 e (.lst []) = H6 at s6 l6
        refine ⟨.list (ys.map PyData.str), .list (([] : List Str).map PyData.str), .lst (SqL.rd (s6 _ _ hD5)) (dp_strs ys), .lst (SqL.rd l6) .nil, shaped_strs _ (bin_ok fun x hx => lok.bi x (hys x hx).1), shaped_strs _ (fun x hx => nomatch hx), ?_⟩
        have o26 : Off m H H6 := fun x o h n => s6 _ _ (o25 _ _ h n)
        have hm6 := hm5.same s6
        have hl6 : H6 l = some (.lst (ls.map V.str)) := s6 _ _ hl5
        have hD6 := s6 _ _ hD5
        by_cases hy0 : ys = []
        case' pos =>
          subst hy0
          rw [show PyData.eqv (.list (([] : List Str).map PyData.str)) (.list (([] : List Str).map PyData.str)) = true by decide +kernel]
          walk_at "rd"
          refine ⟨l, rfl, ⟨_, SqL.rd hl6⟩, fun D2 nD2 => ?_⟩
          refine lc_it walk_list (PvL H6 D2 (fun x : Str => if decide (x.length < 8) = true then some (V.str x) else none) ls) (pvl_start nD2) (fun _ _ _ pv => SqL.rd (pv.1 _ _ hl6)) (fun i x H7 H8 hi pv y => ?_) (fun H7 pv => ?_)
          · obtain ⟨rfl, hx1⟩ := y
            obtain ⟨x, hx2, rfl⟩ := get_map hx1
            have hx8 := lok.hi x (List.mem_of_getElem? hx2)
            walk_at "rd"
            refine g_lenS (by rw [sizeLine_eq]; omega) ?_
            walk_at "rd"
            refine ifD (fun hx => ?_) (fun hx => ?_)
            · walk_at "rd"
              exact pvl_yes nD2 pv (Same.refl _) hx2 (by rw [if_pos (decide_eq_true (by omega))]) (by rw [sizeLine_eq]; omega)
            · walk_at "rd"
              exact pvl_no pv (Same.refl _) hx2 (by rw [if_neg]; intro z; have := of_decide_eq_true z; omega)
          rw [List.length_map] at pv
          obtain ⟨s7, l7⟩ := pvl_end pv
          rw [fm_if] at l7
          obtain ⟨zs, hzs⟩ : ∃ zs, zs = ls.filter fun x => decide (x.length < 8) := ⟨_, rfl⟩
          rw [← hzs] at l7
          have hz1 : ∀ z ∈ zs, z ∈ ls ∧ z.length < 8 := fun z hz => by
            rw [hzs] at hz
            obtain ⟨q1, q2⟩ := List.mem_filter.mp hz
            exact ⟨q1, of_decide_eq_true q2⟩
          have hz2 : 0 < zs.length := by
            obtain ⟨x, hx, hx8⟩ := leaves_short lok n9
            exact List.length_pos_of_mem (a := x) (by rw [hzs]; exact List.mem_filter.mpr ⟨hx, decide_eq_true hx8⟩)
          have hz3 : zs.length ≤ 9 := by
            rw [hzs]
            exact Nat.le_trans (List.length_filter_le _ _) n9
          have o27 : Off m H H7 := fun x o h n => s7 _ _ (o26 _ _ h n)
          have hm7 := hm6.same s7
          have hl7 : H7 l = some (.lst (ls.map V.str)) := s7 _ _ hl6
          have nD2m : D2 ≠ m := by
            obtain ⟨cells, a, r, h1, _⟩ := hm6
            exact (ne_of_none h1 nD2).symm
          generalize D2 = sl at l7 nD2m ⊢
          clear pv hD6 hys
        case' neg =>
          rw [show PyData.eqv (.list (ys.map PyData.str)) (.list (([] : List Str).map PyData.str)) = false by cases ys with | nil => exact absurd rfl hy0 | cons a l => rfl]
          walk_at "rd"
          obtain ⟨zs, hzs⟩ : ∃ zs, zs = ys := ⟨_, rfl⟩
          have hz1 : ∀ z ∈ zs, z ∈ ls ∧ z.length < 8 := by rw [hzs]; exact hys
          have hz2 : 0 < zs.length := by
            rw [hzs]
            cases ys with
            | nil => exact absurd rfl hy0
            | cons a l => exact Nat.succ_pos _
          have hz3 : zs.length ≤ 9 := by rw [hzs]; omega
          obtain ⟨H7, hH7⟩ : ∃ H7, H7 = H6 := ⟨_, rfl⟩
          have l7 : H7 D = some (.lst (zs.map V.str)) := by rw [hH7, hzs]; exact hD6
          have o27 : Off m H H7 := by rw [hH7]; exact o26
          have hm7 : MineAt H7 m cl (30 * ls.length + 1 + ls.length) := by rw [hH7]; exact hm6
          have hl7 : H7 l = some (.lst (ls.map V.str)) := by rw [hH7]; exact hl6
          have nD2m : D ≠ m := nDm
          rw [← hH7]
          generalize D = sl at l7 nD2m ⊢
        all_goals
          walk_at "rd"
          refine ⟨m, cl, sl, 30 * ls.length + 1 + ls.length, _, rfl, hm7, l7, nD2m, by omega, by rw [List.length_map]; exact hz2, by rw [List.length_map]; omega, fun y H8 hy o8 hm8 => ?_⟩
          obtain ⟨x, hxz, rfl⟩ := List.mem_map.mp hy
          obtain ⟨hxl, hx8⟩ := hz1 x hxz
          have o28 : Off m H H8 := fun z o h n => o8 _ _ (o27 _ _ h n) n
          have hl8 : H8 l = some (.lst (ls.map V.str)) := o8 _ _ hl7 nlm
          walk_at "rd"
          refine ⟨l, rfl, ⟨_, SqL.rd hl8⟩, fun D3 nD3 => ?_⟩
          refine lc_it walk_list (PvL H8 D3 (fun y : Str => if decide (y ≠ x) = true then some (V.str y) else none) ls) (pvl_start nD3) (fun _ _ _ pv => SqL.rd (pv.1 _ _ hl8)) (fun i y H9 H10 hi pv yy => ?_) (fun H9 pv => ?_)
          · obtain ⟨rfl, hx1⟩ := yy
            obtain ⟨y, hy2, rfl⟩ := get_map hx1
            walk_at "rd"
            by_cases hx : y = x
            · refine ifB_f (by rw [decide_eq_true hx]; rfl) ?_
              walk_at "rd"
              exact pvl_no pv (Same.refl _) hy2 (by rw [if_neg]; intro z; exact of_decide_eq_true z hx)
            · refine ifB_t (by rw [decide_eq_false hx]; rfl) ?_
              walk_at "rd"
              exact pvl_yes nD3 pv (Same.refl _) hy2 (by rw [if_pos (decide_eq_true hx)]) (by rw [sizeLine_eq]; omega)
          rw [List.length_map] at pv
          obtain ⟨s9, l9⟩ := pvl_end pv
          rw [fm_if] at l9
          walk_at "rd"
          refine ⟨x, "0", rfl, rfl, by rw [sizeLine_eq, show ("0" : Str).length = 1 by decide +kernel]; omega, ?_⟩
          walk_at "rd"
          refine ⟨x, "1", rfl, rfl, by rw [sizeLine_eq, show ("1" : Str).length = 1 by decide +kernel]; omega, ?_⟩
          walk_at "rd"
          refine ⟨show (2 : Nat) ≤ sizeLine by decide, fun e2 ne2 => ?_⟩
          have s10 := Same.upd (o := .lst [.str (x ++ "0"), .str (x ++ "1")]) ne2
          have l10 := upd_same (H := H9) (a := e2) (o := .lst [.str (x ++ "0"), .str (x ++ "1")])
          generalize upd H9 e2 (.lst [.str (x ++ "0"), .str (x ++ "1")]) = H10 at s10 l10
          have hsp := split_len lok hxl
          refine ⟨D3, e2, _, _, rfl, rfl, s10 _ _ l9, l10, ?_, fun c nc => ?_⟩
          · rw [List.length_append] at hsp
            rw [List.length_map, sizeLine_eq]
            show _ + 2 ≤ _
            simp only [List.length_cons, List.length_nil] at hsp
            omega
          have ec : (ls.filter fun y => decide (y ≠ x)).map V.str ++ [.str (x ++ "0"), .str (x ++ "1")] = ((ls.filter fun y => decide (y ≠ x)) ++ [x ++ "0", x ++ "1"]).map V.str := by rw [List.map_append]; rfl
          rw [ec]
          have s11 := Same.upd (o := .lst (((ls.filter fun y => decide (y ≠ x)) ++ [x ++ "0", x ++ "1"]).map V.str)) nc
          have l11 := upd_same (H := H10) (a := c) (o := .lst (((ls.filter fun y => decide (y ≠ x)) ++ [x ++ "0", x ++ "1"]).map V.str))
          generalize upd H10 c (.lst (((ls.filter fun y => decide (y ≠ x)) ++ [x ++ "0", x ++ "1"]).map V.str)) = H11 at s11 l11
          have s811 := (s9.trans s10).trans s11
          have ncm : c ≠ m := by
            obtain ⟨cells, a, r, h1, _⟩ := hm8.same (s9.trans s10)
            exact (ne_of_none h1 nc).symm
          walk_at "rd"
          refine ⟨10 - (ls.length + 1), by omega, fun z o h n => s811 _ _ (o28 _ _ h n), _, c, some (.ref sl), some (.str x), by rw [hsp], by rw [hsp]; omega, by rw [hsp]; omega, leaves_split lok hxl hx8, (hm8.same s811).mono (by rw [hsp]; omega), l11, ncm, off_none (H' := H10) (fun z o h n => (s9.trans s10) _ _ (o28 _ _ h n)) nc ncm, rfl⟩
    · refine ifD_f (by omega) ?_
      walk_at "rd"
      refine ⟨show (1 : Nat) ≤ sizeLine by decide, fun a2 na2 => ?_⟩
      have s5 := Same.upd (o := .lst [.str ""]) na2
      have l5 := upd_same (H := H4) (a := a2) (o := .lst [.str ""])
      generalize upd H4 a2 (.lst [.str ""]) = H5 at s5 l5
      walk_at "rd"
      refine ⟨a2, 8, [.str ""], rfl, rfl, l5, by decide, by decide, by decide, fun fl nfl => ?_⟩
      have s6 := Same.upd (o := .lst ((List.replicate 8 ("" : Str)).map V.str)) nfl
      have l6 := upd_same (H := H5) (a := fl) (o := .lst ((List.replicate 8 ("" : Str)).map V.str))
      show tCons _ _ _ (upd H5 fl (.lst ((List.replicate 8 ("" : Str)).map V.str))) _
      generalize upd H5 fl (.lst ((List.replicate 8 ("" : Str)).map V.str)) = H6 at s6 l6
      walk_at "rd"
      refine ⟨show (8 : Nat) ≤ sizeLine by decide, fun ol nol => ?_⟩
      have s7 := Same.upd (o := .lst (ordL.map fun n => V.int (n : Nat))) nol
      have l7 := upd_same (H := H6) (a := ol) (o := .lst (ordL.map fun n => V.int (n : Nat)))
      have e7 : HO.lst [V.int 0, V.int 1, V.int 7, V.int 3, V.int 2, V.int 4, V.int 5, V.int 6] = .lst (ordL.map fun n => V.int (n : Nat)) := rfl
      rw [e7]
      generalize upd H6 ol (.lst (ordL.map fun n => V.int (n : Nat))) = H7 at s7 l7
      walk_at "rd"
      refine ⟨_, _, rfl, ?_⟩
      have s47 := (s5.trans s6).trans s7
      have hm7 := hm4.same s47
      have fresh_m : ∀ (Hx : Hp) (c : Addr) (k : Nat), MineAt Hx m cl k → Hx c = none → c ≠ m := fun Hx c k h hc => by
        obtain ⟨cells, a, r, h1, _⟩ := h
        exact (ne_of_none h1 hc).symm
      have nflm := fresh_m _ _ _ (hm4.same s5) nfl
      have nolm := fresh_m _ _ _ (hm4.same (s5.trans s6)) nol
      have hl7 : H7 l = some (.lst (ls.map V.str)) := s47 _ _ hl4
      have lfl : l ≠ fl := ne_of_none (s5 _ _ hl4) nfl
      have lol : l ≠ ol := ne_of_none (s6 _ _ (s5 _ _ hl4)) nol
      have flol : fl ≠ ol := ne_of_none l6 nol
      have o27 : Off m H H7 := fun x o h n => s47 _ _ (o24 _ _ h n)
      walk_at "rd"
      refine ⟨m, cl, 30 * ls.length + 1, 4, rfl, hm7, by omega, by decide, by decide, fun r H8 hr8 o8 hm8 => ?_⟩
      have o28 : Off m H H8 := fun z o h n => o8 _ _ (o27 _ _ h n) n
      have hl8 : H8 l = some (.lst (ls.map V.str)) := o8 _ _ hl7 nlm
      have hfl8 := o8 _ _ (s7 _ _ l6) nflm
      have hol8 := o8 _ _ l7 nolm
      walk_at "rd"
      by_cases hr0 : 0 < r
      case' pos =>
        refine ifD_t (by omega) ?_
        walk_at "rd"
        refine ⟨l, rfl, ⟨_, SqL.rd hl8⟩, fun D nD => ?_⟩
        refine lc_it walk_list (fun i H' => Same H8 H' ∧ ∃ as : List Addr, H' D = some (.lst (as.map V.ref)) ∧ Objs H' PairIS as ((ls.take i).map fun x => ((x.length : Int), x))) ⟨Same.upd nD, [], upd_same, rfl, fun i a x e => by simp at e⟩ (fun _ _ _ pv => SqL.rd (pv.1 _ _ hl8)) (fun i x H9 H10 hi pv y => ?_) (fun H9 pv => ?_)
        · obtain ⟨rfl, hx1⟩ := y
          obtain ⟨x, hx2, rfl⟩ := get_map hx1
          obtain ⟨s9, as, hD9, hob⟩ := pv
          have hx8 := lok.hi x (List.mem_of_getElem? hx2)
          rw [List.length_map] at hi
          walk_at "rd"
          refine g_lenS (by rw [sizeLine_eq]; omega) ?_
          walk_at "rd"
          refine ⟨show (2 : Nat) ≤ sizeLine by decide, fun tp ntp => ?_⟩
          have s10 := Same.upd (o := .tup [.int (x.length : Nat), .str x]) ntp
          have l10 := upd_same (H := H10) (a := tp) (o := .tup [.int (x.length : Nat), .str x])
          generalize upd H10 tp (.tup [.int (x.length : Nat), .str x]) = H11 at s10 l10
          have hlen : as.length = i := by
            rw [hob.1, List.length_map, List.length_take]
            omega
          have htD : tp ≠ D := (ne_of_none hD9 ntp).symm
          refine ⟨_, s10 _ _ hD9, by rw [List.length_map, hlen, sizeLine_eq]; omega, ?_⟩
          have e1 : as.map V.ref ++ [V.ref tp] = (as ++ [tp]).map V.ref := by rw [List.map_append]; rfl
          rw [e1]
          refine ⟨Same.updW (s9.trans s10) nD, as ++ [tp], upd_same, ?_⟩
          have e2 : ((ls.take i ++ [x]).map fun x => ((x.length : Int), x)) = ((ls.take i).map fun x => ((x.length : Int), x)) ++ [((x.length : Int), x)] := List.map_append
          rw [take_succ' hx2, e2]
          refine Objs.append (hob.same fun a c h => ?_) (Objs.one ?_)
          · show upd H11 D _ a = _
            rw [upd_ne (ne_of h hD9 (by intro z; cases z))]
            exact s10 _ _ h
          · show upd H11 D _ tp = _
            rw [upd_ne htD]
            exact l10
        obtain ⟨s9, as, hD9, hob⟩ := pv
        rw [List.length_map, List.take_length] at hob
        have hasl : as.length = ls.length := by rw [hob.1, List.length_map]
        walk_at "rd"
        refine ⟨D, as, _, rfl, hD9, hob, by omega, fun as2 p2 hp2 np2 => ?_⟩
        obtain ⟨zs, pz, ez⟩ := L2.perm_lift (fun z : Addr × Int × Str => z.1) hp2 (as.zip (ls.map fun x => ((x.length : Int), x))) (List.map_fst_zip (by rw [List.length_map, hasl]; exact Nat.le_refl _))
        have hzp : (zs.map fun z => z.2.2).Perm ls := by
          have e := pz.map (fun z : Addr × Int × Str => z.2.2)
          have e2 : (as.zip (ls.map fun x => ((x.length : Int), x))).map (fun z : Addr × Int × Str => z.2.2) = ls := by
            rw [show (fun z : Addr × Int × Str => z.2.2) = (fun c : Int × Str => c.2) ∘ Prod.snd from rfl, ← List.map_map, List.map_snd_zip (by rw [List.length_map, hasl]; exact Nat.le_refl _), List.map_map]
            exact List.map_id _
          rw [e2] at e
          exact e
        have hzl : zs.length = ls.length := by
          have := hzp.length_eq
          rwa [List.length_map] at this
        have hzo : ∀ z ∈ zs, H9 z.1 = some (.tup [.int z.2.1, .str z.2.2]) := by
          intro z hz
          obtain ⟨j, hj⟩ := List.mem_iff_getElem?.mp (pz.mem_iff.mp hz)
          obtain ⟨j1, j2⟩ := List.getElem?_zip_eq_some.mp hj
          exact hob.2 j _ _ j1 j2
        subst ez
        have s10 := Same.upd (o := .lst ((zs.map fun z => z.1).map V.ref)) np2
        have l10 := upd_same (H := H9) (a := p2) (o := .lst ((zs.map fun z => z.1).map V.ref))
        generalize upd H9 p2 (.lst ((zs.map fun z => z.1).map V.ref)) = H10 at s10 l10
        refine ⟨p2, rfl, ⟨_, SqL.rd l10⟩, fun D2 nD2 => ?_⟩
        refine lc_it walk_list (PvL H10 D2 (fun z : Addr × Int × Str => some (V.str z.2.2)) zs) (pvl_start nD2) (fun _ _ _ pv => SqL.rd (pv.1 _ _ l10)) (fun i x H11 H12 hi pv y => ?_) (fun H11 pv => ?_)
        · obtain ⟨rfl, hx1⟩ := y
          obtain ⟨a, ha, rfl⟩ := get_map hx1
          obtain ⟨z, hz, rfl⟩ := get_map ha
          walk_at "rd"
          refine ⟨z.1, _, rfl, SqT.rd (pv.1 _ _ (s10 _ _ (hzo z (List.mem_of_getElem? hz)))), rfl, ?_⟩
          walk_at "rd"
          exact pvl_yes nD2 pv (Same.refl _) hz rfl (by rw [hzl, sizeLine_eq]; omega)
        rw [List.length_map, List.length_map] at pv
        obtain ⟨s11, l11⟩ := pvl_end pv
        rw [fm_map] at l11
        have l11' : H11 D2 = some (.lst ((zs.map fun z => z.2.2).map V.str)) := by rw [l11, List.map_map]; rfl
        clear l11
        walk_at "rd"
        have s811 := (s9.trans s10).trans s11
        have hmx := hm8.same s811
        have o2x : Off m H H11 := fun z o h n => s811 _ _ (o28 _ _ h n)
        have hflx := s811 _ _ hfl8
        have holx := s811 _ _ hol8
        have lm2 : D2 ≠ m := fresh_m _ _ _ (hm8.same (s9.trans s10)) nD2
        have lfl2 : D2 ≠ fl := (ne_of_none (s10 _ _ (s9 _ _ hfl8)) nD2).symm
        have lol2 : D2 ≠ ol := (ne_of_none (s10 _ _ (s9 _ _ hol8)) nD2).symm
        have nHz : H D2 = none := off_none (H' := H10) (fun z o h n => (s9.trans s10) _ _ (o28 _ _ h n)) nD2 lm2
        generalize (zs.map fun z => z.2.2) = ls2 at hzp l11'
        have lx : H11 D2 = some (.lst (ls2.map V.str)) := l11'
        clear l11' pv hzo pz hp2 l10 hob hD9
        generalize D2 = lz at lx lm2 lfl2 lol2 nHz ⊢
        generalize H11 = Hx at hmx o2x hflx holx lx ⊢
      case' neg =>
        refine ifD_f (by omega) ?_
        walk_at "rd"
        obtain ⟨ls2, hls2⟩ : ∃ ls2, ls2 = ls := ⟨_, rfl⟩
        have hzp : ls2.Perm ls := by rw [hls2]
        have lx : H8 l = some (.lst (ls2.map V.str)) := by rw [hls2]; exact hl8
        have hmx := hm8
        have o2x := o28
        have hflx := hfl8
        have holx := hol8
        have lm2 := nlm
        have lfl2 := lfl
        have lol2 := lol
        have nHz := nHl
        generalize l = lz at lx lm2 lfl2 lol2 nHz ⊢
        generalize H8 = Hx at hmx o2x hflx holx lx ⊢
      all_goals
        have nHf : H fl = none := off_none (H' := H5) (fun z o h n => s5 _ _ (o24 _ _ h n)) nfl nflm
        have hls2 : ls2.length = ls.length := hzp.length_eq
        have clz : lz ≠ cl := hmx.ne_strs lx (by omega)
        have clf : fl ≠ cl := hmx.ne_strs hflx (by decide)
        refine ⟨ol, rfl, ⟨_, SqL.rd holx⟩, ?_⟩
        refine for_it walk_list (NmW m cl lz fl ol H ls (30 * ls.length + 1 + 1)) ⟨o2x, hmx, List.replicate 8 "", [], ls2, none, x3, x4, hflx, lx, holx, rfl, rfl, hzp, fun i' o h => absurd h (Nat.not_lt_zero _), rfl⟩ (fun _ _ _ _ pv => by
          obtain ⟨_, _, _, _, _, _, _, _, _, _, h, _⟩ := pv
          exact SqL.rd h) (fun i x σ H9 H10 hi pv y => ?_) (fun σ H9 pv => ?_)
        · obtain ⟨rfl, hx1⟩ := y
          obtain ⟨o, ho, rfl⟩ := get_map hx1
          obtain ⟨o9, hm9, fs, ps, rest, z2, y3, y4, hfl9, hl9, hol9, hfs, hps, hpr, hat, rfl⟩ := pv
          have ho8 := ord_lt i o ho
          rw [List.length_map] at hi
          have hi8 : i < 8 := hi
          have hlen : i + rest.length = ls.length := by
            have := hpr.length_eq
            rw [List.length_append, hps] at this
            exact this
          have fin : ∀ (idx : Nat) (Hq : Hp) (hidx : idx < rest.length) (σ' : St), Off m H Hq → MineAt Hq m cl (30 * ls.length + 1 + 1 + (i + 1)) → Hq fl = some (.lst (fs.map V.str)) → Hq lz = some (.lst (rest.map V.str)) → Hq ol = some (.lst (ordL.map fun n => V.int (n : Nat))) →
              σ' = [some (.ref m), some (.ref lz), some (.int (o : Nat)), y3, y4, some (.ref fl), some (.ref ol), none, none] →
              NmW m cl lz fl ol H ls (30 * ls.length + 1 + 1) (i + 1) σ' (upd (upd Hq lz (.lst ((rest.map V.str).eraseIdx idx))) fl (.lst ((fs.map V.str).set o (.str rest[idx])))) := by
            rintro idx Hq hidx σ' oq mq f1 f2 f3 rfl
            refine ⟨fun b u h n => ?_, (mq.upd lm2 clz).upd nflm clf, fs.set o rest[idx], ps ++ [rest[idx]], rest.eraseIdx idx, some (.int (o : Nat)), y3, y4, ?_, ?_, ?_, by rw [List.length_set]; exact hfs, by rw [List.length_append, List.length_singleton, hps], perm_drop hpr hidx, ?_, rfl⟩
            · have h1 := oq b u h
              rw [upd_ne (ne_of_none h nHf), upd_ne (ne_of_none h nHz)]
              exact h1 n
            · rw [upd_same, List.map_set]
            · rw [upd_ne lfl2, upd_same, ← DT.map_erase]
            · rw [upd_ne flol.symm, upd_ne lol2.symm]
              exact f3
            · intro i' o' hlt ho'
              rcases Nat.lt_or_ge i' i with q1 | q1
              · rw [List.getElem?_set_ne (fun z => by
                  subst z
                  have := ord_inj i' i _ ho' ho
                  omega), hat i' o' q1 ho', List.getElem?_append_left (by rw [hps]; exact q1)]
              · have e : i' = i := by omega
                subst e
                have e2 : o' = o := Option.some.inj (ho'.symm.trans ho)
                subst e2
                rw [List.getElem?_set_self (by rw [hfs]; exact ho8), List.getElem?_append_right (by rw [hps]; exact Nat.le_refl _), hps, Nat.sub_self]
                rfl
          walk_at "rd"
          refine ⟨tyL (SqL.rd hl9), ?_⟩
          walk_at "rd"
          refine g_lenL (SqL.rd hl9) ?_
          rw [List.length_map]
          walk_at "rd"
          by_cases h5 : 5 < rest.length
          · refine ifD_t (by omega) ?_
            walk_at "rd"
            refine ⟨lz, _, 0, 0, .str rest[0], rfl, rfl, hl9, by decide, by decide, seqIx (i := 0) (by rw [List.length_map]; omega), by rw [List.getElem?_map, List.getElem?_eq_getElem (by omega)]; rfl, ?_⟩
            try unfold gSub
            walk_at "rd"
            refine ⟨fl, fs.map V.str, o, o, rfl, rfl, by rw [upd_ne lfl2.symm]; exact hfl9, by rw [List.length_map, hfs]; exact ixN8 o ho8, ?_⟩
            exact fin 0 _ (by omega) _ o9 (hm9.mono (by omega)) hfl9 hl9 hol9 rfl
          · refine ifD_f (by omega) ?_
            walk_at "rd"
            refine g_lenL (SqL.rd hl9) ?_
            rw [List.length_map]
            walk_at "rd"
            refine ⟨m, cl, 30 * ls.length + 1 + 1 + i, rest.length, rfl, hm9, by omega, by omega, by omega, fun r2 H11 hr2 o11 hm11 => ?_⟩
            have hl11 := o11 _ _ hl9 lm2
            have hfl11 := o11 _ _ hfl9 nflm
            walk_at "rd"
            refine ⟨lz, _, r2, r2, .str rest[r2], rfl, rfl, hl11, by omega, by omega, seqIx (by rw [List.length_map]; omega), by rw [List.getElem?_map, List.getElem?_eq_getElem (by omega)]; rfl, ?_⟩
            try unfold gSub
            walk_at "rd"
            refine ⟨fl, fs.map V.str, o, o, rfl, rfl, by rw [upd_ne lfl2.symm]; exact hfl11, by rw [List.length_map, hfs]; exact ixN8 o ho8, ?_⟩
            exact fin r2 _ (by omega) _ (fun b u h n => o11 _ _ (o9 _ _ h n) n) (hm11.mono (by omega)) hfl11 hl11 (o11 _ _ hol9 nolm) rfl
        · obtain ⟨o9, hm9, fs, ps, rest, z2, y3, y4, hfl9, hl9, hol9, hfs, hps, hpr, hat, rfl⟩ := pv
          walk_at "rd"
          exact q fl fs _ o9 (hm9.mono (by show 30 * ls.length + 1 + 1 + 8 ≤ 500; omega)) hfl9 (names_of lok hpr hps hfs fun i' o h => hat i' o (by obtain ⟨z, _⟩ := List.getElem?_eq_some_iff.mp h; exact z) h) nflm
end
end Dt
set_option Elab.async false
set_option linter.all false
set_option maxRecDepth 100000
set_option maxHeartbeats 4000000
/-! R3: o.__class__, C.__name__ of a class of the text. -/
namespace Dt
open PySem PySem.Spec PySem.Calls PyProof.Rows L2
/-- what o.__class__ asks of the class -/
structure ClsOk (K : PySem.W.Frag) (C : Addr) : Prop where
  ic : PySem.W.isClsIn K C = true
  hg : PySem.W.plainGet K C "__class__" = true
  ha : PySem.W.findIn K (.ref C) "__class__" = some (some (.builtin "object.__class__"))
  hn : PySem.W.specialIn K (.builtin "object.__class__") "__get__" = some (some (.builtin "getset_descriptor.__get__"))
  htk : PySem.W.takesIn K (.builtin "object.__class__") = some true
  hm : PySem.W.mroIn K C (.type "object") = some true
/-- what C.__name__ asks of the class; n: the name -/
structure NameOk (K : PySem.W.Frag) (C : Addr) (n : Str) : Prop where
  rd : PySem.W.readsIn K C (.type "type") = true
  at_ : PySem.W.findCls K (.ref C) (.type "type") "__name__" = some (.get (.builtin "getset_descriptor.__get__") (.builtin "type.__name__") (.ref C) (.type "type"))
  lk : ∃ od cd osl t, K.lookup C = some ⟨.type "type", od, .cls cd, osl⟩ ∧ osl[2]? = some (some (.str n t))
def tClsO (K : PySem.W.Frag) (ta : TE) : TE := fun σ H Q => ta σ H fun x H1 => ∃ a C dx fs, x = .ref a ∧ H1 a = some (.ins C dx fs) ∧ ClsOk K C ∧ Q (.ref C) H1
def tNameO (K : PySem.W.Frag) (ta : TE) : TE := fun σ H Q => ta σ H fun x H1 => ∃ C n, x = .ref C ∧ NameOk K C n ∧ Q (.str n) H1
theorem g_clsO {K : PySem.W.Frag} {ta : TE} {σ : L2.St} {H : Hp} {Q : VK} (h : ta σ H fun x H1 => ∃ a C dx fs, x = .ref a ∧ H1 a = some (.ins C dx fs) ∧ ClsOk K C ∧ Q (.ref C) H1) : tClsO K ta σ H Q := h
theorem g_nameO {K : PySem.W.Frag} {ta : TE} {σ : L2.St} {H : Hp} {Q : VK} (h : ta σ H fun x H1 => ∃ C n, x = .ref C ∧ NameOk K C n ∧ Q (.str n) H1) : tNameO K ta σ H Q := h
section
variable {X : Cx} {e : Expr} {pos : Pos} {ta : TE}
theorem pe_clsO (he : PE X e ta) (hb : attributeBase e "__class__" X.env (eval e X.env) = eval e X.env := by rfl) : PE X (.Attribute e "__class__" pos) (tClsO X.K ta) := by
  refine ⟨fun pins s σ H Q I h => ?_⟩
  refine attr_of hb (thn (he.run pins s σ H _ I h) fun u s1 ⟨x, H1, I1, rx, a, C, dx, fs, ex, ea, c, q⟩ => ?_)
  subst ex
  obtain rfl : u = Value.ref a := rx
  obtain ⟨mA, O, rO⟩ := ins_get I1.hok ea
  obtain ⟨od, J, _⟩ := O.look
  have hf : PySem.W.findObj X.K C (some od) "__class__" = some (.bind (.builtin "getset_descriptor.__get__") (.builtin "object.__class__")) := PySem.W.findObj_data c.ic c.ha c.hn c.htk
  refine PySem.W.get_bind I1.kIn J (PySem.W.plainGet_of c.hg).1 hf (PySem.W.plainGet_of c.hg).2 ?_
  refine wpAny_call (PySem.W.class_get (s := { s1 with toks := s1.toks + 1 }) I1.kIn J c.hm (PySem.W.handed_on rfl ?_))
  exact ⟨.ref C, H1, I1.tok _, rfl, q⟩
end
/-! ### C.__name__ -/
theorem nm_dga (d tp : Value) (C : Addr) : PySem.Builtin.Getset_descriptor.descrGetArgs ⟨[d, .ref C, tp], []⟩ = pure (d, some (.ref C), if tp == .none then none else some tp) := by
  rfl
section
open PySem.W Builtin Builtin.ObjectAttr Builtin.Getset_descriptor
variable {prog : Program} {w : World} {A : Around} {E : Value → Shared → Prop} {s : Shared} {R : Result → Shared → Prop}
theorem nm_get {C : Addr} {od : Option Addr} {cd : ClassData} {osl : Array (Option Value)} {n : Str} {t : Tok} {tp : Value} (hC : s.heap.get? C = some ⟨.type "type", od, .cls cd, osl⟩) (hs : osl[2]? = some (some (.str n t))) (h : R (.ok (.ret (.str n t))) s) :
    codeAny (model prog w) A (.call (.builtin "getset_descriptor.__get__") ⟨[.builtin "type.__name__", .ref C, tp], []⟩) R s := by
  obtain ⟨hh, g, dr, tk, os⟩ := s
  have L0 : Looks (model prog w) hh (typeOf (.ref C)) (.type "type") := (PySem.W.Looks.ld hC).andThen .now
  have L1 : Looks (model prog w) hh (isSubtype (.type "type") (.type "type")) true := Looks.of_pure (by rw [isSubtype_type]; kernel_rfl)
  refine codeAny_call_builtin KF.slot_gs.plain KF.entry_gs (KF.slot_gs.check _ _ _ _ _ _ _ _ ktyn_type (KF.args_gs _ _ _) ?_)
  unfold Builtin.«getset_descriptor.__get__» descrGet
  rw [nm_dga]
  refine wpAny_bind (wpAny_pure ?_)
  unfold descrGetter descrCheckInstance descrNameAndClass isInstance
  simp only [ktyn_owner]
  repeat lk
  refine ⟨Code.quiet_builtin _ (by decide +kernel), codeAny_builtin ktyn_entry ?_⟩
  unfold Builtin.«type.__name__»
  dsimp only
  unfold keptObject
  dsimp only
  unfold slotAt
  refine wpAny_bind (wpAny_bind (wpAny_loadPart hC (wpAny_pure ?_)))
  dsimp only
  rw [hs]
  exact wpAny_pure h
end
section
variable {X : Cx} {e : Expr} {pos : Pos} {ta : TE}
theorem pe_nameO (he : PE X e ta) (hb : attributeBase e "__name__" X.env (eval e X.env) = eval e X.env := by rfl) : PE X (.Attribute e "__name__" pos) (tNameO X.K ta) := by
  refine ⟨fun pins s σ H Q I h => ?_⟩
  refine attr_of hb (thn (he.run pins s σ H _ I h) fun u s1 ⟨x, H1, I1, rx, C, n, ex, c, q⟩ => ?_)
  subst ex
  obtain rfl : u = Value.ref C := rx
  obtain ⟨od, cd, osl, t, lk, hsl⟩ := c.lk
  refine PySem.W.cls_bind I1.kIn c.rd c.at_ (wpAny_call (nm_get (s := { s1 with toks := s1.toks + 1 }) (I1.kIn _ _ lk) hsl (PySem.W.handed_on rfl ?_)))
  exact ⟨.str n, H1, I1.tok _, ⟨t, rfl⟩, q⟩
end
end Dt
set_option Elab.async false
set_option linter.all false
set_option maxRecDepth 100000
set_option maxHeartbeats 4000000
/-! F34: fixed. -/
namespace Dt
open PySem PySem.Spec L2
local macro_rules | `(tactic| walk_at "st") => `(tactic| (simp only [L2.start, List.map_cons, List.map_nil, List.length_cons, List.length_nil, List.replicate_succ, List.replicate_zero, List.cons_append, List.nil_append, Nat.zero_add, Nat.reduceAdd, Nat.reduceSub]))
local macro_rules | `(tactic| walk_at "r1") => `(tactic| with_reducible first
  | refine g_seq ?_
  | refine g_next ?_
  | refine g_asg ?_
  | refine g_ifS ?_
  | refine g_ret ?_
  | refine g_retN ?_
  | refine g_drop ?_
  | refine g_brk ?_
  | refine g_c ?_
  | refine g_op ?_
  | refine g_un ?_
  | refine g_I0 ?_
  | refine g_U ?_
  | refine g_eqI ?_
  | refine g_neI ?_
  | refine g_eqS ?_
  | refine g_neS ?_
  | refine g_test ?_
  | refine g_B ?_
  | refine g_bl ?_
  | refine g_if ?_
  | refine g_not ?_
  | refine g_and ?_
  | refine g_or ?_
  | refine g_andV ?_
  | refine g_orV ?_
  | refine g_notV ?_
  | refine g_blif ?_
  | refine g_chain ?_
  | refine g_nil ?_
  | refine g_cons ?_
  | refine g_cb ?_
  | refine g_call ?_
  | refine g_tup ?_
  | refine g_lst ?_
  | refine g_tfld ?_
  | refine g_dget ?_
  | refine g_mk ?_
  | refine g_lc2 ?_
  | refine g_gfld ?_
  | refine g_meth ?_
  | refine g_sfld ?_
  | refine g_din ?_
  | refine g_dput ?_
  | refine g_isN_int ?_
  | refine g_isN_str ?_
  | refine g_isN_ref ?_
  | refine g_isN_non ?_
  | refine g_nN_int ?_
  | refine g_nN_str ?_
  | refine g_nN_ref ?_
  | refine g_nN_non ?_
  | refine g_lc ?_
  | refine g_dc ?_
  | refine g_for ?_
  | refine g_iStr ?_
  | refine g_iList ?_
  | refine g_iTup ?_
  | refine g_iR1 ?_
  | refine g_iR2 ?_
  | refine g_iR3 ?_
  | refine g_iEnum ?_
  | refine g_iZip ?_
  | refine g_iZipA ?_
  | refine g_bm ?_
  | refine g_bm0 ?_
  | refine g_m1 ?_
  | refine g_sl ?_
  | refine g_poN ?_
  | refine g_poS ?_
  | refine g_poI ?_
  | refine g_yes ?_
  | refine g_gtup ?_
  | refine g_gcons ?_
  | refine g_gnil ?_
  | refine g_par ?_
  | refine g_isi_ii ?_
  | refine g_isi_ib ?_
  | refine g_isi_ss ?_
  | refine g_inC ?_
  | refine g_int1 ?_
  | refine g_int1b ?_
  | refine g_abs ?_
  | refine g_ltS ?_
  | refine iteT ?_
  | refine iteNT ?_
  | refine iteNF ?_
  | refine iteF ?_)
local macro_rules | `(tactic| walk_at "sd") => `(tactic| first | assumption | rfl | decide | omega)
local macro_rules | `(tactic| walk_at "hp") => `(tactic| first | assumption | exact upd_same | exact Same.get (by assumption) (by walk_at "hp") | exact Off.get (by assumption) (by walk_at "hp") (by walk_at "ne"))
local macro_rules | `(tactic| walk_at "ne") => `(tactic| first | assumption | (refine Ne.symm ?_; assumption) | exact ne_of_none (by walk_at "hp") (by assumption) | exact ne_none (by walk_at "hp") (by assumption) | exact ne_of (by walk_at "hp") (by walk_at "hp") (by intro z; cases z))
local macro_rules | `(tactic| walk_at "sq") => `(tactic| first | assumption | exact SqL.rd (by walk_at "hp") | exact SqT.rd (by walk_at "hp") | exact Same.seq (by assumption) (by walk_at "sq") | exact Same.seqT (by assumption) (by walk_at "sq"))
local macro_rules | `(tactic| walk_at "rI") => `(tactic| ((with_reducible refine g_I ?_ ?_); (focus (first | (refine Or.inl ⟨?_, ?_⟩ <;> (first | decide | omega)) | (refine Or.inr ⟨?_, ?_⟩ <;> (first | decide | omega)) | (show (0 : Int) < _; first | decide | omega | assumption) | (refine And.intro ?_ ?_ <;> (first | decide | omega | (refine And.intro ?_ ?_ <;> (first | decide | omega))))))))
local macro_rules | `(tactic| walk_at "r2") => `(tactic| first
  | ((with_reducible refine g_tvar ?_); (refine ⟨_, rfl, ?_⟩))
  | ((with_reducible refine g_name' (σ' := ?s) ?e ?h); (case e => (simp only [wipe, List.set_cons_zero, List.set_cons_succ]; first | done | rfl)))
  | (refine And.intro (show wipe _ _ = wipe _ _ from rfl) ?_)
  | walk_at "rI")
local macro_rules | `(tactic| walk_at "rd") => `(tactic| repeat (first | walk_at "r1" | walk_at "r2"))
local macro_rules | `(tactic| walk_at "gn") => `(tactic| (intro pA hA; generalize hG : upd _ _ _ = H2A; (have sA : Same _ H2A := hG ▸ Same.upd hA); (have lA : H2A pA = some _ := hG ▸ upd_same); clear hG))
local macro_rules | `(tactic| walk_at "mk") => `(tactic| (intro xM dxM h1M h2M hneM; generalize hG : upd (upd _ _ _) _ _ = HM; (have sM : Same _ HM := hG ▸ Same.updW (Same.upd h2M) h1M); (have lM : HM xM = some _ := hG ▸ upd_same); clear hG))
section
variable {P : Program} {w : World} {K : PySem.W.Frag} {mg : Str → Option Value} {base : Heap}
def sp_none : Sp := fun _ _ _ _ => False
/-- flat: an int or a text -/
def Fl (v : V) : Prop := (∃ i, v = .int i) ∨ ∃ x, v = .str x
def sp_fixed1 : Sp := fun vs H Q _ => ∃ v, vs = [v] ∧ Fl v ∧ ∀ H', Same H H' → Q v H'
def sp_fixed2 : Sp := fun vs H Q _ => ∃ v, vs = [v] ∧ ((Fl v ∧ ∀ H', Same H H' → Q v H') ∨ ∃ (a : Addr) (xs : List V), v = .ref a ∧ H a = some (.tup xs) ∧ (∀ x ∈ xs, Fl x) ∧ xs.length ≤ 1000 ∧ ∀ p H', Same H H' → H' p = some (.tup xs) → Q (.ref p) H')
def sp_fixed3 : Sp := fun vs H Q _ => ∃ v, vs = [v] ∧ ∃ a : Addr, v = .ref a ∧ ((∃ (xs : List V), H a = some (.tup xs) ∧ (∀ x ∈ xs, Fl x) ∧ xs.length ≤ 1000 ∧ ∀ p H', Same H H' → H' p = some (.tup xs) → Q (.ref p) H') ∨
  ∃ (pa : Addr) (xs : List V) (i j k : Int), H a = some (.tup [.int i, .ref pa, .int j, .int k]) ∧ H pa = some (.tup xs) ∧ (∀ x ∈ xs, Fl x) ∧ xs.length ≤ 1000 ∧ ∀ p pa' H', Same H H' → H' p = some (.tup [.int i, .ref pa', .int j, .int k]) → H' pa' = some (.tup xs) → Q (.ref p) H')
theorem fixed0 (T : TX w K mg) : C8.Cal P w K mg base 0 "fixed" sp_none [] := by
  obtain ⟨f, fd, F, b⟩ := T.d_fixed
  exact ⟨f, fd, _, [], ⟨fun vs H Q E h => h.elim, fun A outer s H args us vs Q E _ _ _ _ h => h.elim⟩, F.mgf, F.kp, b, .nil⟩
theorem fixed1 (T : TX w K mg) (ih : C8.Cal P w K mg base 0 "fixed" sp_none []) : C8.Cal P w K mg base 1 "fixed" sp_fixed1 [] := by
  obtain ⟨f, fd, F, b⟩ := T.d_fixed
  have nd := sc_fixed.nd
  refine C8.cal0 F b .nil sc_fixed (fun vs H Q E h => ?_) (fun cdv A outer s H vs Q E hr h => ?_)
  · obtain ⟨v, rfl, _⟩ := h
    rfl
  · obtain ⟨v, rfl, hf, q⟩ := h
    refine ⟨_, (pss_one (ps_ret (pe_ifExp (pt_val (pe_callB call_isiT (by rfl) T.z_isinstance (by decide +kernel) (pa_cons (pv 0) (pa_cons (pe_tup (pa_cons (pe_ty (T := "list") (by rfl) T.z_list (by decide +kernel)) (pa_cons (pe_ty (T := "tuple") (by rfl) T.z_tuple (by decide +kernel)) pa_nil))) pa_nil)))) (pe_callTy kc_tup (by rfl) T.z_tuple (by decide +kernel) (pa_cons (pe_lc rfl nd (pi_tup (pv 0)) (blkOk_by (own := [("each", 1)]) (N := n_fixed) (sc := defScope s_fixed) (by decide +kernel)) (fun _ _ _ _ _ => (pg_name (i := 1) nd rfl (Or.inl rfl))) (fun _ _ _ _ _ => pts_nil) (fun _ _ _ _ _ => (C8.pe_c (ih) hr (Nat.le_refl _) (by rfl) (pa_cons (pv 1) pa_nil)))) pa_nil)) (pv 0)))), ?_⟩
    walk_at "st"
    walk_at "rd"
    refine ⟨show (2 : Nat) ≤ sizeLine by decide, fun tp np => ?_⟩
    have s1 := Same.upd (o := .tup [.ty "list", .ty "tuple"]) np
    have l1 := upd_same (H := H) (a := tp) (o := .tup [.ty "list", .ty "tuple"])
    generalize upd H tp (.tup [.ty "list", .ty "tuple"]) = H1 at s1 l1
    walk_at "rd"
    rcases hf with ⟨i, rfl⟩ | ⟨x, rfl⟩
    · refine g_isiT (.base (.int i)) kitA_int l1 ?_
      walk_at "rd"
      exact q _ s1
    · refine g_isiT (.base (.str x)) kitA_str l1 ?_
      walk_at "rd"
      exact q _ s1
theorem fixed2 (T : TX w K mg) (ih : C8.Cal P w K mg base 1 "fixed" sp_fixed1 []) : C8.Cal P w K mg base 2 "fixed" sp_fixed2 [] := by
  obtain ⟨f, fd, F, b⟩ := T.d_fixed
  have nd := sc_fixed.nd
  refine C8.cal0 F b .nil sc_fixed (fun vs H Q E h => ?_) (fun cdv A outer s H vs Q E hr h => ?_)
  · obtain ⟨v, rfl, _⟩ := h
    rfl
  · obtain ⟨v, rfl, h⟩ := h
    refine ⟨_, (pss_one (ps_ret (pe_ifExp (pt_val (pe_callB call_isiT (by rfl) T.z_isinstance (by decide +kernel) (pa_cons (pv 0) (pa_cons (pe_tup (pa_cons (pe_ty (T := "list") (by rfl) T.z_list (by decide +kernel)) (pa_cons (pe_ty (T := "tuple") (by rfl) T.z_tuple (by decide +kernel)) pa_nil))) pa_nil)))) (pe_callTy kc_tup (by rfl) T.z_tuple (by decide +kernel) (pa_cons (pe_lc rfl nd (pi_tup (pv 0)) (blkOk_by (own := [("each", 1)]) (N := n_fixed) (sc := defScope s_fixed) (by decide +kernel)) (fun _ _ _ _ _ => (pg_name (i := 1) nd rfl (Or.inl rfl))) (fun _ _ _ _ _ => pts_nil) (fun _ _ _ _ _ => (C8.pe_c (ih) hr (Nat.le_refl _) (by rfl) (pa_cons (pv 1) pa_nil)))) pa_nil)) (pv 0)))), ?_⟩
    walk_at "st"
    walk_at "rd"
    refine ⟨show (2 : Nat) ≤ sizeLine by decide, fun tp np => ?_⟩
    have s1 := Same.upd (o := .tup [.ty "list", .ty "tuple"]) np
    have l1 := upd_same (H := H) (a := tp) (o := .tup [.ty "list", .ty "tuple"])
    generalize upd H tp (.tup [.ty "list", .ty "tuple"]) = H1 at s1 l1
    walk_at "rd"
    rcases h with ⟨hf, q⟩ | ⟨a, xs, rfl, ha, hfl, hx, q⟩
    · rcases hf with ⟨i, rfl⟩ | ⟨x, rfl⟩
      · refine g_isiT (.base (.int i)) kitA_int l1 ?_
        walk_at "rd"
        exact q _ s1
      · refine g_isiT (.base (.str x)) kitA_str l1 ?_
        walk_at "rd"
        exact q _ s1
    · refine g_isiT (.base (.tup (s1 _ _ ha))) kitA_tup l1 ?_
      walk_at "rd"
      refine ⟨a, rfl, ⟨_, SqT.rd (s1 _ _ ha)⟩, fun D nD => ?_⟩
      refine lc_it walk_tup (PvL H1 D (fun v : V => some v) xs) (pvl_start nD) (fun _ _ _ pv => SqT.rd (pv.1 _ _ (s1 _ _ ha))) (fun i x H3 H4 hi pv y => ?_) (fun H3 pv => ?_)
      · obtain ⟨rfl, hx1⟩ := y
        walk_at "rd"
        refine ⟨x, rfl, hfl x (List.mem_of_getElem? hx1), fun H5 s5 => ?_⟩
        exact pvl_yes nD pv s5 hx1 rfl (by rw [sizeLine_eq]; omega)
      obtain ⟨s3, l3⟩ := pvl_end pv
      rw [fm_map, List.map_id'] at l3
      walk_at "rd"
      refine g_tupL (SqL.rd l3) fun p np => ?_
      exact q p _ ((s1.trans s3).trans (Same.upd np)) upd_same
theorem fixed3 (T : TX w K mg) (ih : C8.Cal P w K mg base 2 "fixed" sp_fixed2 []) : C8.Cal P w K mg base 3 "fixed" sp_fixed3 [] := by
  obtain ⟨f, fd, F, b⟩ := T.d_fixed
  have nd := sc_fixed.nd
  refine C8.cal0 F b .nil sc_fixed (fun vs H Q E h => ?_) (fun cdv A outer s H vs Q E hr h => ?_)
  · obtain ⟨v, rfl, _⟩ := h
    rfl
  · obtain ⟨v, rfl, a, rfl, h⟩ := h
    refine ⟨_, (pss_one (ps_ret (pe_ifExp (pt_val (pe_callB call_isiT (by rfl) T.z_isinstance (by decide +kernel) (pa_cons (pv 0) (pa_cons (pe_tup (pa_cons (pe_ty (T := "list") (by rfl) T.z_list (by decide +kernel)) (pa_cons (pe_ty (T := "tuple") (by rfl) T.z_tuple (by decide +kernel)) pa_nil))) pa_nil)))) (pe_callTy kc_tup (by rfl) T.z_tuple (by decide +kernel) (pa_cons (pe_lc rfl nd (pi_tup (pv 0)) (blkOk_by (own := [("each", 1)]) (N := n_fixed) (sc := defScope s_fixed) (by decide +kernel)) (fun _ _ _ _ _ => (pg_name (i := 1) nd rfl (Or.inl rfl))) (fun _ _ _ _ _ => pts_nil) (fun _ _ _ _ _ => (C8.pe_c (ih) hr (Nat.le_refl _) (by rfl) (pa_cons (pv 1) pa_nil)))) pa_nil)) (pv 0)))), ?_⟩
    walk_at "st"
    walk_at "rd"
    refine ⟨show (2 : Nat) ≤ sizeLine by decide, fun tp np => ?_⟩
    have s1 := Same.upd (o := .tup [.ty "list", .ty "tuple"]) np
    have l1 := upd_same (H := H) (a := tp) (o := .tup [.ty "list", .ty "tuple"])
    generalize upd H tp (.tup [.ty "list", .ty "tuple"]) = H1 at s1 l1
    walk_at "rd"
    rcases h with ⟨xs, ha, hfl, hx, q⟩ | ⟨pa, xs, i0, j0, k0, ha, hpa, hfl, hx, q⟩
    · refine g_isiT (.base (.tup (s1 _ _ ha))) kitA_tup l1 ?_
      walk_at "rd"
      refine ⟨a, rfl, ⟨_, SqT.rd (s1 _ _ ha)⟩, fun D nD => ?_⟩
      refine lc_it walk_tup (PvL H1 D (fun v : V => some v) xs) (pvl_start nD) (fun _ _ _ pv => SqT.rd (pv.1 _ _ (s1 _ _ ha))) (fun i x H3 H4 hi pv y => ?_) (fun H3 pv => ?_)
      · obtain ⟨rfl, hx1⟩ := y
        walk_at "rd"
        refine ⟨x, rfl, .inl ⟨hfl x (List.mem_of_getElem? hx1), fun H5 s5 => ?_⟩⟩
        exact pvl_yes nD pv s5 hx1 rfl (by rw [sizeLine_eq]; omega)
      obtain ⟨s3, l3⟩ := pvl_end pv
      rw [fm_map, List.map_id'] at l3
      walk_at "rd"
      refine g_tupL (SqL.rd l3) fun p np => ?_
      exact q p _ ((s1.trans s3).trans (Same.upd np)) upd_same
    · refine g_isiT (.base (.tup (s1 _ _ ha))) kitA_tup l1 ?_
      walk_at "rd"
      refine ⟨a, rfl, ⟨_, SqT.rd (s1 _ _ ha)⟩, fun D nD => ?_⟩
      refine lc_it walk_tup (fun i H' => Same H1 H' ∧ ∃ pa' : Addr, (1 < i → H' pa' = some (.tup xs)) ∧ H' D = some (.lst (([.int i0, .ref pa', .int j0, .int k0] : List V).take i))) ⟨Same.upd nD, 0, fun h => absurd h (by decide), upd_same⟩ (fun _ _ _ pv => SqT.rd (pv.1 _ _ (s1 _ _ ha))) (fun i x H3 H4 hi pv y => ?_) (fun H3 pv => ?_)
      · obtain ⟨rfl, hx1⟩ := y
        obtain ⟨s4, pa', hp', hD⟩ := pv
        walk_at "rd"
        match i, hi with
        | 0, _ =>
          have e : x = .int i0 := (Option.some.inj hx1).symm
          subst e
          refine ⟨_, rfl, .inl ⟨.inl ⟨_, rfl⟩, fun H5 s5 => ?_⟩⟩
          exact ⟨_, s5 _ _ hD, by show (0 : Nat) < sizeLine; decide, Same.updW (s4.trans s5) nD, pa', fun h => absurd h (by decide), upd_same⟩
        | 1, _ =>
          have e : x = .ref pa := (Option.some.inj hx1).symm
          subst e
          refine ⟨_, rfl, .inr ⟨pa, xs, rfl, s4 _ _ (s1 _ _ hpa), hfl, hx, fun p H5 s5 hp5 => ?_⟩⟩
          exact ⟨_, s5 _ _ hD, by show (1 : Nat) < sizeLine; decide, Same.updW (s4.trans s5) nD, p, fun _ => by rw [upd_ne (ne_of hp5 (s5 _ _ hD) (by intro z; cases z))]; exact hp5, upd_same⟩
        | 2, _ =>
          have e : x = .int j0 := (Option.some.inj hx1).symm
          subst e
          refine ⟨_, rfl, .inl ⟨.inl ⟨_, rfl⟩, fun H5 s5 => ?_⟩⟩
          exact ⟨_, s5 _ _ hD, by show (2 : Nat) < sizeLine; decide, Same.updW (s4.trans s5) nD, pa', fun _ => by rw [upd_ne (ne_of (s5 _ _ (hp' (by decide))) (s5 _ _ hD) (by intro z; cases z))]; exact s5 _ _ (hp' (by decide)), upd_same⟩
        | 3, _ =>
          have e : x = .int k0 := (Option.some.inj hx1).symm
          subst e
          refine ⟨_, rfl, .inl ⟨.inl ⟨_, rfl⟩, fun H5 s5 => ?_⟩⟩
          exact ⟨_, s5 _ _ hD, by show (3 : Nat) < sizeLine; decide, Same.updW (s4.trans s5) nD, pa', fun _ => by rw [upd_ne (ne_of (s5 _ _ (hp' (by decide))) (s5 _ _ hD) (by intro z; cases z))]; exact s5 _ _ (hp' (by decide)), upd_same⟩
        | k + 4, h => exact absurd h (by show ¬ k + 4 < 4; omega)
      obtain ⟨s3, pa', hp', hD⟩ := pv
      have l3 : H3 D = some (.lst [.int i0, .ref pa', .int j0, .int k0]) := hD
      have hp3 := hp' (show (1 : Nat) < 4 by decide)
      walk_at "rd"
      refine g_tupL (SqL.rd l3) fun p np => ?_
      refine q p pa' _ ((s1.trans s3).trans (Same.upd np)) upd_same ?_
      exact Same.upd np _ _ hp3
theorem c_fixed (T : TX w K mg) : C8.Cal P w K mg base 3 "fixed" sp_fixed3 [] := fixed3 T (fixed2 T (fixed1 T (fixed0 T)))
end
end Dt
set_option Elab.async false
set_option linter.all false
set_option maxRecDepth 100000
set_option maxHeartbeats 4000000
/-! F35: Paper.__init__, Found, NotYet. -/
namespace Dt
open PySem PySem.Spec L2
open PySem.W (ksFn fnOf)
local macro_rules | `(tactic| walk_at "st") => `(tactic| (simp only [L2.start, List.map_cons, List.map_nil, List.length_cons, List.length_nil, List.replicate_succ, List.replicate_zero, List.cons_append, List.nil_append, Nat.zero_add, Nat.reduceAdd, Nat.reduceSub]))
local macro_rules | `(tactic| walk_at "r1") => `(tactic| with_reducible first
  | refine g_seq ?_
  | refine g_next ?_
  | refine g_asg ?_
  | refine g_ifS ?_
  | refine g_ret ?_
  | refine g_retN ?_
  | refine g_drop ?_
  | refine g_brk ?_
  | refine g_c ?_
  | refine g_op ?_
  | refine g_un ?_
  | refine g_I0 ?_
  | refine g_U ?_
  | refine g_eqI ?_
  | refine g_neI ?_
  | refine g_eqS ?_
  | refine g_neS ?_
  | refine g_test ?_
  | refine g_B ?_
  | refine g_bl ?_
  | refine g_if ?_
  | refine g_not ?_
  | refine g_and ?_
  | refine g_or ?_
  | refine g_andV ?_
  | refine g_orV ?_
  | refine g_notV ?_
  | refine g_blif ?_
  | refine g_chain ?_
  | refine g_nil ?_
  | refine g_cons ?_
  | refine g_cb ?_
  | refine g_call ?_
  | refine g_tup ?_
  | refine g_lst ?_
  | refine g_tfld ?_
  | refine g_dget ?_
  | refine g_mk ?_
  | refine g_lc2 ?_
  | refine g_gfld ?_
  | refine g_meth ?_
  | refine g_sfld ?_
  | refine g_din ?_
  | refine g_dput ?_
  | refine g_isN_int ?_
  | refine g_isN_str ?_
  | refine g_isN_ref ?_
  | refine g_isN_non ?_
  | refine g_nN_int ?_
  | refine g_nN_str ?_
  | refine g_nN_ref ?_
  | refine g_nN_non ?_
  | refine g_lc ?_
  | refine g_dc ?_
  | refine g_for ?_
  | refine g_iStr ?_
  | refine g_iList ?_
  | refine g_iTup ?_
  | refine g_iR1 ?_
  | refine g_iR2 ?_
  | refine g_iR3 ?_
  | refine g_iEnum ?_
  | refine g_iZip ?_
  | refine g_iZipA ?_
  | refine g_bm ?_
  | refine g_bm0 ?_
  | refine g_m1 ?_
  | refine g_sl ?_
  | refine g_poN ?_
  | refine g_poS ?_
  | refine g_poI ?_
  | refine g_yes ?_
  | refine g_gtup ?_
  | refine g_gcons ?_
  | refine g_gnil ?_
  | refine g_par ?_
  | refine g_isi_ii ?_
  | refine g_isi_ib ?_
  | refine g_isi_ss ?_
  | refine g_inC ?_
  | refine g_int1 ?_
  | refine g_int1b ?_
  | refine g_abs ?_
  | refine g_ltS ?_
  | refine iteT ?_
  | refine iteNT ?_
  | refine iteNF ?_
  | refine iteF ?_)
local macro_rules | `(tactic| walk_at "sd") => `(tactic| first | assumption | rfl | decide | omega)
local macro_rules | `(tactic| walk_at "hp") => `(tactic| first | assumption | exact upd_same | exact Same.get (by assumption) (by walk_at "hp") | exact Off.get (by assumption) (by walk_at "hp") (by walk_at "ne"))
local macro_rules | `(tactic| walk_at "ne") => `(tactic| first | assumption | (refine Ne.symm ?_; assumption) | exact ne_of_none (by walk_at "hp") (by assumption) | exact ne_none (by walk_at "hp") (by assumption) | exact ne_of (by walk_at "hp") (by walk_at "hp") (by intro z; cases z))
local macro_rules | `(tactic| walk_at "sq") => `(tactic| first | assumption | exact SqL.rd (by walk_at "hp") | exact SqT.rd (by walk_at "hp") | exact Same.seq (by assumption) (by walk_at "sq") | exact Same.seqT (by assumption) (by walk_at "sq"))
local macro_rules | `(tactic| walk_at "rI") => `(tactic| ((with_reducible refine g_I ?_ ?_); (focus (first | (refine Or.inl ⟨?_, ?_⟩ <;> (first | decide | omega)) | (refine Or.inr ⟨?_, ?_⟩ <;> (first | decide | omega)) | (show (0 : Int) < _; first | decide | omega | assumption) | (refine And.intro ?_ ?_ <;> (first | decide | omega | (refine And.intro ?_ ?_ <;> (first | decide | omega))))))))
local macro_rules | `(tactic| walk_at "r2") => `(tactic| first
  | ((with_reducible refine g_tvar ?_); (refine ⟨_, rfl, ?_⟩))
  | ((with_reducible refine g_name' (σ' := ?s) ?e ?h); (case e => (simp only [wipe, List.set_cons_zero, List.set_cons_succ]; first | done | rfl)))
  | (refine And.intro (show wipe _ _ = wipe _ _ from rfl) ?_)
  | walk_at "rI")
local macro_rules | `(tactic| walk_at "rd") => `(tactic| repeat (first | walk_at "r1" | walk_at "r2"))
local macro_rules | `(tactic| walk_at "gn") => `(tactic| (intro pA hA; generalize hG : upd _ _ _ = H2A; (have sA : Same _ H2A := hG ▸ Same.upd hA); (have lA : H2A pA = some _ := hG ▸ upd_same); clear hG))
local macro_rules | `(tactic| walk_at "mk") => `(tactic| (intro xM dxM h1M h2M hneM; generalize hG : upd (upd _ _ _) _ _ = HM; (have sM : Same _ HM := hG ▸ Same.updW (Same.upd h2M) h1M); (have lM : HM xM = some _ := hG ▸ upd_same); clear hG))
/-- what the top has left of the papers -/
structure TY (P : Program) (K : PySem.W.Frag) : Prop where
  paper : ∃ oc od osl kV doc pm an cdv ct, K.lookup (He.ma K (He.ga K "Paper") "__init__") = some ⟨oc, od, .func (fnOf "__init__" "Paper.__init__" (C8.fnArgs s_Paper_init) (C8.fnBody s_Paper_init) (C8.fnScope s_Paper_init) .none kV doc pm an cdv ct), osl⟩ ∧ PySem.W.codeIn K cdv "Paper.__init__" = true
  found : ∃ cda cc dV kV doc pm an ct, SupFacts P K (He.ga K "Found") (He.ga K "Found") (He.ma K (He.ga K "Found") "__init__") (He.ma K (He.ga K "Paper") "__init__") cda cc (ksFn "__init__" "Found.__init__" (C8.fnArgs s_Found_init) (C8.fnBody s_Found_init) (C8.fnScope s_Found_init) dV kV doc pm an (.ref cda) ct cc) ∧
    PySem.W.codeIn K (.ref cda) "Found.__init__" = true ∧ Binds K (ksFn "__init__" "Found.__init__" (C8.fnArgs s_Found_init) (C8.fnBody s_Found_init) (C8.fnScope s_Found_init) dV kV doc pm an (.ref cda) ct cc) ["self", "answer", "program", "step", "tick"] []
  notyet : ∃ cda cc dV kV doc pm an ct, SupFacts P K (He.ga K "NotYet") (He.ga K "NotYet") (He.ma K (He.ga K "NotYet") "__init__") (He.ma K (He.ga K "Paper") "__init__") cda cc (ksFn "__init__" "NotYet.__init__" (C8.fnArgs s_NotYet_init) (C8.fnBody s_NotYet_init) (C8.fnScope s_NotYet_init) dV kV doc pm an (.ref cda) ct cc) ∧
    PySem.W.codeIn K (.ref cda) "NotYet.__init__" = true ∧ Binds K (ksFn "__init__" "NotYet.__init__" (C8.fnArgs s_NotYet_init) (C8.fnBody s_NotYet_init) (C8.fnScope s_NotYet_init) dV kV doc pm an (.ref cda) ct cc) ["self", "tick"] []
  eq : ∃ fE fd, PySem.W.findIn K (.ref (He.ga K "NotYet")) "__eq__" = some (some (.ref fE)) ∧ PySem.W.isFn K (.ref fE) = true ∧ C8.Fun K "__eq__" "Paper.__eq__" s_Paper_eq fE fd ∧ Binds K fd ["self", "other"] []
  cls : ClsOk K (He.ga K "NotYet")
  nm : NameOk K (He.ga K "NotYet") "NotYet"
section
variable {P : Program} {w : World} {K : PySem.W.Frag} {mg : Str → Option Value} {base : Heap}
def sp_Paper_init : PySem.W.Frag → Sp := fun K vs H Q _ => ∃ (a p C dx : Addr) (wd : Str), vs = [.ref a, .str wd, .ref p] ∧ H a = some (.ins C dx []) ∧ Cls K C ∧ NoAttr K C "word" ∧ NoAttr K C "parts" ∧
  ((∃ xs, H p = some (.tup xs) ∧ (∀ x ∈ xs, Fl x) ∧ xs.length ≤ 1000 ∧ ∀ q H', Off a H H' → H' a = some (.ins C dx [("word", .str wd), ("parts", .ref q)]) → H' q = some (.tup xs) → Q .non H') ∨
   ∃ (pa : Addr) (xs : List V) (i j k : Int), H p = some (.tup [.int i, .ref pa, .int j, .int k]) ∧ H pa = some (.tup xs) ∧ (∀ x ∈ xs, Fl x) ∧ xs.length ≤ 1000 ∧
     ∀ q pa' H', Off a H H' → H' a = some (.ins C dx [("word", .str wd), ("parts", .ref q)]) → H' q = some (.tup [.int i, .ref pa', .int j, .int k]) → H' pa' = some (.tup xs) → Q .non H')
def spStar (sp : Sp) : Sp := fun vs H Q E => ∃ ws rest, vs = ws ++ rest ∧ ws.length = (["self", "word"] : List Str).length ∧ rest.length ≤ sizeLine ∧ ∀ p, H p = Option.none → sp (ws ++ [V.ref p]) (upd H p (.tup rest)) Q E
theorem f_Paper_init (T : TX w K mg) (Y : TY P K) : FnR P w K mg base C8.CX0 4 (He.ma K (He.ga K "Paper") "__init__") (spStar (sp_Paper_init K)) := by
  obtain ⟨oc, od, osl, kV, doc, pm, an, cdv, ct, lk, hcd⟩ := Y.paper
  have nd := sc_Paper_init.nd
  refine StX.fn_star (ps := ["self", "word"]) (pv := "parts") (sp := sp_Paper_init K) lk hcd sc_Paper_init StX.cxUp_none (StX.bind_star2 (B := fun us => bindArgs (fnOf "__init__" "Paper.__init__" (C8.fnArgs s_Paper_init) (C8.fnBody s_Paper_init) (C8.fnScope s_Paper_init) .none kV doc pm an cdv ct) ⟨us, []⟩) (fun a b => ?_) (fun a b r rs => ?_)) (fun A outer s H vs Q E hr h => ?_)
  · kernel_rfl
  · kernel_rfl
  · obtain ⟨a, p, C, dx, wd, rfl, ha, hc, n1, n2, h⟩ := h
    refine ⟨_, (pss_cons (ps_fld (pv 0) (pv 1) rfl)
    (pss_one (ps_fld (pv 0) (C8.pe_c (c_fixed T) hr (by decide) (by rfl) (pa_cons (pv 2) pa_nil)) rfl))), ?_⟩
    walk_at "st"
    walk_at "rd"
    refine g_sf [("word", .str wd)] ha hc n1 (show (0 : Nat) < 1000 by decide) (by kernel_rfl) fun H1 o1 l1 => ?_
    walk_at "rd"
    rcases h with ⟨xs, hp, hfl, hx, q⟩ | ⟨pa, xs, i, j, k, hp, hpa, hfl, hx, q⟩
    · have hpa : p ≠ a := ne_of hp ha (by intro z; cases z)
      refine ⟨_, rfl, p, rfl, .inl ⟨xs, o1 _ _ hp hpa, hfl, hx, fun q1 H2 s2 l2 => ?_⟩⟩
      walk_at "rd"
      refine g_sf [("word", .str wd), ("parts", .ref q1)] (s2 _ _ l1) hc n2 (show (1 : Nat) < 1000 by decide) (by kernel_rfl) fun H3 o3 l3 => ?_
      walk_at "rd"
      exact q q1 H3 (fun b u h n => o3 _ _ (s2 _ _ (o1 _ _ h n)) n) l3 (o3 _ _ l2 (ne_of l2 (s2 _ _ l1) (by intro z; cases z)))
    · have hp1 : p ≠ a := ne_of hp ha (by intro z; cases z)
      have hp2 : pa ≠ a := ne_of hpa ha (by intro z; cases z)
      refine ⟨_, rfl, p, rfl, .inr ⟨pa, xs, i, j, k, o1 _ _ hp hp1, o1 _ _ hpa hp2, hfl, hx, fun q1 pa' H2 s2 l2 l2' => ?_⟩⟩
      walk_at "rd"
      refine g_sf [("word", .str wd), ("parts", .ref q1)] (s2 _ _ l1) hc n2 (show (1 : Nat) < 1000 by decide) (by kernel_rfl) fun H3 o3 l3 => ?_
      walk_at "rd"
      exact q q1 pa' H3 (fun b u h n => o3 _ _ (s2 _ _ (o1 _ _ h n)) n) l3 (o3 _ _ l2 (ne_of l2 (s2 _ _ l1) (by intro z; cases z))) (o3 _ _ l2' (ne_of l2' (s2 _ _ l1) (by intro z; cases z)))
theorem sS_Found : FnScopeS n_Found_init ["self", "answer", "program", "step", "tick"] (C8.fnScope s_Found_init) := ⟨by decide +kernel, by decide +kernel, by decide +kernel, by decide +kernel, by decide +kernel, by decide +kernel, by decide +kernel, by decide +kernel, by decide +kernel, by decide +kernel, by decide +kernel, by decide +kernel⟩
theorem sS_NotYet : FnScopeS n_NotYet_init ["self", "tick"] (C8.fnScope s_NotYet_init) := ⟨by decide +kernel, by decide +kernel, by decide +kernel, by decide +kernel, by decide +kernel, by decide +kernel, by decide +kernel, by decide +kernel, by decide +kernel, by decide +kernel, by decide +kernel, by decide +kernel⟩
def FoundAt (K : PySem.W.Frag) (H : Hp) (c : Addr) (ans : Int) (pa : Addr) (p : List Str) (step tick : Int) : Prop :=
  ∃ dx q, H c = some (.ins (He.ga K "Found") dx [("word", .str "found"), ("parts", .ref q), ("answer", .int ans), ("program", .ref pa), ("step", .int step), ("tick", .int tick)]) ∧ H pa = some (.tup (p.map V.str))
def sp_Found_init : PySem.W.Frag → Sp := fun K vs H Q _ => ∃ (a pa dx : Addr) (p : List Str) (ans step tick : Int), vs = [.ref a, .int ans, .ref pa, .int step, .int tick] ∧ H a = some (.ins (He.ga K "Found") dx []) ∧ H pa = some (.tup (p.map V.str)) ∧ p.length ≤ 1000 ∧
  ∀ pa' H', Off a H H' → FoundAt K H' a ans pa' p step tick → Q .non H'
theorem f_Found_init (T : TX w K mg) (Y : TY P K) : ∃ fd, FnOk P w K mg base C8.CX0 5 (He.ma K (He.ga K "Found") "__init__") fd ["self", "answer", "program", "step", "tick"] (sp_Found_init K) ∧ Binds K fd ["self", "answer", "program", "step", "tick"] [] := by
  obtain ⟨cda, cc, dV, kV, doc, pm, an, ct, SF, hcd, b⟩ := Y.found
  have nd := sS_Found.nd
  refine ⟨_, ?_, b⟩
  refine fn_sup (sp := sp_Found_init K) (sp2 := spStar (sp_Paper_init K)) SF hcd sS_Found (fun vs H Q E h => ?_) T.z_super (by decide +kernel) (f_Paper_init T Y) (fun L => ⟨rfl, rfl, ⟨_, rfl⟩, rfl, rfl⟩) (fun A outer s H vs Q E hr h => ?_)
  · obtain ⟨a, pa, dx, p, ans, step, tick, rfl, _⟩ := h
    rfl
  · obtain ⟨a, pa, dx, p, ans, step, tick, rfl, ha, hpa, h1000, q⟩ := h
    refine ⟨_, _, (pa_cons pe_str (pa_cons (pv 1) (pa_cons (pv 2) (pa_cons (pv 3) (pa_cons (pv 4) pa_nil))))), (pss_one (ps_asg (pe_fld (pv 0) rfl) (pg_tup rfl (pgs_cons (pg_at (pv 0)) (pgs_cons (pg_at (pv 0)) (pgs_cons (pg_at (pv 0)) (pgs_cons (pg_at (pv 0)) pgs_nil))))))), ?_⟩
    walk_at "st"
    refine ⟨a, dx, [], rfl, ha, fun q0 nq0 => ?_⟩
    have s1 := Same.upd (o := .met (He.ma K (He.ga K "Paper") "__init__") a) nq0
    have l1 := upd_same (H := H) (a := q0) (o := .met (He.ma K (He.ga K "Paper") "__init__") a)
    generalize upd H q0 (.met (He.ma K (He.ga K "Paper") "__init__") a) = H1 at s1 l1
    walk_at "rd"
    refine ⟨l1, [.ref a, .str "found"], [.int ans, .ref pa, .int step, .int tick], rfl, rfl, show (4 : Nat) ≤ sizeLine by decide, fun p1 np1 => ?_⟩
    have s2 := Same.upd (o := .tup [.int ans, .ref pa, .int step, .int tick]) np1
    have l2 := upd_same (H := H1) (a := p1) (o := .tup [.int ans, .ref pa, .int step, .int tick])
    generalize upd H1 p1 (.tup [.int ans, .ref pa, .int step, .int tick]) = H2 at s2 l2
    refine ⟨a, p1, He.ga K "Found", dx, "found", rfl, s2 _ _ (s1 _ _ ha), T.cl_Found, T.n_Found_word, T.n_Found_parts, .inr ⟨pa, p.map V.str, ans, step, tick, l2, s2 _ _ (s1 _ _ hpa), fun x hx => ?_, by rw [List.length_map]; exact h1000, fun q1 pa' H3 o3 l3 hq1 hpa' => ?_⟩⟩
    · obtain ⟨y, _, rfl⟩ := List.mem_map.mp hx
      exact .inr ⟨_, rfl⟩
    walk_at "rd"
    refine g_fl (v := .ref q1) l3 T.cl_Found T.n_Found_parts (by kernel_rfl) ?_
    walk_at "rd"
    refine ⟨q1, _, rfl, SqT.rd hq1, rfl, ?_⟩
    have nq1 : q1 ≠ a := ne_of hq1 l3 (by intro z; cases z)
    have npa : pa' ≠ a := ne_of hpa' l3 (by intro z; cases z)
    walk_at "rd"
    refine g_sf2 [("word", .str "found"), ("parts", .ref q1), ("answer", .int ans)] l3 T.cl_Found T.n_Found_answer (show (2 : Nat) < 1000 by decide) (by kernel_rfl) fun H4 o4 l4 => ?_
    walk_at "rd"
    refine g_sf2 [("word", .str "found"), ("parts", .ref q1), ("answer", .int ans), ("program", .ref pa')] l4 T.cl_Found T.n_Found_program (show (3 : Nat) < 1000 by decide) (by kernel_rfl) fun H5 o5 l5 => ?_
    walk_at "rd"
    refine g_sf2 [("word", .str "found"), ("parts", .ref q1), ("answer", .int ans), ("program", .ref pa'), ("step", .int step)] l5 T.cl_Found T.n_Found_step (show (4 : Nat) < 1000 by decide) (by kernel_rfl) fun H6 o6 l6 => ?_
    walk_at "rd"
    refine g_sf2 [("word", .str "found"), ("parts", .ref q1), ("answer", .int ans), ("program", .ref pa'), ("step", .int step), ("tick", .int tick)] l6 T.cl_Found T.n_Found_tick (show (5 : Nat) < 1000 by decide) (by kernel_rfl) fun H7 o7 l7 => ?_
    walk_at "rd"
    refine q pa' H7 (fun b u h n => o7 _ _ (o6 _ _ (o5 _ _ (o4 _ _ (o3 _ _ (s2 _ _ (s1 _ _ h)) n) n) n) n) n) ⟨dx, q1, l7, o7 _ _ (o6 _ _ (o5 _ _ (o4 _ _ hpa' npa) npa) npa) npa⟩
theorem k_Found (T : TX w K mg) (Y : TY P K) : C8.Mak P w K mg base 5 "Found" (He.ga K "Found") (sp_Found_init K) [] := by
  obtain ⟨fd, F, b⟩ := f_Found_init (base := base) T Y
  obtain ⟨u, hm, r⟩ := T.v_Found
  cases r
  exact ⟨_, fd, _, [], T.mk_Found, F, hm, b, .nil⟩
def NotYetAt (K : PySem.W.Frag) (H : Hp) (c : Addr) (tick : Int) : Prop :=
  ∃ dx q, H c = some (.ins (He.ga K "NotYet") dx [("word", .str "notyet"), ("parts", .ref q), ("tick", .int tick)]) ∧ H q = some (.tup [.int tick])
def sp_NotYet_init : PySem.W.Frag → Sp := fun K vs H Q _ => ∃ (a dx : Addr) (tick : Int), vs = [.ref a, .int tick] ∧ H a = some (.ins (He.ga K "NotYet") dx []) ∧ ∀ H', Off a H H' → NotYetAt K H' a tick → Q .non H'
theorem f_NotYet_init (T : TX w K mg) (Y : TY P K) : ∃ fd, FnOk P w K mg base C8.CX0 5 (He.ma K (He.ga K "NotYet") "__init__") fd ["self", "tick"] (sp_NotYet_init K) ∧ Binds K fd ["self", "tick"] [] := by
  obtain ⟨cda, cc, dV, kV, doc, pm, an, ct, SF, hcd, b⟩ := Y.notyet
  have nd := sS_NotYet.nd
  refine ⟨_, ?_, b⟩
  refine fn_sup (sp := sp_NotYet_init K) (sp2 := spStar (sp_Paper_init K)) SF hcd sS_NotYet (fun vs H Q E h => ?_) T.z_super (by decide +kernel) (f_Paper_init T Y) (fun L => ⟨rfl, rfl, ⟨_, rfl⟩, rfl, rfl⟩) (fun A outer s H vs Q E hr h => ?_)
  · obtain ⟨a, dx, tick, rfl, _⟩ := h
    rfl
  · obtain ⟨a, dx, tick, rfl, ha, q⟩ := h
    refine ⟨_, _, (pa_cons pe_str (pa_cons (pv 1) pa_nil)), (pss_one (ps_fld (pv 0) (pe_ix ix_tup (pe_fld (pv 0) rfl) pe_int (fun _ _ => rfl)) rfl)), ?_⟩
    walk_at "st"
    refine ⟨a, dx, [], rfl, ha, fun q0 nq0 => ?_⟩
    have s1 := Same.upd (o := .met (He.ma K (He.ga K "Paper") "__init__") a) nq0
    have l1 := upd_same (H := H) (a := q0) (o := .met (He.ma K (He.ga K "Paper") "__init__") a)
    generalize upd H q0 (.met (He.ma K (He.ga K "Paper") "__init__") a) = H1 at s1 l1
    walk_at "rd"
    refine ⟨l1, [.ref a, .str "notyet"], [.int tick], rfl, rfl, show (1 : Nat) ≤ sizeLine by decide, fun p1 np1 => ?_⟩
    have s2 := Same.upd (o := .tup [.int tick]) np1
    have l2 := upd_same (H := H1) (a := p1) (o := .tup [.int tick])
    generalize upd H1 p1 (.tup [.int tick]) = H2 at s2 l2
    refine ⟨a, p1, He.ga K "NotYet", dx, "notyet", rfl, s2 _ _ (s1 _ _ ha), T.cl_NotYet, T.n_NotYet_word, T.n_NotYet_parts, .inl ⟨[.int tick], l2, fun x hx => ?_, show (1 : Nat) ≤ 1000 by decide, fun q1 H3 o3 l3 hq1 => ?_⟩⟩
    · rw [List.mem_singleton.mp hx]
      exact .inl ⟨_, rfl⟩
    walk_at "rd"
    refine g_fl (v := .ref q1) l3 T.cl_NotYet T.n_NotYet_parts (by kernel_rfl) ?_
    walk_at "rd"
    refine g_ixT (SqT.rd hq1) (atI_nat (j := 0) rfl) ?_
    walk_at "rd"
    refine g_sf [("word", .str "notyet"), ("parts", .ref q1), ("tick", .int tick)] l3 T.cl_NotYet T.n_NotYet_tick (show (2 : Nat) < 1000 by decide) (by kernel_rfl) fun H4 o4 l4 => ?_
    walk_at "rd"
    exact q H4 (fun b u h n => o4 _ _ (o3 _ _ (s2 _ _ (s1 _ _ h)) n) n) ⟨dx, q1, l4, o4 _ _ hq1 (ne_of hq1 l3 (by intro z; cases z))⟩
theorem k_NotYet (T : TX w K mg) (Y : TY P K) : C8.Mak P w K mg base 5 "NotYet" (He.ga K "NotYet") (sp_NotYet_init K) [] := by
  obtain ⟨fd, F, b⟩ := f_NotYet_init (base := base) T Y
  obtain ⟨u, hm, r⟩ := T.v_NotYet
  cases r
  exact ⟨_, fd, _, [], T.mk_NotYet, F, hm, b, .nil⟩
end
end Dt
set_option Elab.async false
set_option linter.all false
set_option maxRecDepth 100000
set_option maxHeartbeats 4000000
/-! F36: Paper.__eq__. -/
namespace Dt
open PySem PySem.Spec L2
local macro_rules | `(tactic| walk_at "st") => `(tactic| (simp only [L2.start, List.map_cons, List.map_nil, List.length_cons, List.length_nil, List.replicate_succ, List.replicate_zero, List.cons_append, List.nil_append, Nat.zero_add, Nat.reduceAdd, Nat.reduceSub]))
local macro_rules | `(tactic| walk_at "r1") => `(tactic| with_reducible first
  | refine g_seq ?_
  | refine g_next ?_
  | refine g_asg ?_
  | refine g_ifS ?_
  | refine g_ret ?_
  | refine g_retN ?_
  | refine g_drop ?_
  | refine g_brk ?_
  | refine g_c ?_
  | refine g_op ?_
  | refine g_un ?_
  | refine g_I0 ?_
  | refine g_U ?_
  | refine g_eqI ?_
  | refine g_neI ?_
  | refine g_eqS ?_
  | refine g_neS ?_
  | refine g_test ?_
  | refine g_B ?_
  | refine g_bl ?_
  | refine g_if ?_
  | refine g_not ?_
  | refine g_and ?_
  | refine g_or ?_
  | refine g_andV ?_
  | refine g_orV ?_
  | refine g_notV ?_
  | refine g_blif ?_
  | refine g_chain ?_
  | refine g_nil ?_
  | refine g_cons ?_
  | refine g_cb ?_
  | refine g_call ?_
  | refine g_tup ?_
  | refine g_lst ?_
  | refine g_tfld ?_
  | refine g_dget ?_
  | refine g_mk ?_
  | refine g_lc2 ?_
  | refine g_gfld ?_
  | refine g_meth ?_
  | refine g_sfld ?_
  | refine g_din ?_
  | refine g_dput ?_
  | refine g_isN_int ?_
  | refine g_isN_str ?_
  | refine g_isN_ref ?_
  | refine g_isN_non ?_
  | refine g_nN_int ?_
  | refine g_nN_str ?_
  | refine g_nN_ref ?_
  | refine g_nN_non ?_
  | refine g_lc ?_
  | refine g_dc ?_
  | refine g_for ?_
  | refine g_iStr ?_
  | refine g_iList ?_
  | refine g_iTup ?_
  | refine g_iR1 ?_
  | refine g_iR2 ?_
  | refine g_iR3 ?_
  | refine g_iEnum ?_
  | refine g_iZip ?_
  | refine g_iZipA ?_
  | refine g_bm ?_
  | refine g_bm0 ?_
  | refine g_m1 ?_
  | refine g_sl ?_
  | refine g_poN ?_
  | refine g_poS ?_
  | refine g_poI ?_
  | refine g_yes ?_
  | refine g_gtup ?_
  | refine g_gcons ?_
  | refine g_gnil ?_
  | refine g_par ?_
  | refine g_isi_ii ?_
  | refine g_isi_ib ?_
  | refine g_isi_ss ?_
  | refine g_inC ?_
  | refine g_int1 ?_
  | refine g_int1b ?_
  | refine g_abs ?_
  | refine g_ltS ?_
  | refine iteT ?_
  | refine iteNT ?_
  | refine iteNF ?_
  | refine iteF ?_)
local macro_rules | `(tactic| walk_at "sd") => `(tactic| first | assumption | rfl | decide | omega)
local macro_rules | `(tactic| walk_at "hp") => `(tactic| first | assumption | exact upd_same | exact Same.get (by assumption) (by walk_at "hp") | exact Off.get (by assumption) (by walk_at "hp") (by walk_at "ne"))
local macro_rules | `(tactic| walk_at "ne") => `(tactic| first | assumption | (refine Ne.symm ?_; assumption) | exact ne_of_none (by walk_at "hp") (by assumption) | exact ne_none (by walk_at "hp") (by assumption) | exact ne_of (by walk_at "hp") (by walk_at "hp") (by intro z; cases z))
local macro_rules | `(tactic| walk_at "sq") => `(tactic| first | assumption | exact SqL.rd (by walk_at "hp") | exact SqT.rd (by walk_at "hp") | exact Same.seq (by assumption) (by walk_at "sq") | exact Same.seqT (by assumption) (by walk_at "sq"))
local macro_rules | `(tactic| walk_at "rI") => `(tactic| ((with_reducible refine g_I ?_ ?_); (focus (first | (refine Or.inl ⟨?_, ?_⟩ <;> (first | decide | omega)) | (refine Or.inr ⟨?_, ?_⟩ <;> (first | decide | omega)) | (show (0 : Int) < _; first | decide | omega | assumption) | (refine And.intro ?_ ?_ <;> (first | decide | omega | (refine And.intro ?_ ?_ <;> (first | decide | omega))))))))
local macro_rules | `(tactic| walk_at "r2") => `(tactic| first
  | ((with_reducible refine g_tvar ?_); (refine ⟨_, rfl, ?_⟩))
  | ((with_reducible refine g_name' (σ' := ?s) ?e ?h); (case e => (simp only [wipe, List.set_cons_zero, List.set_cons_succ]; first | done | rfl)))
  | (refine And.intro (show wipe _ _ = wipe _ _ from rfl) ?_)
  | walk_at "rI")
local macro_rules | `(tactic| walk_at "rd") => `(tactic| repeat (first | walk_at "r1" | walk_at "r2"))
local macro_rules | `(tactic| walk_at "gn") => `(tactic| (intro pA hA; generalize hG : upd _ _ _ = H2A; (have sA : Same _ H2A := hG ▸ Same.upd hA); (have lA : H2A pA = some _ := hG ▸ upd_same); clear hG))
local macro_rules | `(tactic| walk_at "mk") => `(tactic| (intro xM dxM h1M h2M hneM; generalize hG : upd (upd _ _ _) _ _ = HM; (have sM : Same _ HM := hG ▸ Same.updW (Same.upd h2M) h1M); (have lM : HM xM = some _ := hG ▸ upd_same); clear hG))
section
variable {P : Program} {w : World} {K : PySem.W.Frag} {mg : Str → Option Value} {base : Heap}
/-- two papers of the same tick that is not found -/
def NyR (K : PySem.W.Frag) : Addr → Addr → Hp → Prop := fun a b H => ∃ t : Int, NotYetAt K H a t ∧ NotYetAt K H b t
theorem f_Paper_eq (T : TX w K mg) (Y : TY P K) : ∃ fE fd, FnOk P w K mg base C8.CX0 1 fE fd ["self", "other"] (spEq (NyR K)) ∧ PySem.W.findIn K (.ref (He.ga K "NotYet")) "__eq__" = some (some (.ref fE)) ∧ PySem.W.isFn K (.ref fE) = true ∧ Binds K fd ["self", "other"] [] := by
  obtain ⟨fE, fd, hs, hf, F, b⟩ := Y.eq
  have nd := sc_Paper_eq.nd
  refine ⟨fE, fd, C8.fn0 F sc_Paper_eq (fun vs H Q E h => ?_) (fun cdv A outer s H vs Q E hr h => ?_), hs, hf, b⟩
  · obtain ⟨a, b, rfl, _⟩ := h
    rfl
  · obtain ⟨a, b, rfl, ⟨t, ⟨dx, q1, ha, hq1⟩, dy, q2, hb, hq2⟩, q⟩ := h
    refine ⟨_, (pss_cons (ps_if (PW.pt (pw_or (pt_not (pt_val (pe_callB call_isi (by rfl) T.z_isinstance (by decide +kernel) (pa_cons (pv 1) (pa_cons (C8.pe_gc (by rfl) T.v_Paper) pa_nil))))) (pw_or1 (pt_cmpR op_ne (pe_nameO (pe_clsO (pv 1) rfl) rfl) (pe_nameO (pe_clsO (pv 0) rfl) rfl) (nomark _)))))
      (pss_one (ps_ret pe_bl))
      pss_nil)
    (pss_one (ps_ret (pe_callTy call_bool1 (by rfl) T.z_bool (by decide +kernel) (pa_cons (pe_and (pe_cmpR op_eq (pe_fld (pv 1) rfl) (pe_fld (pv 0) rfl) (nomark _)) (pe_one (pe_cmpR (op_eqD hr.units) (pe_fld (pv 1) rfl) (pe_fld (pv 0) rfl) (nomark _)))) pa_nil))))), ?_⟩
    walk_at "st"
    walk_at "rd"
    refine g_isiC hb T.i_NotYet T.i_NP ?_
    walk_at "rd"
    refine g_nameO ?_
    refine g_clsO ?_
    walk_at "rd"
    refine ⟨b, _, dy, _, rfl, hb, Y.cls, _, _, rfl, Y.nm, ?_⟩
    refine g_nameO ?_
    refine g_clsO ?_
    walk_at "rd"
    refine ⟨a, _, dx, _, rfl, ha, Y.cls, _, _, rfl, Y.nm, ?_⟩
    walk_at "rd"
    refine ifN_f rfl ?_
    walk_at "rd"
    refine g_fl (v := .str "notyet") hb T.cl_NotYet T.n_NotYet_word (by kernel_rfl) ?_
    walk_at "rd"
    refine g_fl (v := .str "notyet") ha T.cl_NotYet T.n_NotYet_word (by kernel_rfl) ?_
    walk_at "rd"
    refine ifD_t rfl ?_
    walk_at "rd"
    refine g_fl (v := .ref q2) hb T.cl_NotYet T.n_NotYet_parts (by kernel_rfl) ?_
    walk_at "rd"
    refine g_fl (v := .ref q1) ha T.cl_NotYet T.n_NotYet_parts (by kernel_rfl) ?_
    have sh : SeqAt.shaped (.tuple [.int t]) = true := by rfl
    refine ⟨.tuple [.int t], .tuple [.int t], .tup (SqT.rd hq2) (.cons (.int t) .nil), .tup (SqT.rd hq1) (.cons (.int t) .nil), sh, sh, ?_⟩
    have e : PyData.eqv (.tuple [.int t]) (.tuple [.int t]) = true := by simp [PyData.eqv, PyData.eqvAll]
    rw [e]
    walk_at "rd"
    exact .inr ⟨true, rfl, q H fun _ _ h => h⟩
end
end Dt
set_option Elab.async false
set_option linter.all false
set_option maxHeartbeats 4000000
/-! M3: the finder behind t ticks. -/
namespace Dt
open PySem L2
section
variable {names : List Str}
theorem due_mod {D l : Nat} (h : 0 < D) : isDue D l = decide (D % 2 ^ l = 0) := by
  unfold isDue
  rw [decide_eq_true h, Bool.true_and]
  refine decide_eq_decide.mpr ?_
  have a1 := Nat.div_add_mod D (2 ^ l)
  rw [Nat.mul_comm] at a1
  omega
theorem lots_succ {nb D : Nat} : lotsP names (nb + 1) D = lotsP names nb D ++ (if D % 2 ^ (endLen names + nb) = 0 then (List.range (cF names (endLen names + nb))).map fun i => (endLen names + nb, i) else []) := by
  unfold lotsP
  rw [List.range_succ, List.flatMap_append]
  simp
theorem lots_mem {nb D l i : Nat} : (l, i) ∈ lotsP names nb D ↔ Vld names nb l i ∧ D % 2 ^ l = 0 := by
  unfold lotsP Vld
  rw [List.mem_flatMap]
  constructor
  · rintro ⟨k, hk, h⟩
    have hk := List.mem_range.mp hk
    by_cases hd : D % 2 ^ (endLen names + k) = 0
    · rw [if_pos hd] at h
      obtain ⟨j, hj, e⟩ := List.mem_map.mp h
      have hj := List.mem_range.mp hj
      injection e with e1 e2
      subst e1 e2
      exact ⟨⟨Nat.le_add_right .., by omega, hj⟩, hd⟩
    · rw [if_neg hd] at h
      cases h
  · rintro ⟨⟨h1, h2, h3⟩, h4⟩
    obtain ⟨k, rfl⟩ := Nat.exists_eq_add_of_le h1
    refine ⟨k, List.mem_range.mpr (by omega), ?_⟩
    rw [if_pos h4]
    exact List.mem_map.mpr ⟨i, List.mem_range.mpr h3, rfl⟩
theorem lots_nodup {D : Nat} : ∀ nb, (lotsP names nb D).Nodup
  | 0 => List.nodup_nil
  | nb + 1 => by
    rw [lots_succ]
    refine List.nodup_append.mpr ⟨lots_nodup nb, ?_, ?_⟩
    · by_cases h : D % 2 ^ (endLen names + nb) = 0
      · rw [if_pos h]
        exact List.pairwise_map.mpr (List.Pairwise.imp (fun {a b} h e => h (Prod.mk.inj e).2) List.nodup_range)
      · rw [if_neg h]
        exact List.nodup_nil
    · intro a ha b hb e
      subst e
      obtain ⟨l, i⟩ := a
      have h1 := (lots_mem.mp ha).1.2.1
      by_cases h : D % 2 ^ (endLen names + nb) = 0
      · rw [if_pos h] at hb
        obtain ⟨j, _, e⟩ := List.mem_map.mp hb
        injection e with e1 _
        omega
      · rw [if_neg h] at hb
        cases hb
theorem SD_low (ok : NamesOk names) {D : Nat} : ∀ k, k ≤ endLen names → SD (cF names) D k = 0
  | 0, _ => rfl
  | k + 1, h => by
    rw [SD_succ, SD_low ok k (by omega), c_low ok (by omega)]
    simp
theorem lots_len (ok : NamesOk names) {D : Nat} (hD : 0 < D) : ∀ nb, (lotsP names nb D).length = SD (cF names) D (endLen names + nb)
  | 0 => by
    rw [Nat.add_zero, SD_low ok _ (Nat.le_refl _)]
    rfl
  | nb + 1 => by
    rw [lots_succ, List.length_append, lots_len ok hD nb, ← Nat.add_assoc, SD_succ, due_mod hD]
    by_cases h : D % 2 ^ (endLen names + nb) = 0
    · rw [if_pos h, if_pos (decide_eq_true h), List.length_map, List.length_range]
    · rw [if_neg h, if_neg (by simpa using h)]
      rfl
theorem lots_at (ok : NamesOk names) {D l i : Nat} (hD : 0 < D) : ∀ nb, Vld names nb l i → D % 2 ^ l = 0 → (lotsP names nb D)[SD (cF names) D l + i]? = some (l, i)
  | 0, h, _ => by
    obtain ⟨h1, h2, _⟩ := h
    omega
  | nb + 1, h, hd => by
    obtain ⟨h1, h2, h3⟩ := h
    rw [lots_succ]
    by_cases hl : l < endLen names + nb
    · have ih := lots_at ok hD nb ⟨h1, hl, h3⟩ hd
      rw [List.getElem?_append_left (List.getElem?_eq_some_iff.mp ih).1]
      exact ih
    · have e : l = endLen names + nb := by omega
      subst e
      rw [List.getElem?_append_right (by rw [lots_len ok hD]; omega), lots_len ok hD, Nat.add_sub_cancel_left, if_pos hd, List.getElem?_map, List.getElem?_range h3]
      rfl
theorem lots_pos (ok : NamesOk names) {D nb l i : Nat} {done rest : List (Nat × Nat)} (hD : 0 < D) (h : done ++ (l, i) :: rest = lotsP names nb D) : done.length = SD (cF names) D l + i := by
  have hm : (l, i) ∈ lotsP names nb D := by rw [← h]; simp
  obtain ⟨v, hd⟩ := lots_mem.mp hm
  have h1 := lots_at ok hD nb v hd
  have h2 : (lotsP names nb D)[done.length]? = some (l, i) := by
    rw [← h, List.getElem?_append_right (Nat.le_refl _), Nat.sub_self]
    rfl
  exact (List.getElem?_inj (List.getElem?_eq_some_iff.mp h2).1 (lots_nodup nb)).mp (h2.trans h1.symm)
theorem c_end (ok : NamesOk names) : 1 ≤ cF names (endLen names) := by
  obtain ⟨c, hc, e⟩ := ch_has ok.len end8
  have hl := ch_lenW hc
  rw [e, end_len ok] at hl
  refine List.length_pos_of_mem (a := []) ?_
  rw [rows_eq (ch_lo ok)]
  refine List.mem_flatMap.mpr ⟨c, hc, ?_⟩
  unfold grp
  rw [if_pos e, if_pos hl]
  exact .head _
theorem pred_div {n e l : Nat} (h : e ≤ l) : (n * 2 ^ e + 2 ^ e - 1) / 2 ^ l = n * 2 ^ e / 2 ^ l := by
  obtain ⟨k, rfl⟩ := Nat.exists_eq_add_of_le h
  have hp : 0 < 2 ^ e := Nat.two_pow_pos e
  rw [Nat.pow_add, ← Nat.div_div_eq_div_mul, ← Nat.div_div_eq_div_mul, Nat.mul_div_cancel _ hp]
  congr 1
  rw [show n * 2 ^ e + 2 ^ e - 1 = 2 ^ e * n + (2 ^ e - 1) by rw [Nat.mul_comm]; omega, Nat.mul_add_div hp, Nat.div_eq_of_lt (by omega), Nat.add_zero]
theorem BF_pred_div {c : Nat → Nat} {e n : Nat} (h0 : ∀ l, l < e → c l = 0) : ∀ N, BF c N (n * 2 ^ e + 2 ^ e - 1) = BF c N (n * 2 ^ e)
  | 0 => rfl
  | N + 1 => by
    rw [BF_succ, BF_succ, BF_pred_div h0 N]
    by_cases h : N < e
    · rw [h0 N h, Nat.zero_mul, Nat.zero_mul]
    · rw [pred_div (by omega)]
theorem BF_zero {c : Nat → Nat} : ∀ N, BF c N 0 = 0
  | 0 => rfl
  | N + 1 => by rw [BF_succ, BF_zero N, Nat.zero_div, Nat.mul_zero]
theorem BF_one {c : Nat → Nat} {N D l : Nat} (h : l < N) : c l * (D / 2 ^ l) ≤ BF c N D := by
  induction N with
  | zero => omega
  | succ N ih =>
    rw [BF_succ]
    by_cases e : l = N
    · subst e
      exact Nat.le_add_left ..
    · exact Nat.le_trans (ih (by omega)) (Nat.le_add_right ..)
/-- the finder behind t ticks; NH p m: program p does not find the answer with step m + 1 -/
def FInv (names : List Str) (NH : List Str → Nat → Prop) (t : Nat) (S : ThS) : Prop := ∃ (n : Nat) (done : List (Nat × Nat)),
  S.due = n * 2 ^ endLen names ∧
  (n = 0 → S.nb = 0 ∧ S.ws = [] ∧ t = 0) ∧
  (0 < n → 1 ≤ S.nb ∧ 2 ^ (S.nb - 1) ≤ n ∧ n < 2 ^ S.nb ∧ done ++ S.ws.reverse = lotsP names S.nb S.due ∧ t = BF (cF names) (endLen names + S.nb) (S.due - 1) + done.length) ∧
  (∀ l i, Vld names S.nb l i → S.st l i + (if (l, i) ∈ S.ws then 1 else 0) = S.due / 2 ^ l) ∧
  (∀ l i, endLen names + S.nb ≤ l → S.st l i = 0) ∧
  (∀ l i p, Vld names S.nb l i → (rows (chF names) l)[i]? = some p → ∀ m, m < S.st l i → NH p m)
variable {NH : List Str → Nat → Prop} {t : Nat} {S : ThS}
theorem finv0 : FInv names NH 0 ⟨0, 0, [], fun _ _ => 0⟩ := by
  refine ⟨0, [], by simp, fun _ => ⟨rfl, rfl, rfl⟩, fun h => absurd h (Nat.lt_irrefl _), fun l i h => ?_, fun _ _ _ => rfl, fun l i p h _ m hm => absurd hm (Nat.not_lt_zero _)⟩
  obtain ⟨h1, h2, _⟩ := h
  simp only at h2
  omega
theorem t_ge (ok : NamesOk names) {n nb : Nat} (hn : 0 < n) (hb : 1 ≤ nb) : n - 1 ≤ BF (cF names) (endLen names + nb) (n * 2 ^ endLen names - 1) := by
  have hp : 0 < 2 ^ endLen names := Nat.two_pow_pos _
  have h1 := BF_one (c := cF names) (N := endLen names + nb) (D := n * 2 ^ endLen names - 1) (l := endLen names) (by omega)
  have h2 : (n * 2 ^ endLen names - 1) / 2 ^ endLen names = n - 1 := by
    obtain ⟨k, rfl⟩ := Nat.exists_eq_add_of_le hn
    rw [show (0 + 1 + k) * 2 ^ endLen names - 1 = 2 ^ endLen names * k + (2 ^ endLen names - 1) by rw [Nat.zero_add, Nat.add_mul, Nat.one_mul, Nat.mul_comm k]; omega, Nat.mul_add_div hp, Nat.div_eq_of_lt (by omega)]
    omega
  rw [h2] at h1
  have h3 : 1 * (n - 1) ≤ cF names (endLen names) * (n - 1) := Nat.mul_le_mul_right _ (c_end ok)
  omega
theorem finv_fill (ok : NamesOk names) (ht : t < 20000) (h : FInv names NH t S) :
    (S.ws = [] → S.due + 2 ^ endLen names < 2 ^ 23 ∧ (∀ i, S.st (endLen names + S.nb) i = 0) ∧ endLen names + nbP names S ≤ 23) ∧ FInv names NH t (fillP names S) ∧ (fillP names S).ws ≠ [] := by
  by_cases hw : S.ws = []
  case neg =>
    have e : fillP names S = S := by
      unfold fillP
      rw [if_neg hw]
    rw [e]
    exact ⟨fun z => absurd z hw, h, hw⟩
  obtain ⟨n, done, hdue, h0, h1, hst, hz, hnh⟩ := h
  have hel := endLen_le ok
  generalize he : endLen names = e at *
  have hp : 0 < 2 ^ e := Nat.two_pow_pos _
  -- the next number of lots begun
  have hdue' : S.due + 2 ^ e = (n + 1) * 2 ^ e := by rw [hdue, Nat.add_mul, Nat.one_mul]
  have hnb : nbP names S = if n + 1 = 2 ^ S.nb then S.nb + 1 else S.nb := by
    unfold nbP
    have iff_ : S.due + 2 ^ e = 2 ^ (e + S.nb) ↔ n + 1 = 2 ^ S.nb := by
      rw [hdue', Nat.pow_add, Nat.mul_comm (2 ^ e)]
      exact ⟨fun z => Nat.eq_of_mul_eq_mul_right hp z, fun z => by rw [z]⟩
    rw [he]
    by_cases q : n + 1 = 2 ^ S.nb
    · rw [if_pos (iff_.mpr q), if_pos q]
    · rw [if_neg (fun z => q (iff_.mp z)), if_neg q]
  have hnbs : 1 ≤ nbP names S ∧ 2 ^ (nbP names S - 1) ≤ n + 1 ∧ n + 1 < 2 ^ nbP names S ∧ S.nb ≤ nbP names S ∧ nbP names S ≤ S.nb + 1 ∧ n < 2 ^ S.nb := by
    rcases Nat.eq_zero_or_pos n with z | z
    · obtain ⟨q1, _, _⟩ := h0 z
      rw [hnb, q1, z, if_pos (by decide)]
      decide
    · obtain ⟨q1, q2, q3, _⟩ := h1 z
      rw [hnb]
      by_cases q : n + 1 = 2 ^ S.nb
      · rw [if_pos q, Nat.add_sub_cancel, q]
        have : 2 ^ S.nb < 2 ^ (S.nb + 1) := by rw [Nat.pow_succ]; omega
        omega
      · rw [if_neg q]
        omega
  obtain ⟨b1, b2, b3, b4, b5, b6⟩ := hnbs
  have hlow : ∀ l, l < e → cF names l = 0 := fun l hl => c_low ok (by rw [he]; exact hl)
  have hlt : S.due < 2 ^ (e + S.nb) := by
    rw [hdue, Nat.pow_add, Nat.mul_comm (2 ^ e)]
    exact Nat.mul_lt_mul_of_pos_right b6 hp
  -- the count up to the last lot
  have hcount : t = BF (cF names) (e + nbP names S) (S.due + 2 ^ e - 1) := by
    have e1 : BF (cF names) (e + nbP names S) (S.due + 2 ^ e - 1) = BF (cF names) (e + nbP names S) S.due := by
      rw [hdue]
      exact BF_pred_div hlow _
    have e2 : BF (cF names) (e + nbP names S) S.due = BF (cF names) (e + S.nb) S.due := BF_any (Nat.lt_of_lt_of_le hlt (Nat.pow_le_pow_right (by decide) (by omega))) hlt
    rw [e1, e2]
    rcases Nat.eq_zero_or_pos n with z | z
    · obtain ⟨q1, _, q3⟩ := h0 z
      rw [hdue, z, Nat.zero_mul, BF_zero]
      exact q3
    · obtain ⟨q1, q2, q3, q4, q5⟩ := h1 z
      have hdp : 0 < S.due := by rw [hdue]; exact Nat.mul_pos z hp
      rw [hw, List.reverse_nil, List.append_nil] at q4
      rw [q5, q4, lots_len ok hdp, he, ← BF_pred (c := cF names) hdp]
  -- n is at most t
  have hnt : n ≤ t := by
    rcases Nat.eq_zero_or_pos n with z | z
    · omega
    · have g := t_ge ok (n := n + 1) (nb := nbP names S) (by omega) b1
      rw [he, ← hdue'] at g
      omega
  have hsm : S.due + 2 ^ e < 2 ^ 23 := by
    rw [hdue']
    have p8 : 2 ^ e ≤ 2 ^ 8 := Nat.pow_le_pow_right (by decide) hel.2
    have : (n + 1) * 2 ^ e ≤ 20000 * 2 ^ 8 := Nat.mul_le_mul (by omega) p8
    have : (20000 : Nat) * 2 ^ 8 < 2 ^ 23 := by decide
    omega
  have h23 : e + nbP names S ≤ 23 := by
    have q1 : 2 ^ (e + (nbP names S - 1)) ≤ S.due + 2 ^ e := by
      rw [hdue', Nat.pow_add, Nat.mul_comm (2 ^ e)]
      exact Nat.mul_le_mul_right _ b2
    have q2 : e + (nbP names S - 1) < 23 := (Nat.pow_lt_pow_iff_right (by decide : 1 < 2)).mp (Nat.lt_of_le_of_lt q1 hsm)
    omega
  have hfill := fillP_nil (names := names) hw
  rw [he] at hfill
  have hD0 : 0 < S.due + 2 ^ e := by omega
  refine ⟨fun _ => ⟨hsm, fun i => hz _ i (Nat.le_refl _), h23⟩, ?_, ?_⟩
  · rw [hfill]
    refine ⟨n + 1, [], by rw [he]; exact hdue', fun z => absurd z (Nat.succ_ne_zero n), fun _ => ⟨b1, b2, b3, by simp, ?_⟩, fun l i v => ?_, fun l i hl => ?_, fun l i p v hp' m hm => ?_⟩
    · rw [he]
      exact hcount
    · obtain ⟨v1, v2, v3⟩ := v
      simp only at v2 ⊢
      rw [he] at v1 v2
      rw [div_pred hD0, hdue, pred_div v1, ← hdue]
      have hmem : ((l, i) ∈ (lotsP names (nbP names S) (S.due + 2 ^ e)).reverse) ↔ isDue (S.due + 2 ^ e) l = true := by
        rw [List.mem_reverse, lots_mem, due_mod hD0]
        exact ⟨fun z => decide_eq_true z.2, fun z => ⟨⟨by rw [he]; exact v1, by rw [he]; exact v2, v3⟩, of_decide_eq_true z⟩⟩
      have hs : S.st l i = S.due / 2 ^ l := by
        by_cases hl : l < e + S.nb
        · have q := hst l i ⟨by rw [he]; exact v1, by rw [he]; exact hl, v3⟩
          rw [hw, if_neg (List.not_mem_nil)] at q
          exact q
        · rw [hz l i (by omega), Nat.div_eq_of_lt]
          exact Nat.lt_of_lt_of_le hlt (Nat.pow_le_pow_right (by decide) (by omega))
      rw [hs]
      by_cases hd : isDue (S.due + 2 ^ e) l = true
      · rw [if_pos (hmem.mpr hd), if_pos hd]
      · rw [if_neg (fun z => hd (hmem.mp z)), if_neg hd]
    · simp only at hl ⊢
      rw [he] at hl
      exact hz l i (by omega)
    · obtain ⟨v1, v2, v3⟩ := v
      simp only at v2 hm
      rw [he] at v1 v2
      by_cases hl : l < e + S.nb
      · exact hnh l i p ⟨by rw [he]; exact v1, by rw [he]; exact hl, v3⟩ hp' m hm
      · rw [hz l i (by omega)] at hm
        exact absurd hm (Nat.not_lt_zero _)
  · rw [hfill]
    intro z
    have hm : (e, 0) ∈ lotsP names (nbP names S) (S.due + 2 ^ e) := by
      rw [lots_mem]
      refine ⟨⟨by rw [he]; exact Nat.le_refl _, by rw [he]; omega, ?_⟩, ?_⟩
      · rw [← he]
        exact c_end ok
      · rw [hdue']
        exact Nat.mul_mod_left _ _
    have z2 := List.reverse_eq_nil_iff.mp z
    rw [z2] at hm
    cases hm
/-- a tick with a trial that waits -/
theorem finv_tick (ok : NamesOk names) {l i : Nat} (h : FInv names NH t S) (hl : S.ws.getLast? = some (l, i)) :
    Vld names S.nb l i ∧ 1 ≤ S.due ∧ isDue S.due l = true ∧ S.due = (S.st l i + 1) * 2 ^ l ∧ S.due < 2 ^ (endLen names + S.nb) ∧ t + 1 = BF (cF names) (endLen names + S.nb) (S.due - 1) + SD (cF names) S.due l + i + 1 ∧ S.due ≤ (t + 1) * 2 ^ endLen names ∧
    (∀ p, (rows (chF names) l)[i]? = some p → (∀ m, m < S.st l i → NH p m) ∧ (NH p (S.st l i) → FInv names NH (t + 1) ⟨S.due, S.nb, S.ws.dropLast, stU S.st l i⟩)) := by
  obtain ⟨n, done, hdue, h0, h1, hst, hz, hnh⟩ := h
  have hws : S.ws = S.ws.dropLast ++ [(l, i)] := by
    obtain ⟨ys, e⟩ := List.getLast?_eq_some_iff.mp hl
    rw [e, List.dropLast_concat]
  have hn : 0 < n := by
    rcases Nat.eq_zero_or_pos n with z | z
    · obtain ⟨_, q, _⟩ := h0 z
      rw [q] at hl
      cases hl
    · exact z
  have hp : 0 < 2 ^ endLen names := Nat.two_pow_pos _
  obtain ⟨b1, b2, b3, hlots, ht⟩ := h1 hn
  have hD : 0 < S.due := by rw [hdue]; exact Nat.mul_pos hn hp
  have hrev : S.ws.reverse = (l, i) :: S.ws.dropLast.reverse := by
    conv => lhs; rw [hws]
    rw [List.reverse_append]
    rfl
  have hmem : (l, i) ∈ S.ws := by rw [hws]; simp
  have hmemL : (l, i) ∈ lotsP names S.nb S.due := by
    rw [← hlots]
    exact List.mem_append_right _ (List.mem_reverse.mpr hmem)
  obtain ⟨v, hd⟩ := lots_mem.mp hmemL
  have hpos : done.length = SD (cF names) S.due l + i := lots_pos ok hD (by rw [← hrev]; exact hlots)
  have hs := hst l i v
  rw [if_pos hmem] at hs
  have hdl : S.due = (S.st l i + 1) * 2 ^ l := by
    rw [hs]
    have := Nat.div_add_mod S.due (2 ^ l)
    rw [hd, Nat.add_zero, Nat.mul_comm] at this
    exact this.symm
  refine ⟨v, hD, by rw [due_mod hD]; exact decide_eq_true hd, hdl, ?_, by rw [ht, hpos]; omega, ?_, fun p hp' => ⟨fun m hm => hnh l i p v hp' m hm, fun nh => ?_⟩⟩
  · rw [hdue, Nat.pow_add, Nat.mul_comm (2 ^ endLen names)]
    exact Nat.mul_lt_mul_of_pos_right b3 hp
  · have g := t_ge ok hn b1
    rw [← hdue] at g
    rw [hdue]
    exact Nat.mul_le_mul_right _ (by omega)
  · -- behind the tick
    have hnd : S.ws.Nodup := by
      have q := lots_nodup (names := names) (D := S.due) S.nb
      rw [← hlots] at q
      exact (List.reverse_perm S.ws).nodup_iff.mp (List.nodup_append.mp q).2.1
    have hnot : (l, i) ∉ S.ws.dropLast := by
      rw [hws] at hnd
      intro z
      exact (List.nodup_append.mp hnd).2.2 _ z _ (List.mem_singleton.mpr rfl) rfl
    refine ⟨n, done ++ [(l, i)], hdue, fun z => absurd z (by omega), fun _ => ⟨b1, b2, b3, ?_, ?_⟩, fun l' i' v' => ?_, fun l' i' hl' => ?_, fun l' i' p' v' hp2 m hm => ?_⟩
    · simp only
      rw [List.append_assoc]
      show done ++ ((l, i) :: S.ws.dropLast.reverse) = _
      rw [← hrev]
      exact hlots
    · simp only
      rw [List.length_append, ht]
      simp
      omega
    · simp only
      have q := hst l' i' v'
      unfold stU
      by_cases e : l' = l ∧ i' = i
      · obtain ⟨rfl, rfl⟩ := e
        rw [if_pos ⟨rfl, rfl⟩, if_neg hnot]
        rw [if_pos hmem] at q
        exact q
      · rw [if_neg e]
        have iff_ : (l', i') ∈ S.ws.dropLast ↔ (l', i') ∈ S.ws := by
          conv => rhs; rw [hws]
          rw [List.mem_append]
          refine ⟨.inl, fun z => z.elim id fun z2 => ?_⟩
          have := List.mem_singleton.mp z2
          injection this with z3 z4
          exact absurd ⟨z3, z4⟩ e
        by_cases z : (l', i') ∈ S.ws
        · rw [if_pos (iff_.mpr z)]
          rw [if_pos z] at q
          exact q
        · rw [if_neg (fun y => z (iff_.mp y))]
          rw [if_neg z] at q
          exact q
    · simp only at hl' ⊢
      unfold stU
      rw [if_neg]
      · exact hz l' i' hl'
      · rintro ⟨rfl, _⟩
        have := v.2.1
        omega
    · simp only at hm
      unfold stU at hm
      by_cases e : l' = l ∧ i' = i
      · obtain ⟨rfl, rfl⟩ := e
        rw [if_pos ⟨rfl, rfl⟩] at hm
        have e2 : p' = p := Option.some.inj (hp2.symm.trans hp')
        subst e2
        rcases Nat.lt_or_ge m (S.st l' i') with z | z
        · exact hnh l' i' p' v' hp2 m z
        · have : m = S.st l' i' := by omega
          rw [this]
          exact nh
      · rw [if_neg e] at hm
        exact hnh l' i' p' v' hp2 m hm
end
end Dt
set_option Elab.async false
set_option linter.all false
set_option maxRecDepth 100000
set_option maxHeartbeats 4000000
/-! F37: found_in, find. -/
namespace Dt
open PySem PySem.Spec L2
local macro_rules | `(tactic| walk_at "st") => `(tactic| (simp only [L2.start, List.map_cons, List.map_nil, List.length_cons, List.length_nil, List.replicate_succ, List.replicate_zero, List.cons_append, List.nil_append, Nat.zero_add, Nat.reduceAdd, Nat.reduceSub]))
local macro_rules | `(tactic| walk_at "r1") => `(tactic| with_reducible first
  | refine g_seq ?_
  | refine g_next ?_
  | refine g_asg ?_
  | refine g_ifS ?_
  | refine g_ret ?_
  | refine g_retN ?_
  | refine g_drop ?_
  | refine g_brk ?_
  | refine g_c ?_
  | refine g_op ?_
  | refine g_un ?_
  | refine g_I0 ?_
  | refine g_U ?_
  | refine g_eqI ?_
  | refine g_neI ?_
  | refine g_eqS ?_
  | refine g_neS ?_
  | refine g_test ?_
  | refine g_B ?_
  | refine g_bl ?_
  | refine g_if ?_
  | refine g_not ?_
  | refine g_and ?_
  | refine g_or ?_
  | refine g_andV ?_
  | refine g_orV ?_
  | refine g_notV ?_
  | refine g_blif ?_
  | refine g_chain ?_
  | refine g_nil ?_
  | refine g_cons ?_
  | refine g_cb ?_
  | refine g_call ?_
  | refine g_tup ?_
  | refine g_lst ?_
  | refine g_tfld ?_
  | refine g_dget ?_
  | refine g_mk ?_
  | refine g_lc2 ?_
  | refine g_gfld ?_
  | refine g_meth ?_
  | refine g_sfld ?_
  | refine g_din ?_
  | refine g_dput ?_
  | refine g_isN_int ?_
  | refine g_isN_str ?_
  | refine g_isN_ref ?_
  | refine g_isN_non ?_
  | refine g_nN_int ?_
  | refine g_nN_str ?_
  | refine g_nN_ref ?_
  | refine g_nN_non ?_
  | refine g_lc ?_
  | refine g_dc ?_
  | refine g_for ?_
  | refine g_iStr ?_
  | refine g_iList ?_
  | refine g_iTup ?_
  | refine g_iR1 ?_
  | refine g_iR2 ?_
  | refine g_iR3 ?_
  | refine g_iEnum ?_
  | refine g_iZip ?_
  | refine g_iZipA ?_
  | refine g_bm ?_
  | refine g_bm0 ?_
  | refine g_m1 ?_
  | refine g_sl ?_
  | refine g_poN ?_
  | refine g_poS ?_
  | refine g_poI ?_
  | refine g_yes ?_
  | refine g_gtup ?_
  | refine g_gcons ?_
  | refine g_gnil ?_
  | refine g_par ?_
  | refine g_isi_ii ?_
  | refine g_isi_ib ?_
  | refine g_isi_ss ?_
  | refine g_inC ?_
  | refine g_int1 ?_
  | refine g_int1b ?_
  | refine g_abs ?_
  | refine g_ltS ?_
  | refine iteT ?_
  | refine iteNT ?_
  | refine iteNF ?_
  | refine iteF ?_)
local macro_rules | `(tactic| walk_at "sd") => `(tactic| first | assumption | rfl | decide | omega)
local macro_rules | `(tactic| walk_at "hp") => `(tactic| first | assumption | exact upd_same | exact Same.get (by assumption) (by walk_at "hp") | exact Off.get (by assumption) (by walk_at "hp") (by walk_at "ne"))
local macro_rules | `(tactic| walk_at "ne") => `(tactic| first | assumption | (refine Ne.symm ?_; assumption) | exact ne_of_none (by walk_at "hp") (by assumption) | exact ne_none (by walk_at "hp") (by assumption) | exact ne_of (by walk_at "hp") (by walk_at "hp") (by intro z; cases z))
local macro_rules | `(tactic| walk_at "sq") => `(tactic| first | assumption | exact SqL.rd (by walk_at "hp") | exact SqT.rd (by walk_at "hp") | exact Same.seq (by assumption) (by walk_at "sq") | exact Same.seqT (by assumption) (by walk_at "sq"))
local macro_rules | `(tactic| walk_at "rI") => `(tactic| ((with_reducible refine g_I ?_ ?_); (focus (first | (refine Or.inl ⟨?_, ?_⟩ <;> (first | decide | omega)) | (refine Or.inr ⟨?_, ?_⟩ <;> (first | decide | omega)) | (show (0 : Int) < _; first | decide | omega | assumption) | (refine And.intro ?_ ?_ <;> (first | decide | omega | (refine And.intro ?_ ?_ <;> (first | decide | omega))))))))
local macro_rules | `(tactic| walk_at "r2") => `(tactic| first
  | ((with_reducible refine g_tvar ?_); (refine ⟨_, rfl, ?_⟩))
  | ((with_reducible refine g_name' (σ' := ?s) ?e ?h); (case e => (simp only [wipe, List.set_cons_zero, List.set_cons_succ]; first | done | rfl)))
  | (refine And.intro (show wipe _ _ = wipe _ _ from rfl) ?_)
  | walk_at "rI")
local macro_rules | `(tactic| walk_at "rd") => `(tactic| repeat (first | walk_at "r1" | walk_at "r2"))
local macro_rules | `(tactic| walk_at "gn") => `(tactic| (intro pA hA; generalize hG : upd _ _ _ = H2A; (have sA : Same _ H2A := hG ▸ Same.upd hA); (have lA : H2A pA = some _ := hG ▸ upd_same); clear hG))
local macro_rules | `(tactic| walk_at "mk") => `(tactic| (intro xM dxM h1M h2M hneM; generalize hG : upd (upd _ _ _) _ _ = HM; (have sM : Same _ HM := hG ▸ Same.updW (Same.upd h2M) h1M); (have lM : HM xM = some _ := hG ▸ upd_same); clear hG))
theorem hit_ans {p : List Str} {cost : Nat} {R : Int → Bool} {g : Int} (hc : 1 ≤ cost) (hg : -1000000000000000000 ≤ g ∧ g ≤ 1000000000000000000) {n : Nat} (h : hit p cost R g n = true) : ∃ x, (trAt p cost R g (n + 1)).ans = some x := by
  have hw : (trAt p cost R g n).waits ≠ 0 := fun z => by
    have e := (tr_step (p := p) (cost := cost) (R := R) (g := g) z).1
    rw [h] at e
    cases e
  obtain ⟨x, hx⟩ := (tr_ok (right := R) hc hg n).2 hw
  obtain ⟨k, hk⟩ := Nat.exists_eq_succ_of_ne_zero hw
  have e : trAt p cost R g n = ⟨(trAt p cost R g n).run, k + 1, (trAt p cost R g n).ans⟩ := by
    cases ht : trAt p cost R g n with
    | mk r w' a =>
      rw [ht] at hk
      have hk' : w' = k + 1 := hk
      rw [hk']
  exact ⟨x, by rw [(tr_wait e).2]; exact hx⟩
/-- what is known of a found answer -/
structure FoundOk (names : List Str) (items : List Itm) (rt : Int → Int → Bool) (g : Int) (most : Nat) (ans : Int) (p : List Str) (step tick : Nat) : Prop where
  ex : ∃ L i N : Nat, (rows (chF names) L)[i]? = some p ∧ L < N ∧ N ≤ 23 ∧ step * 2 ^ L < 2 ^ N ∧ isDue (step * 2 ^ L) L = true ∧ tick = BF (cF names) N (step * 2 ^ L - 1) + SD (cF names) (step * 2 ^ L) L + i + 1 ∧ step * 2 ^ L ≤ tick * 2 ^ endLen names
  le : tick ≤ most
  st : 1 ≤ step
  fh : FirstHit p items.length (rt g) g step
  an : (trAt p items.length (rt g) g step).ans = some ans
section
variable {P : Program} {w : World} {K : PySem.W.Frag} {mg : Str → Option Value} {base : Heap}
def sp_found_in : PySem.W.Frag → Sp := fun K vs H Q _ => ∃ H0 lot t z, ∃ (names : List Str) (items : List Itm) (rt : Int → Int → Bool) (g : Int) (most : Nat), vs = [.ref lot, .int most] ∧ TongueAt K H0 t names ∧ NamesOk names ∧ PuzzleAt K H0 z items ∧ ItOk items rt ∧ -1000000000000000000 ≤ g ∧ g ≤ 1000000000000000000 ∧
  ThAt K H0 H lot t z names items rt g ⟨0, 0, [], fun _ _ => 0⟩ ∧ most ≤ 20000 ∧
  (∀ c H', Same H0 H' → NotYetAt K H' c most → Q (.ref c) H') ∧ ∀ c pa ans p step tick H', Same H0 H' → FoundAt K H' c ans pa p (step : Nat) (tick : Nat) → FoundOk names items rt g most ans p step tick → Q (.ref c) H'
theorem c_found_in (T : TX w K mg) (Y : TY P K) : C8.Cal P w K mg base 10 "found_in" (sp_found_in K) [] := by
  obtain ⟨f, fd, F, b⟩ := T.d_found_in
  have nd := sc_found_in.nd
  refine C8.cal0 F b .nil sc_found_in (fun vs H Q E h => ?_) (fun cdv A outer s H vs Q E hr h => ?_)
  · obtain ⟨H0, lot, t, z, ns, its, rt, g, most, rfl, _⟩ := h
    rfl
  · obtain ⟨H0, lot, t, z, names, items, rt, g, most, rfl, tg, ok, hz, iok, g1, g2, th, hmost, qn, qf⟩ := h
    refine ⟨_, (pss_cons (ps_for PassesOwn.never rfl (pi_range2 (by rfl) T.z_range (pa_cons pe_int (pa_cons (pe_op op_add (pv 1) pe_int) pa_nil))) (pg_name (i := 2) nd rfl (Or.inl rfl))
      (pss_cons (ps_set (i := 3) nd rfl (Or.inl rfl) (C8.pe_mt0 (c_Throng_tried T) hr (by decide) (pv 0)))
      (pss_one (ps_if (pt_cmpR op_notN1 (pv 3) pe_non (nomark _))
        (pss_one (ps_ret (C8.pe_mk (k_Found T Y) hr (by decide) (by rfl) (pa_cons (pe_fld (pv 3) rfl) (pa_cons (pe_fld (pv 3) rfl) (pa_cons (pe_fld (pv 3) rfl) (pa_cons (pv 2) pa_nil)))))))
        pss_nil))))
    (pss_one (ps_ret (C8.pe_mk (k_NotYet T Y) hr (by decide) (by rfl) (pa_cons (pv 1) pa_nil))))), ?_⟩
    walk_at "st"
    walk_at "rd"
    refine ⟨1, (most : Int) + 1, rfl, ⟨by decide, by decide, by omega, by omega⟩, ?_⟩
    have hn : ((most : Int) + 1 - 1).toNat = most := by omega
    rw [hn]
    refine for_it walk_range (fun i σ H' => (∃ x y, σ = [some (.ref lot), some (.int most), x, y]) ∧ ∃ S, ThAt K H0 H' lot t z names items rt g S ∧ FInv names (fun p m => hit p items.length (rt g) g m = false) i S) ⟨⟨_, _, rfl⟩, _, th, finv0⟩ (fun _ _ _ _ _ => True.intro) (fun i x σ H1 H2 hi pv y => ?_) (fun σ H1 pv => ?_)
    · obtain ⟨⟨x0, y0, rfl⟩, S, th1, fi⟩ := pv
      obtain ⟨rfl, rfl⟩ := y
      obtain ⟨pre, fi2, hne⟩ := finv_fill ok (by omega) fi
      obtain ⟨⟨l, j⟩, hlast⟩ : ∃ a, (fillP names S).ws.getLast? = some a := by
        cases hg : (fillP names S).ws.getLast? with
        | none => exact absurd (List.getLast?_eq_none_iff.mp hg) hne
        | some a => exact ⟨a, rfl⟩
      obtain ⟨v, hD1, hdue, hDs, hDN, htk, hDt, hP⟩ := finv_tick ok fi2 hlast
      obtain ⟨p, hp⟩ : ∃ p, (rows (chF names) l)[j]? = some p := ⟨_, List.getElem?_eq_getElem v.2.2⟩
      obtain ⟨hno, hnext⟩ := hP p hp
      have hD23 : (fillP names S).due < 2 ^ 23 := by
        have p8 : 2 ^ endLen names ≤ 2 ^ 8 := Nat.pow_le_pow_right (by decide) (endLen_le ok).2
        have h1 : (i + 1) * 2 ^ endLen names ≤ 20000 * 2 ^ 8 := Nat.mul_le_mul (by omega) p8
        have h2 : (20000 : Nat) * 2 ^ 8 < 2 ^ 23 := by decide
        omega
      have hl23 : l < 23 := (Nat.pow_lt_pow_iff_right (by decide : 1 < 2)).mp (Nat.lt_of_le_of_lt (isDue_lt hdue) hD23)
      have htick : (1 : Int) + (i : Nat) = ((i + 1 : Nat) : Int) := by omega
      show gName 2 (.int ((1 : Int) + ((i : Nat) : Int))) _ _ _
      rw [htick]
      have th1' := th1
      obtain ⟨dxl, bl, wl, bas, las, tr, th0⟩ := th1'
      walk_at "rd"
      refine ⟨lot, dxl, _, rfl, th0.olot, by kernel_rfl, ?_⟩
      clear th0
      walk_at "rd"
      refine ⟨H0, lot, t, z, names, items, rt, g, S, l, j, p, rfl, tg, ok, hz, iok, g1, g2, th1, pre, hlast, v, by omega, hp, fun H3 th3 => ⟨fun hh ta ra pa ht => ?_, fun hh => ?_⟩⟩
      · obtain ⟨⟨dt, o1⟩, hrun, hpa⟩ := ht
        obtain ⟨x, hx⟩ := hit_ans iok.pos ⟨g1, g2⟩ hh
        rw [hx] at o1
        obtain ⟨dx3, bl3, wl3, bas3, las3, tr3, th4⟩ := th3
        have s03 := th4.same
        walk_at "rd"
        refine g_fl (v := .int x) o1 T.cl_Trial T.n_Trial_answer (by kernel_rfl) ?_
        walk_at "rd"
        refine g_fl (v := .ref pa) o1 T.cl_Trial T.n_Trial_program (by kernel_rfl) ?_
        walk_at "rd"
        refine g_fl (v := .int ((fillP names S).st l j + 1 : Nat)) o1 T.cl_Trial T.n_Trial_steps (by kernel_rfl) ?_
        walk_at "rd"
        walk_at "mk"
        rename_i fx fdx nfx nfdx hned H4 s4 l4
        have hm := rows_mem ok (List.mem_of_getElem? hp)
        have hpl := lenP_ge ok hm.1
        rw [hm.2] at hpl
        refine ⟨fx, pa, fdx, p, x, ((fillP names S).st l j + 1 : Nat), (i + 1 : Nat), rfl, l4, s4 _ _ hpa, by omega, fun pa' H5 o5 hf => ⟨rfl, ?_⟩⟩
        have s35 : Same H3 H5 := Off.to s4 o5 nfx
        refine qf fx pa' x p ((fillP names S).st l j + 1) (i + 1) H5 (s03.trans s35) hf ⟨⟨l, j, 23, hp, hl23, Nat.le_refl _, by rw [← hDs]; exact hD23, by rw [← hDs]; exact hdue, ?_, by rw [← hDs]; exact hDt⟩, by omega, Nat.le_add_left .., ⟨Nat.le_add_left .., hh, fun m hm' => hno m hm'⟩, hx⟩
        rw [← hDs, ← BF_any (c := cF names) (Nat.lt_of_le_of_lt (Nat.sub_le _ 1) hDN) (Nat.lt_of_le_of_lt (Nat.sub_le _ 1) hD23)]
        exact htk
      · walk_at "rd"
        exact ⟨⟨_, _, rfl⟩, _, th3, hnext hh⟩
    · obtain ⟨⟨x0, y0, rfl⟩, S, th1, fi⟩ := pv
      obtain ⟨dx3, bl3, wl3, bas3, las3, tr3, th4⟩ := th1
      have s03 := th4.same
      walk_at "rd"
      walk_at "mk"
      rename_i fx fdx nfx nfdx hned H4 s4 l4
      refine ⟨fx, fdx, most, rfl, l4, fun H5 o5 hf => ⟨rfl, qn fx H5 (s03.trans (Off.to s4 o5 nfx)) hf⟩⟩
def sp_find : PySem.W.Frag → Sp := fun K vs H Q _ => ∃ t z, ∃ (names : List Str) (items : List Itm) (rt : Int → Int → Bool) (g : Int) (most : Nat), vs = [.ref t, .ref z, .int g, .int most] ∧ TongueAt K H t names ∧ NamesOk names ∧ PuzzleAt K H z items ∧ ItOk items rt ∧ -1000000000000000000 ≤ g ∧ g ≤ 1000000000000000000 ∧
  1 ≤ most ∧ most ≤ 20000 ∧
  (∀ c H', Same H H' → NotYetAt K H' c most → Q (.ref c) H') ∧ ∀ c pa ans p step tick H', Same H H' → FoundAt K H' c ans pa p (step : Nat) (tick : Nat) → FoundOk names items rt g most ans p step tick → Q (.ref c) H'
theorem c_find (T : TX w K mg) (Y : TY P K) : C8.Cal P w K mg base 11 "find" (sp_find K) [] := by
  obtain ⟨f, fd, F, b⟩ := T.d_find
  have nd := sc_find.nd
  refine C8.cal0 F b .nil sc_find (fun vs H Q E h => ?_) (fun cdv A outer s H vs Q E hr h => ?_)
  · obtain ⟨t, z, ns, its, rt, g, most, rfl, _⟩ := h
    rfl
  · obtain ⟨t, z, names, items, rt, g, most, rfl, tg, ok, hz, iok, g1, g2, m1, m2, qn, qf⟩ := h
    refine ⟨_, (pss_cons (ps_expr (C8.pe_c (c_need_tongue T) hr (by decide) (by rfl) (pa_cons (pv 0) pa_nil)))
    (pss_cons (ps_expr (C8.pe_c (c_need_given T) hr (by decide) (by rfl) (pa_cons (pv 1) (pa_cons (pv 2) pa_nil))))
    (pss_cons (ps_expr (C8.pe_c (c_need_number T) hr (by decide) (by rfl) (pa_cons (pv 3) (pa_cons pe_str (pa_cons pe_int (pa_cons (C8.pe_gc (by rfl) T.g_MOST_TICKS) pa_nil))))))
    (pss_one (ps_ret (C8.pe_c (c_found_in T Y) hr (by decide) (by rfl) (pa_cons (C8.pe_mk (k_Throng T) hr (by decide) (by rfl) (pa_cons (pv 0) (pa_cons (pv 1) (pa_cons (pv 2) pa_nil)))) (pa_cons (pv 3) pa_nil)))))))), ?_⟩
    walk_at "st"
    walk_at "rd"
    refine ⟨t, names, rfl, tg, ?_⟩
    walk_at "rd"
    refine ⟨z, items, g, rfl, hz, g1, g2, ?_⟩
    walk_at "rd"
    refine ⟨most, "most", 1, 20000, rfl, by omega, by omega, ?_⟩
    walk_at "rd"
    walk_at "mk"
    rename_i lot ldx nlot nldx hned H1 s1 l1
    refine ⟨lot, t, z, ldx, H, names, items, rt, g, rfl, s1, nlot, l1, tg, ok, fun H2 th => ⟨rfl, ?_⟩⟩
    walk_at "rd"
    exact ⟨H, lot, t, z, names, items, rt, g, most, rfl, tg, ok, hz, iok, g1, g2, th, m2, qn, qf⟩
end
end Dt
set_option Elab.async false
set_option linter.all false
set_option maxHeartbeats 4000000
/-! M4: what is found stands at its tick. -/
namespace Dt
open PySem L2
section
variable {names : List Str} {items : List Itm} {rt : Int → Int → Bool} {g : Int} {most : Nat} {ans : Int} {p : List Str} {step tick : Nat}
theorem tb_sums (ok : NamesOk names) {m N D L : Nat} (hD : D < 2 ^ m) (hN : D < 2 ^ N) (hL : L ≤ m) :
    dba (tblN names m) D = BF (cF names) N D ∧ sdF (tblN names m) D L = SD (cF names) D L := by
  refine ⟨?_, ?_⟩
  · rw [dba_BF, tblN_len, BF_cong (c' := cF names) fun l hl => tbl_c ok m l hl]
    exact BF_any hD hN
  · rw [sdF_SD]
    exact SD_cong fun l hl => tbl_c ok m l (by omega)
theorem found_len (ok : NamesOk names) {L i : Nat} (h : (rows (chF names) L)[i]? = some p) : (∀ x ∈ p, x ∈ W7) ∧ lenP names p = L ∧ p.length ≤ L := by
  have hm := rows_mem ok (List.mem_of_getElem? h)
  have := lenP_ge ok hm.1
  exact ⟨hm.1, hm.2, by omega⟩
theorem due_pos {D L : Nat} (h : isDue D L = true) : 1 ≤ D := Nat.le_trans Nat.one_le_two_pow (isDue_lt h)
theorem found_facts (ok : NamesOk names) (F : FoundOk names items rt g most ans p step tick) : (∀ x ∈ p, x ∈ W7) ∧ p.length ≤ 200 ∧ step * 2 ^ lenP names p < 2 ^ 23 ∧ 2 ^ lenP names p ≤ step * 2 ^ lenP names p ∧ 1 ≤ tick := by
  obtain ⟨L, i, N, hp, hL, hN, hD, hd, ht, _⟩ := F.ex
  obtain ⟨h1, h2, h3⟩ := found_len ok hp
  rw [h2]
  exact ⟨h1, by omega, Nat.lt_of_lt_of_le hD (Nat.pow_le_pow_right (by decide) hN), isDue_lt hd, by omega⟩
theorem found_tick (ok : NamesOk names) (F : FoundOk names items rt g most ans p step tick) :
    let D := step * 2 ^ lenP names p
    let tb := tblN names (bitL D + 1)
    (((dba tb D : Nat) : Int) - (((tb.getD (lenP names p) 0 : Nat) : Int) - 1 - (rankF names (chF names) tb p : Nat) + (lgF tb (lenP names p) D : Nat)) = (tick : Nat)) ∧ tickL tb (lenP names p) (aheadF names tb p) D = (tick : Nat) := by
  intro D tb
  obtain ⟨L, i, N, hp, hL, hN, hD, hd, ht, _⟩ := F.ex
  obtain ⟨h1, h2, h3⟩ := found_len ok hp
  have hDd : D = step * 2 ^ L := by show step * 2 ^ lenP names p = _; rw [h2]
  rw [← hDd] at hD hd ht
  have hbl : L < bitL D := lt_bitL (isDue_lt hd)
  have hlen : tb.length = bitL D + 1 := tblN_len _
  have hc : ∀ l, l < L → tb.getD l 0 = cF names l := fun l hl => tbl_c ok _ l (by omega)
  have hr : rankF names (chF names) tb p = i := rank_at ok p hc hp
  have ha : aheadF names tb p = i := by
    rw [ahead_rank ok p h1 (by rw [h2]; exact hc)]
    exact hr
  have hD1 := due_pos hd
  have hpr : D - 1 < 2 ^ (bitL D + 1) := by
    have q1 : D < 2 ^ bitL D := bitL_lt
    have q2 : 2 ^ bitL D ≤ 2 ^ (bitL D + 1) := Nat.pow_le_pow_right (by decide) (Nat.le_succ _)
    omega
  have s1 := (tb_sums ok (L := L) hpr (N := N) (by omega) (by omega)).1
  have s2 : sdF tb D L = SD (cF names) D L := by
    rw [sdF_SD]
    exact SD_cong fun l hl => hc l hl
  rw [hr, ha, h2]
  have e1 := tickP_eq (tb := tb) (A := i) hD1 (by rw [hlen]; omega) hd
  have e2 := tickL_eq (tb := tb) (A := i) hD1 (by rw [hlen]; omega) hd
  rw [e1, e2, s1, s2, ht]
  exact ⟨rfl, rfl⟩
theorem found_pair (ok : NamesOk names) (hm : most ≤ 20000) (F : FoundOk names items rt g most ans p step tick) : ∃ L i : Nat,
    let D := step * 2 ^ lenP names p
    1 ≤ tick ∧ tick < 2 ^ 15 ∧ 1 ≤ D ∧ D ≤ tick * 2 ^ endLen names ∧ tick ≤ dba (bigT names tick) D ∧ (∀ x, x < D → dba (bigT names tick) x < tick) ∧
    (∀ tb, tb = (bigT names tick).take (bitL D) → isDue D L = true ∧ L < tb.length ∧ tick = dba tb (D - 1) + 1 + (sdF tb D L + i) ∧ i < tb.getD L 0 ∧ (∀ l, l < L → tb.getD l 0 = (rows (chF names) l).length)) ∧ (rows (chF names) L)[i]? = some p ∧ D / 2 ^ L = step := by
  obtain ⟨L, i, N, hp, hL, hN, hD, hd, ht, hDt⟩ := F.ex
  obtain ⟨h1, h2, h3⟩ := found_len ok hp
  refine ⟨L, i, ?_⟩
  rw [h2]
  intro D
  have hDd : D = step * 2 ^ L := rfl
  rw [← hDd] at hD hd ht hDt
  have hD1 := due_pos hd
  have hle := F.le
  have hi : i < cF names L := (List.getElem?_eq_some_iff.mp hp).1
  have hbig : (bigT names tick).length = bitL (tick * 2 ^ endLen names) + 1 := tblN_len _
  have hb1 : tick * 2 ^ endLen names < 2 ^ bitL (tick * 2 ^ endLen names) := bitL_lt
  have hb2 : bitL D ≤ bitL (tick * 2 ^ endLen names) := bitL_le (Nat.lt_of_le_of_lt hDt hb1)
  have hbl : L < bitL D := lt_bitL (isDue_lt hd)
  have hpow : 2 ^ bitL (tick * 2 ^ endLen names) ≤ 2 ^ (bitL (tick * 2 ^ endLen names) + 1) := Nat.pow_le_pow_right (by decide) (Nat.le_succ _)
  have hDm : D < 2 ^ (bitL (tick * 2 ^ endLen names) + 1) := by omega
  have sD := (tb_sums ok (L := L) hDm hD (by omega)).1
  have sP := (tb_sums ok (D := D - 1) (L := L) (m := bitL (tick * 2 ^ endLen names) + 1) (N := N) (by omega) (by omega) (by omega)).1
  have hNN : SD (cF names) D (L + 1) ≤ SD (cF names) D N := SD_mono hL
  rw [SD_succ, if_pos hd] at hNN
  have hBD := BF_pred (c := cF names) hD1 N
  refine ⟨by omega, by omega, hD1, hDt, ?_, fun x hx => ?_, fun tb htb => ?_, hp, ?_⟩
  · show tick ≤ dba (tblN names _) D
    rw [sD, hBD]
    omega
  · show dba (tblN names _) x < tick
    have q : dba (tblN names (bitL (tick * 2 ^ endLen names) + 1)) x ≤ dba (tblN names (bitL (tick * 2 ^ endLen names) + 1)) (D - 1) := dba_mono (by omega)
    rw [sP] at q
    omega
  · subst htb
    have hlen : ((bigT names tick).take (bitL D)).length = bitL D := by
      rw [List.length_take, hbig]
      omega
    have hget : ∀ l, l < bitL D → ((bigT names tick).take (bitL D)).getD l 0 = cF names l := by
      intro l hl
      rw [List.getD_eq_getElem?_getD, List.getElem?_take, if_pos hl, ← List.getD_eq_getElem?_getD]
      exact tbl_c ok _ l (by omega)
    refine ⟨hd, by rw [hlen]; exact hbl, ?_, by rw [hget L hbl]; exact hi, fun l hl => hget l (by omega)⟩
    have e1 : dba ((bigT names tick).take (bitL D)) (D - 1) = BF (cF names) N (D - 1) := by
      rw [dba_BF, hlen, BF_cong (c' := cF names) hget]
      have q1 : D < 2 ^ bitL D := bitL_lt
      exact BF_any (by omega) (by omega)
    have e2 : sdF ((bigT names tick).take (bitL D)) D L = SD (cF names) D L := by
      rw [sdF_SD]
      exact SD_cong fun l hl => hget l (by omega)
    rw [e1, e2, ht]
    omega
  · rw [hDd]
    exact Nat.mul_div_cancel _ (Nat.two_pow_pos L)
end
end Dt
set_option Elab.async false
set_option linter.all false
set_option maxHeartbeats 4000000
/-! M5: the law's three checks. -/
namespace Dt
open PySem L2
def Path {α : Type} (R : List α → Itm → List α → Prop) (a : List α) (xs : List Itm) (b : List α) : Prop := ∃ f : Nat → List α, f 0 = a ∧ f xs.length = b ∧ (∀ i, (f i).length ≤ 20) ∧ ∀ i it, xs[i]? = some it → R (f i) it (f (i + 1))
theorem Path.append {α : Type} {R : List α → Itm → List α → Prop} {a b c : List α} {xs ys : List Itm} (h : Path R a xs b) (h' : Path R b ys c) : Path R a (xs ++ ys) c := by
  obtain ⟨f, f0, f1, f2, f3⟩ := h
  obtain ⟨g, g0, g1, g2, g3⟩ := h'
  refine ⟨fun i => if i ≤ xs.length then f i else g (i - xs.length), ?_, ?_, fun i => ?_, fun i it hi => ?_⟩
  · show (if 0 ≤ xs.length then f 0 else _) = a
    rw [if_pos (Nat.zero_le _), f0]
  · show (if (xs ++ ys).length ≤ xs.length then f (xs ++ ys).length else g ((xs ++ ys).length - xs.length)) = c
    rw [List.length_append]
    by_cases h : xs.length + ys.length ≤ xs.length
    · have : ys.length = 0 := by omega
      rw [if_pos h, this, Nat.add_zero, f1, ← g1, this, g0]
    · rw [if_neg h, Nat.add_sub_cancel_left, g1]
  · show (if i ≤ xs.length then f i else g (i - xs.length)).length ≤ 20
    by_cases h : i ≤ xs.length
    · rw [if_pos h]; exact f2 i
    · rw [if_neg h]; exact g2 _
  · show R (if i ≤ xs.length then f i else g (i - xs.length)) it (if i + 1 ≤ xs.length then f (i + 1) else g (i + 1 - xs.length))
    by_cases h : i < xs.length
    · rw [if_pos (by omega), if_pos (by omega)]
      rw [List.getElem?_append_left h] at hi
      exact f3 i it hi
    · rw [List.getElem?_append_right (by omega)] at hi
      have q := g3 _ it hi
      rw [if_neg (show ¬ i + 1 ≤ xs.length by omega)]
      by_cases h2 : i ≤ xs.length
      · have e : i = xs.length := by omega
        subst e
        rw [if_pos h2, f1, ← g0]
        rw [Nat.sub_self] at q
        rw [Nat.add_sub_cancel_left]
        exact q
      · rw [if_neg h2, show i + 1 - xs.length = i - xs.length + 1 by omega]
        exact q
theorem Path.one {α : Type} {R : List α → Itm → List α → Prop} {a b : List α} {it : Itm} (h : R a it b) (ha : a.length ≤ 20) (hb : b.length ≤ 20) : Path R a [it] b := by
  refine ⟨fun i => if i = 0 then a else b, rfl, rfl, fun i => ?_, fun i x hi => ?_⟩
  · show (if i = 0 then a else b).length ≤ 20
    by_cases h : i = 0
    · rw [if_pos h]; exact ha
    · rw [if_neg h]; exact hb
  · cases i with
    | zero =>
      have e : it = x := by simpa using hi
      subst e
      exact h
    | succ i => simp at hi
def kd : Bool → Str
  | true => "truth"
  | false => "number"
theorem kpath : ∀ {e : Ex} {b : Bool}, e.Ty b → e.small → ∀ ks : List Str, ks.length + e.dep ≤ 20 → Path KStep ks e.code (ks ++ [kd b])
  | _, _, .a, _, ks, h => Path.one (.a ks (by have : ks.length + 1 ≤ 20 := h; omega)) (by have : ks.length + 1 ≤ 20 := h; omega) (by rw [List.length_append]; exact h)
  | _, _, .n, _, ks, h => Path.one (.n ks (by have : ks.length + 1 ≤ 20 := h; omega)) (by have : ks.length + 1 ≤ 20 := h; omega) (by rw [List.length_append]; exact h)
  | _, _, .num i, sm, ks, h => Path.one (.num ks i (by have : ks.length + 1 ≤ 20 := h; omega) sm.1 sm.2) (by have : ks.length + 1 ≤ 20 := h; omega) (by rw [List.length_append]; exact h)
  | _, _, .eq (l := l) (r := r) h1 h2, sm, ks, h => kbin .eq (kpath h1 sm.1 ks) (kpath h2 sm.2 (ks ++ [kd false])) h
  | _, _, .lt (l := l) (r := r) h1 h2, sm, ks, h => kbin .lt (kpath h1 sm.1 ks) (kpath h2 sm.2 (ks ++ [kd false])) h
  | _, _, .rem (l := l) (r := r) h1 h2, sm, ks, h => kbin .rem (kpath h1 sm.1 ks) (kpath h2 sm.2 (ks ++ [kd false])) h
  | _, _, .and (l := l) (r := r) h1 h2, sm, ks, h => kbin .and (kpath h1 sm.1 ks) (kpath h2 sm.2 (ks ++ [kd true])) h
  | _, _, .or (l := l) (r := r) h1 h2, sm, ks, h => kbin .or (kpath h1 sm.1 ks) (kpath h2 sm.2 (ks ++ [kd true])) h
where
  kbin (o : Bop) {l r : Ex} {ks : List Str} (h1 : ks.length + l.dep ≤ 20 → Path KStep ks l.code (ks ++ [o.tk])) (h2 : (ks ++ [o.tk]).length + r.dep ≤ 20 → Path KStep (ks ++ [o.tk]) r.code (ks ++ [o.tk] ++ [o.tk])) (h : ks.length + (Ex.bin o l r).dep ≤ 20) : Path KStep ks (Ex.bin o l r).code (ks ++ [o.mk]) := by
    have hd : ks.length + (Nat.max l.dep r.dep + 1) ≤ 20 := h
    have m1 : l.dep ≤ Nat.max l.dep r.dep := Nat.le_max_left l.dep r.dep
    have m2 : r.dep ≤ Nat.max l.dep r.dep := Nat.le_max_right l.dep r.dep
    have m3 : 1 ≤ l.dep := by cases l <;> simp [Ex.dep]
    have p1 := h1 (by omega)
    have p2 := h2 (by rw [List.length_append, List.length_singleton]; omega)
    have e : ks ++ [o.tk] ++ [o.tk] = ks ++ [o.tk, o.tk] := by simp
    rw [e] at p2
    have p3 := Path.one (R := KStep) (KStep.op o ks) (by rw [List.length_append]; show ks.length + 2 ≤ 20; omega) (by rw [List.length_append]; show ks.length + 1 ≤ 20; omega)
    show Path KStep ks (l.code ++ r.code ++ [o.i]) (ks ++ [o.mk])
    exact (p1.append p2).append p3
theorem pbin {g x : Int} (o : Bop) {l r : Ex} {st : List V} (ok : opOk o (l.val g x) (r.val g x)) (h1 : st.length + l.dep ≤ 20 → Path (PStep g x) st l.code (st ++ [l.val g x])) (h2 : (st ++ [l.val g x]).length + r.dep ≤ 20 → Path (PStep g x) (st ++ [l.val g x]) r.code (st ++ [l.val g x] ++ [r.val g x]))
    (h : st.length + (Ex.bin o l r).dep ≤ 20) : Path (PStep g x) st (Ex.bin o l r).code (st ++ [(Ex.bin o l r).val g x]) := by
  have hd : st.length + (Nat.max l.dep r.dep + 1) ≤ 20 := h
  have m1 : l.dep ≤ Nat.max l.dep r.dep := Nat.le_max_left l.dep r.dep
  have m2 : r.dep ≤ Nat.max l.dep r.dep := Nat.le_max_right l.dep r.dep
  have m3 : 1 ≤ l.dep := by cases l <;> simp [Ex.dep]
  have p1 := h1 (by omega)
  have p2 := h2 (by rw [List.length_append, List.length_singleton]; omega)
  have e : st ++ [l.val g x] ++ [r.val g x] = st ++ [l.val g x, r.val g x] := by simp
  rw [e] at p2
  have p3 := Path.one (R := PStep g x) (PStep.op o st _ _ ok) (by rw [List.length_append]; show st.length + 2 ≤ 20; omega) (by rw [List.length_append]; show st.length + 1 ≤ 20; omega)
  show Path (PStep g x) st (l.code ++ r.code ++ [o.i]) (st ++ [opV o (l.val g x) (r.val g x)])
  exact (p1.append p2).append p3
theorem ppath {g x : Int} : ∀ {e : Ex} {b : Bool}, e.Ty b → e.small → ∀ st : List V, st.length + e.dep ≤ 20 → Path (PStep g x) st e.code (st ++ [e.val g x])
  | _, _, .a, _, st, h => Path.one (.a st) (by have : st.length + 1 ≤ 20 := h; omega) (by rw [List.length_append]; exact h)
  | _, _, .n, _, st, h => Path.one (.n st) (by have : st.length + 1 ≤ 20 := h; omega) (by rw [List.length_append]; exact h)
  | _, _, .num i, sm, st, h => Path.one (.num st i sm.1 sm.2) (by have : st.length + 1 ≤ 20 := h; omega) (by rw [List.length_append]; exact h)
  | _, _, .eq (l := l) (r := r) h1 h2, sm, st, h => by
    obtain ⟨i, e1⟩ := ty_int (g := g) (x := x) h1
    obtain ⟨j, e2⟩ := ty_int (g := g) (x := x) h2
    exact pbin .eq (by rw [e1, e2]; trivial) (ppath h1 sm.1 st) (ppath h2 sm.2 _) h
  | _, _, .lt (l := l) (r := r) h1 h2, sm, st, h => by
    obtain ⟨i, e1⟩ := ty_int (g := g) (x := x) h1
    obtain ⟨j, e2⟩ := ty_int (g := g) (x := x) h2
    exact pbin .lt (by rw [e1, e2]; trivial) (ppath h1 sm.1 st) (ppath h2 sm.2 _) h
  | _, _, .rem (l := l) (r := r) h1 h2, sm, st, h => by
    obtain ⟨i, e1⟩ := ty_int (g := g) (x := x) h1
    obtain ⟨j, e2⟩ := ty_int (g := g) (x := x) h2
    exact pbin .rem (by rw [e1, e2]; trivial) (ppath h1 sm.1 st) (ppath h2 sm.2 _) h
  | _, _, .and (l := l) (r := r) h1 h2, sm, st, h => by
    obtain ⟨i, e1⟩ := ty_bl (g := g) (x := x) h1
    obtain ⟨j, e2⟩ := ty_bl (g := g) (x := x) h2
    exact pbin .and (by rw [e1, e2]; trivial) (ppath h1 sm.1 st) (ppath h2 sm.2 _) h
  | _, _, .or (l := l) (r := r) h1 h2, sm, st, h => by
    obtain ⟨i, e1⟩ := ty_bl (g := g) (x := x) h1
    obtain ⟨j, e2⟩ := ty_bl (g := g) (x := x) h2
    exact pbin .or (by rw [e1, e2]; trivial) (ppath h1 sm.1 st) (ppath h2 sm.2 _) h
theorem numS_no (i : Int) : 32 ∉ numS i := by
  have hd := TL.numL_digits i.natAbs
  unfold numS
  intro h
  by_cases hi : i < 0
  · rw [if_pos hi] at h
    rcases List.mem_cons.mp h with e | e
    · cases e
    · have := hd 32 e
      omega
  · rw [if_neg hi] at h
    have := hd 32 h
    omega
theorem item_free : ∀ {e : Ex}, e.small → ∀ it ∈ e.code, 32 ∉ it.s.cps.toList ∧ it.s.length ≤ 20
  | .a, _, it, h => by rw [List.mem_singleton.mp h]; decide +kernel
  | .n, _, it, h => by rw [List.mem_singleton.mp h]; decide +kernel
  | .num i, sm, it, h => by
    rw [List.mem_singleton.mp h]
    have hs : Itm.s (.num i) = SX.S (numS i) := num_text i
    rw [hs]
    exact ⟨numS_no i, by rw [SX.S_len]; exact numS_len sm.1 sm.2⟩
  | .bin o l r, sm, it, h => by
    have h' : it ∈ l.code ++ r.code ++ [o.i] := h
    rcases List.mem_append.mp h' with q | q
    · rcases List.mem_append.mp q with q | q
      · exact item_free sm.1 it q
      · exact item_free sm.2 it q
    · rw [List.mem_singleton.mp q]
      cases o <;> decide +kernel
/-- the truth of a check -/
def rtE (e : Ex) (g x : Int) : Bool := match e.val g x with
  | .bl b => b
  | _ => false
theorem rtE_val {e : Ex} (ty : e.Ty true) (g x : Int) : e.val g x = .bl (rtE e g x) := by
  obtain ⟨b, hb⟩ := ty_bl (g := g) (x := x) ty
  unfold rtE
  rw [hb]
theorem ex_ok {e : Ex} (ty : e.Ty true) (sm : e.small) (hd : e.dep ≤ 20) (h9 : e.code.length ≤ 9) : ItOk e.code (rtE e) where
  pos := code_pos e
  few := h9
  free := item_free sm
  kinds := by
    obtain ⟨f, f0, f1, f2, f3⟩ := kpath ty sm [] (by simpa using hd)
    exact ⟨f, f0, f1, f2, f3⟩
  piles := fun g x => by
    obtain ⟨f, f0, f1, f2, f3⟩ := ppath (g := g) (x := x) ty sm [] (by simpa using hd)
    refine ⟨f, f0, ?_, f2, f3⟩
    rw [f1, List.nil_append, rtE_val ty]
/-! ### the three -/
def ex1 (v : Int) : Ex := .bin .eq .a (.num v)
def ex2 (v : Int) : Ex := .bin .or (.bin .eq .a (.num v)) (.bin .eq .a .n)
def ex3 : Ex := .bin .and (.bin .lt (.num 1) .a) (.bin .eq (.bin .rem .n .a) (.num 0))
theorem ty1 (v : Int) : (ex1 v).Ty true := .eq .a (.num v)
theorem ty2 (v : Int) : (ex2 v).Ty true := .or (.eq .a (.num v)) (.eq .a .n)
theorem ty3 : ex3.Ty true := .and (.lt (.num 1) .a) (.eq (.rem .n .a) (.num 0))
end Dt
set_option Elab.async false
set_option linter.all false
set_option maxRecDepth 100000
set_option maxHeartbeats 4000000
/-! F38: law. -/
namespace Dt
open PySem PySem.Spec L2
theorem eqv_strs : ∀ l : List Str, PyData.eqvAll (l.map PyData.str) (l.map PyData.str) = true
  | [] => rfl
  | x :: l => by
    rw [List.map_cons, PySem.W.eqv_all_cons, eqv_strs l]
    simp [PyData.eqv]
theorem shaped_pi (l : List Str) (i : Int) (h : ∀ x ∈ l, ∀ c ∈ x.cps.toList, c < 0x110000) : SeqAt.shaped (.tuple [.tuple (l.map PyData.str), .int i]) = true := by
  have h1 := shaped_strs l h
  unfold SeqAt.shaped at h1 ⊢
  rw [Bool.and_eq_true] at h1
  have a1 : PyData.canLayAll0 (l.map PyData.str) = true := h1.1
  have a2 : PyData.depthAll (l.map PyData.str) ≤ 0 := by
    clear h1 a1 h
    induction l with
    | nil => exact Nat.zero_le _
    | cons a l ih =>
      rw [List.map_cons]
      show max (PyData.depth (.str a)) (PyData.depthAll _) ≤ 0
      exact Nat.max_le.mpr ⟨Nat.zero_le _, ih⟩
  have e : PyData.canLay0 (.tuple [.tuple (l.map PyData.str), .int i]) = true := by
    simp [PyData.canLay0, PyData.canLayAll0, a1]
  rw [e, Bool.true_and]
  refine decide_eq_true ?_
  show max (PyData.depthAll (l.map PyData.str) + 1) (max 0 0) + 1 ≤ 64
  have := Nat.max_le.mpr ⟨show PyData.depthAll (l.map PyData.str) + 1 ≤ 1 by omega, show max 0 0 ≤ 1 by decide⟩
  omega
theorem W7_ok : ∀ x ∈ W7, ∀ c ∈ x.cps.toList, c < 0x110000 := by decide +kernel
local macro_rules | `(tactic| walk_at "st") => `(tactic| (simp only [L2.start, List.map_cons, List.map_nil, List.length_cons, List.length_nil, List.replicate_succ, List.replicate_zero, List.cons_append, List.nil_append, Nat.zero_add, Nat.reduceAdd, Nat.reduceSub]))
local macro_rules | `(tactic| walk_at "r1") => `(tactic| with_reducible first
  | refine g_seq ?_
  | refine g_next ?_
  | refine g_asg ?_
  | refine g_ifS ?_
  | refine g_ret ?_
  | refine g_retN ?_
  | refine g_drop ?_
  | refine g_brk ?_
  | refine g_c ?_
  | refine g_op ?_
  | refine g_un ?_
  | refine g_I0 ?_
  | refine g_U ?_
  | refine g_eqI ?_
  | refine g_neI ?_
  | refine g_eqS ?_
  | refine g_neS ?_
  | refine g_test ?_
  | refine g_B ?_
  | refine g_bl ?_
  | refine g_if ?_
  | refine g_not ?_
  | refine g_and ?_
  | refine g_or ?_
  | refine g_andV ?_
  | refine g_orV ?_
  | refine g_notV ?_
  | refine g_blif ?_
  | refine g_chain ?_
  | refine g_nil ?_
  | refine g_cons ?_
  | refine g_cb ?_
  | refine g_call ?_
  | refine g_tup ?_
  | refine g_lst ?_
  | refine g_tfld ?_
  | refine g_dget ?_
  | refine g_mk ?_
  | refine g_lc2 ?_
  | refine g_gfld ?_
  | refine g_meth ?_
  | refine g_sfld ?_
  | refine g_din ?_
  | refine g_dput ?_
  | refine g_isN_int ?_
  | refine g_isN_str ?_
  | refine g_isN_ref ?_
  | refine g_isN_non ?_
  | refine g_nN_int ?_
  | refine g_nN_str ?_
  | refine g_nN_ref ?_
  | refine g_nN_non ?_
  | refine g_lc ?_
  | refine g_dc ?_
  | refine g_for ?_
  | refine g_iStr ?_
  | refine g_iList ?_
  | refine g_iTup ?_
  | refine g_iR1 ?_
  | refine g_iR2 ?_
  | refine g_iR3 ?_
  | refine g_iEnum ?_
  | refine g_iZip ?_
  | refine g_iZipA ?_
  | refine g_bm ?_
  | refine g_bm0 ?_
  | refine g_m1 ?_
  | refine g_sl ?_
  | refine g_poN ?_
  | refine g_poS ?_
  | refine g_poI ?_
  | refine g_yes ?_
  | refine g_gtup ?_
  | refine g_gcons ?_
  | refine g_gnil ?_
  | refine g_par ?_
  | refine g_isi_ii ?_
  | refine g_isi_ib ?_
  | refine g_isi_ss ?_
  | refine g_inC ?_
  | refine g_int1 ?_
  | refine g_int1b ?_
  | refine g_abs ?_
  | refine g_ltS ?_
  | refine iteT ?_
  | refine iteNT ?_
  | refine iteNF ?_
  | refine iteF ?_)
local macro_rules | `(tactic| walk_at "sd") => `(tactic| first | assumption | rfl | decide | omega)
local macro_rules | `(tactic| walk_at "hp") => `(tactic| first | assumption | exact upd_same | exact Same.get (by assumption) (by walk_at "hp") | exact Off.get (by assumption) (by walk_at "hp") (by walk_at "ne"))
local macro_rules | `(tactic| walk_at "ne") => `(tactic| first | assumption | (refine Ne.symm ?_; assumption) | exact ne_of_none (by walk_at "hp") (by assumption) | exact ne_none (by walk_at "hp") (by assumption) | exact ne_of (by walk_at "hp") (by walk_at "hp") (by intro z; cases z))
local macro_rules | `(tactic| walk_at "sq") => `(tactic| first | assumption | exact SqL.rd (by walk_at "hp") | exact SqT.rd (by walk_at "hp") | exact Same.seq (by assumption) (by walk_at "sq") | exact Same.seqT (by assumption) (by walk_at "sq"))
local macro_rules | `(tactic| walk_at "rI") => `(tactic| ((with_reducible refine g_I ?_ ?_); (focus (first | (refine Or.inl ⟨?_, ?_⟩ <;> (first | decide | omega)) | (refine Or.inr ⟨?_, ?_⟩ <;> (first | decide | omega)) | (show (0 : Int) < _; first | decide | omega | assumption) | (refine And.intro ?_ ?_ <;> (first | decide | omega | (refine And.intro ?_ ?_ <;> (first | decide | omega))))))))
local macro_rules | `(tactic| walk_at "r2") => `(tactic| first
  | ((with_reducible refine g_tvar ?_); (refine ⟨_, rfl, ?_⟩))
  | ((with_reducible refine g_name' (σ' := ?s) ?e ?h); (case e => (simp only [wipe, List.set_cons_zero, List.set_cons_succ]; first | done | rfl)))
  | (refine And.intro (show wipe _ _ = wipe _ _ from rfl) ?_)
  | walk_at "rI")
local macro_rules | `(tactic| walk_at "rd") => `(tactic| repeat (first | walk_at "r1" | walk_at "r2"))
local macro_rules | `(tactic| walk_at "gn") => `(tactic| (intro pA hA; generalize hG : upd _ _ _ = H2A; (have sA : Same _ H2A := hG ▸ Same.upd hA); (have lA : H2A pA = some _ := hG ▸ upd_same); clear hG))
local macro_rules | `(tactic| walk_at "mk") => `(tactic| (intro xM dxM h1M h2M hneM; generalize hG : upd (upd _ _ _) _ _ = HM; (have sM : Same _ HM := hG ▸ Same.updW (Same.upd h2M) h1M); (have lM : HM xM = some _ := hG ▸ upd_same); clear hG))
section
variable {P : Program} {w : World} {K : PySem.W.Frag} {mg : Str → Option Value} {base : Heap}
def sp_law : PySem.W.Frag → Sp := fun K vs H Q _ => ∃ a, ∃ cells : List Int, vs = [.ref a] ∧ SqL K H a (cells.map V.int) ∧ cells.length ≤ 63 ∧ ∀ H', Q (.bl true) H'
theorem f_law (T : TX w K mg) (Y : TY P K) {f : Addr} {fd : FuncData} (F : C8.Def K mg "law" s_law f fd) : FnOk P w K mg base C8.CX0 12 f fd ["_law_script"] (sp_law K) := by
  have nd := sc_law.nd
  obtain ⟨fE, fdE, FE, hsE, hfE, bE⟩ := f_Paper_eq (P := P) (w := w) (mg := mg) (base := base) T Y
  refine C8.fn0 F.fn sc_law (fun vs H Q E h => ?_) (fun cdv A outer s H vs Q E hr h => ?_)
  · obtain ⟨a, cells, rfl, _⟩ := h
    rfl
  · obtain ⟨a, cells, rfl, ha, h63, q⟩ := h
    refine ⟨_, (pss_cons (ps_set (i := 1) nd rfl (Or.inl rfl) (C8.pe_c (c_law_mine T) hr (by decide) (by rfl) (pa_cons (pv 0) pa_nil)))
    (pss_cons (ps_par (i := 6) (j := 7) rfl nd rfl rfl (by decide) rfl rfl (pa_cons (C8.pe_c (c_law_names T) hr (by decide) (by rfl) (pa_cons (pv 1) pa_nil)) (pa_cons (C8.pe_c (c_law_one T) hr (by decide) (by rfl) (pa_cons (pv 1) (pa_cons (pe_lst (pa_cons (C8.pe_c (c_law_delve T) hr (by decide) (by rfl) (pa_cons (pv 1) (pa_cons pe_int pa_nil))) (pa_cons (C8.pe_c (c_law_delve T) hr (by decide) (by rfl) (pa_cons (pv 1) (pa_cons pe_int pa_nil))) (pa_cons (pe_op op_sub (pe_op op_pow pe_int pe_int) pe_int) pa_nil)))) pa_nil))) pa_nil)) (by rfl))
    (pss_cons (ps_par (i := 8) (j := 9) rfl nd rfl rfl (by decide) rfl rfl (pa_cons (C8.pe_mk (k_Tongue T) hr (by decide) (by rfl) (pa_cons (pv 6) pa_nil)) (pa_cons (C8.pe_c (c_law_one T) hr (by decide) (by rfl) (pa_cons (pv 1) (pa_cons (pe_lst (pa_cons (pv 7) (pa_cons (pe_op op_mul pe_int (pv 7)) (pa_cons (pe_un un_neg (pv 7)) (pa_cons (pe_op op_add (pv 7) pe_int) (pa_cons (C8.pe_c (c_law_delve T) hr (by decide) (by rfl) (pa_cons (pv 1) (pa_cons pe_int pa_nil))) (pa_cons (pe_un un_neg pe_int) (pa_cons (pe_op op_mul (pv 7) (pv 7)) pa_nil)))))))) pa_nil))) pa_nil)) (by rfl))
    (pss_cons (ps_set (i := 2) nd rfl (Or.inl rfl) (C8.pe_c (c_law_one T) hr (by decide) (by rfl) (pa_cons (pv 1) (pa_cons (pe_lst (pa_cons (pe_lst (pa_cons pe_str (pa_cons (pe_callTy kc_str (by rfl) T.z_str (by decide +kernel) (pa_cons (pv 9) pa_nil)) (pa_cons pe_str pa_nil)))) (pa_cons (pe_lst (pa_cons pe_str (pa_cons (pe_callTy kc_str (by rfl) T.z_str (by decide +kernel) (pa_cons (pv 9) pa_nil)) (pa_cons pe_str (pa_cons pe_str (pa_cons pe_str (pa_cons pe_str (pa_cons pe_str pa_nil)))))))) (pa_cons (pe_lst (pa_cons pe_str (pa_cons pe_str (pa_cons pe_str (pa_cons pe_str (pa_cons pe_str (pa_cons pe_str (pa_cons pe_str (pa_cons pe_str (pa_cons pe_str pa_nil)))))))))) pa_nil)))) pa_nil))))
    (pss_cons (ps_set (i := 3) nd rfl (Or.inl rfl) (C8.pe_c (c_law_one T) hr (by decide) (by rfl) (pa_cons (pv 1) (pa_cons (pe_lst (pa_cons pe_int (pa_cons pe_int (pa_cons pe_int (pa_cons (pe_ifExp (pt_cmpR op_eq (C8.pe_c (c_law_delve T) hr (by decide) (by rfl) (pa_cons (pv 1) (pa_cons pe_int pa_nil))) pe_int (nomark _)) pe_int pe_int) pa_nil))))) pa_nil))))
    (pss_cons (ps_set (i := 4) nd rfl (Or.inl rfl) (C8.pe_c (c_find T Y) hr (by decide) (by rfl) (pa_cons (pv 8) (pa_cons (C8.pe_mk (k_Puzzle T) hr (by decide) (by rfl) (pa_cons (pe_join pe_str (pv 2)) pa_nil)) (pa_cons (pv 7) (pa_cons (pv 3) pa_nil))))))
    (pss_cons (ps_if (pt_not (pt_val (pe_callB call_isi (by rfl) T.z_isinstance (by decide +kernel) (pa_cons (pv 4) (pa_cons (C8.pe_gc (by rfl) T.v_Found) pa_nil)))))
      (pss_one (ps_ret (pe_cmpR (op_eqG (rcG_ins (E := C8.E0) FE hsE hfE bE C8.pass0) (hr.mono (by decide))) (pv 4) (C8.pe_mk (k_NotYet T Y) hr (by decide) (by rfl) (pa_cons (pv 3) pa_nil)) (nomark _))))
      pss_nil)
    (pss_cons (ps_set (i := 5) nd rfl (Or.inl rfl) (C8.pe_c (c_law_text T) hr (by decide) (by rfl) (pa_cons (pv 6) (pa_cons (pe_fld (pv 4) rfl) pa_nil))))
    (pss_cons (ps_if (PW.pt (pw_or (pt_cmpR (op_neD hr.units) (C8.pe_c (c_law_trial T) hr (by decide) (by rfl) (pa_cons (pe_fld (pv 4) rfl) (pa_cons (pv 2) (pa_cons (pv 7) (pa_cons (pe_fld (pv 4) rfl) pa_nil))))) (pe_tup (pa_cons (pe_fld (pv 4) rfl) (pa_cons (pe_fld (pv 4) rfl) pa_nil))) (nomark _)) (pw_or1 (pt_cmpR op_gt (pe_fld (pv 4) rfl) (pv 3) (nomark _)))))
      (pss_one (ps_ret pe_bl))
      pss_nil)
    (pss_cons (ps_if (pt_cmpR op_ne (pe_fld (pv 4) rfl) (C8.pe_c (c_law_tick T) hr (by decide) (by rfl) (pa_cons (pv 6) (pa_cons (pe_callB kc_lenS (by rfl) T.z_len (by decide +kernel) (pa_cons (pv 5) pa_nil)) (pa_cons (pv 5) (pa_cons (pe_op ko_shl (pe_fld (pv 4) rfl) (pe_callB kc_lenS (by rfl) T.z_len (by decide +kernel) (pa_cons (pv 5) pa_nil))) pa_nil))))) (nomark _))
      (pss_one (ps_ret pe_bl))
      pss_nil)
    (pss_one (ps_ret (pe_and (pe_cmpR op_eq (C8.pe_c (c_tick_in T) hr (by decide) (by rfl) (pa_cons (pv 8) (pa_cons (pe_fld (pv 4) rfl) (pa_cons (pe_fld (pv 4) rfl) pa_nil)))) (pe_fld (pv 4) rfl) (nomark _)) (pe_one (pe_cmpR (op_eqD hr.units) (C8.pe_c (c_pair_in T) hr (by decide) (by rfl) (pa_cons (pv 8) (pa_cons (pe_fld (pv 4) rfl) pa_nil))) (pe_tup (pa_cons (pe_fld (pv 4) rfl) (pa_cons (pe_fld (pv 4) rfl) pa_nil))) (nomark _)))))))))))))))), ?_⟩
    walk_at "st"
    walk_at "rd"
    refine ⟨a, cells, rfl, ha, h63, fun m cl H1 s1 nm hm1 => ?_⟩
    have mne : ∀ (Hx : Hp) (c : Addr) (k : Nat), MineAt Hx m cl k → Hx c = none → c ≠ m := fun Hx c k h hc => by
      obtain ⟨cs, x, r, h1, _⟩ := h
      exact (ne_of_none h1 hc).symm
    walk_at "rd"
    refine ⟨m, cl, rfl, hm1, fun nl names H2 o2 hm2 hnl ok nlm => ?_⟩
    walk_at "rd"
    refine ⟨m, cl, 500, 30, rfl, hm2, by decide, by decide, by decide, fun r1 H3 hr1 o3 hm3 => ?_⟩
    walk_at "rd"
    refine ⟨m, cl, 501, 30, rfl, hm3, by decide, by decide, by decide, fun r2 H4 hr2 o4 hm4 => ?_⟩
    walk_at "rd"
    refine ⟨show (3 : Nat) ≤ sizeLine by decide, fun a1 na1 => ?_⟩
    have s5 := Same.upd (o := .lst [.int r1, .int r2, .int (10 ^ Int.toNat 9 - 7)]) na1
    have l5 := upd_same (H := H4) (a := a1) (o := .lst [.int r1, .int r2, .int (10 ^ Int.toNat 9 - 7)])
    generalize upd H4 a1 (.lst [.int r1, .int r2, .int (10 ^ Int.toNat 9 - 7)]) = H5 at s5 l5
    have na1m := mne _ _ _ hm4 na1
    walk_at "rd"
    refine ⟨m, cl, a1, 502, _, rfl, hm4.same s5, l5, na1m, by decide, show (0 : Nat) < 3 by decide, show (3 : Nat) ≤ 100 by decide, fun x H6 hx o6 hm6 => ?_⟩
    obtain ⟨g, rfl, hg0, hg1⟩ : ∃ g : Int, x = .int g ∧ 0 ≤ g ∧ g ≤ 999999993 := by
      simp only [List.mem_cons, List.not_mem_nil, or_false] at hx
      rcases hx with e | e | e
      · exact ⟨r1, e, by omega, by omega⟩
      · exact ⟨r2, e, by omega, by omega⟩
      · exact ⟨_, e, by decide, by decide⟩
    have hnl6 : H6 nl = some (.lst (names.map V.str)) := o6 _ _ (s5 _ _ (o4 _ _ (o3 _ _ hnl nlm) nlm)) nlm
    walk_at "rd"
    refine ⟨_, _, rfl, ?_⟩
    walk_at "rd"
    walk_at "mk"
    rename_i t tdx nt ntdx hned H7 s7 l7
    have ntm := mne _ _ _ hm6 nt
    have hnt : nl ≠ t := ne_of_none hnl6 nt
    refine ⟨t, nl, tdx, names, rfl, l7, s7 _ _ hnl6, ok, fun H8 o8 tg8 => ⟨rfl, ?_⟩⟩
    have s68 : Same H6 H8 := Off.to s7 o8 nt
    have hm8 := hm6.same s68
    have hnl8 := s68 _ _ hnl6
    walk_at "rd"
    refine ⟨m, cl, 503, 12, rfl, hm8, by decide, by decide, by decide, fun r3 H9 hr3 o9 hm9 => ?_⟩
    walk_at "rd"
    refine ⟨show (7 : Nat) ≤ sizeLine by decide, fun a2 na2 => ?_⟩
    have s10 := Same.upd (o := .lst [.int g, .int (2 * g), .int (-g), .int (g + 1), .int r3, .int (-1), .int (g * g)]) na2
    have l10 := upd_same (H := H9) (a := a2) (o := .lst [.int g, .int (2 * g), .int (-g), .int (g + 1), .int r3, .int (-1), .int (g * g)])
    generalize upd H9 a2 (.lst [.int g, .int (2 * g), .int (-g), .int (g + 1), .int r3, .int (-1), .int (g * g)]) = H10 at s10 l10
    have na2m := mne _ _ _ hm9 na2
    walk_at "rd"
    refine ⟨m, cl, a2, 504, _, rfl, hm9.same s10, l10, na2m, by decide, show (0 : Nat) < 7 by decide, show (7 : Nat) ≤ 100 by decide, fun x H11 hx o11 hm11 => ?_⟩
    have hgg : 0 ≤ g * g ∧ g * g ≤ 999999993 * 999999993 := ⟨Int.mul_nonneg hg0 hg0, Int.mul_le_mul hg1 hg1 hg0 (by decide)⟩
    obtain ⟨v, rfl, hv0, hv1⟩ : ∃ v : Int, x = .int v ∧ -1000000000000000000 ≤ v ∧ v ≤ 1000000000000000000 := by
      simp only [List.mem_cons, List.not_mem_nil, or_false] at hx
      rcases hx with e | e | e | e | e | e | e
      · exact ⟨_, e, by omega, by omega⟩
      · exact ⟨_, e, by omega, by omega⟩
      · exact ⟨_, e, by omega, by omega⟩
      · exact ⟨_, e, by omega, by omega⟩
      · exact ⟨_, e, by omega, by omega⟩
      · exact ⟨_, e, by omega, by omega⟩
      · exact ⟨_, e, by omega, by omega⟩
    have o8_11 : Off m H8 H11 := fun z o h n => o11 _ _ (s10 _ _ (o9 _ _ h n)) n
    have tg11 : TongueAt K H11 t names := by
      obtain ⟨cs, x, r, h1, _⟩ := hm8
      exact tg8.off o8_11 h1
    have hnl11 := o8_11 _ _ hnl8 nlm
    clear hgg hx
    walk_at "rd"
    refine ⟨_, _, rfl, ?_⟩
    have hlog : v.natAbs.log2 < 1920 := by
      rcases Nat.eq_zero_or_pos v.natAbs with z | z
      · rw [z]; decide
      · refine (Nat.log2_lt (by omega)).mpr (Nat.lt_of_le_of_lt (show v.natAbs ≤ 1000000000000000000 by omega) ?_)
        exact Nat.lt_of_lt_of_le (show (1000000000000000000 : Nat) < 2 ^ 60 by decide) (Nat.pow_le_pow_right (by decide) (by decide))
    walk_at "rd"
    refine g_strI hlog ?_
    walk_at "rd"
    refine ⟨show (3 : Nat) ≤ sizeLine by decide, fun i1 ni1 => ?_⟩
    have s12 := Same.upd (o := .lst [.str "a", .str (Str.ofString (toString v)), .str "="]) ni1
    have l12 := upd_same (H := H11) (a := i1) (o := .lst [.str "a", .str (Str.ofString (toString v)), .str "="])
    generalize upd H11 i1 (.lst [.str "a", .str (Str.ofString (toString v)), .str "="]) = H12 at s12 l12
    walk_at "rd"
    refine g_strI hlog ?_
    walk_at "rd"
    refine ⟨show (7 : Nat) ≤ sizeLine by decide, fun i2 ni2 => ?_⟩
    have s13 := Same.upd (o := .lst [.str "a", .str (Str.ofString (toString v)), .str "=", .str "a", .str "n", .str "=", .str "or"]) ni2
    have l13 := upd_same (H := H12) (a := i2) (o := .lst [.str "a", .str (Str.ofString (toString v)), .str "=", .str "a", .str "n", .str "=", .str "or"])
    generalize upd H12 i2 (.lst [.str "a", .str (Str.ofString (toString v)), .str "=", .str "a", .str "n", .str "=", .str "or"]) = H13 at s13 l13
    walk_at "rd"
    refine ⟨show (9 : Nat) ≤ sizeLine by decide, fun i3 ni3 => ?_⟩
    have s14 := Same.upd (o := .lst [.str "1", .str "a", .str "<", .str "n", .str "a", .str "rem", .str "0", .str "=", .str "and"]) ni3
    have l14 := upd_same (H := H13) (a := i3) (o := .lst [.str "1", .str "a", .str "<", .str "n", .str "a", .str "rem", .str "0", .str "=", .str "and"])
    generalize upd H13 i3 (.lst [.str "1", .str "a", .str "<", .str "n", .str "a", .str "rem", .str "0", .str "=", .str "and"]) = H14 at s14 l14
    walk_at "rd"
    refine ⟨show (3 : Nat) ≤ sizeLine by decide, fun a3 na3 => ?_⟩
    have s15 := Same.upd (o := .lst [.ref i1, .ref i2, .ref i3]) na3
    have l15 := upd_same (H := H14) (a := a3) (o := .lst [.ref i1, .ref i2, .ref i3])
    generalize upd H14 a3 (.lst [.ref i1, .ref i2, .ref i3]) = H15 at s15 l15
    have s11_15 := ((s12.trans s13).trans s14).trans s15
    have m1 := mne _ _ _ hm11 ni1
    have m2 := mne _ _ _ (hm11.same s12) ni2
    have m3 := mne _ _ _ (hm11.same (s12.trans s13)) ni3
    have m4 := mne _ _ _ (hm11.same ((s12.trans s13).trans s14)) na3
    walk_at "rd"
    refine ⟨m, cl, a3, 505, _, rfl, hm11.same s11_15, l15, m4, by decide, show (0 : Nat) < 3 by decide, show (3 : Nat) ≤ 100 by decide, fun x H16 hx o16 hm16 => ?_⟩
    obtain ⟨il, e, rfl, hil, ty, sm, hdep, h9, ilm⟩ : ∃ (il : Addr) (e : Ex), x = .ref il ∧ H16 il = some (.lst (e.code.map fun it => V.str it.s)) ∧ e.Ty true ∧ e.small ∧ e.dep ≤ 4 ∧ e.code.length ≤ 9 ∧ il ≠ m := by
      simp only [List.mem_cons, List.not_mem_nil, or_false] at hx
      rcases hx with e | e | e
      · exact ⟨i1, ex1 v, e, o16 _ _ (s15 _ _ (s14 _ _ (s13 _ _ l12))) m1, ty1 v, ⟨trivial, hv0, hv1⟩, by show (2 : Nat) ≤ 4; decide, by show (3 : Nat) ≤ 9; decide, m1⟩
      · exact ⟨i2, ex2 v, e, o16 _ _ (s15 _ _ (s14 _ _ l13)) m2, ty2 v, ⟨⟨trivial, hv0, hv1⟩, trivial, trivial⟩, by show (3 : Nat) ≤ 4; decide, by show (7 : Nat) ≤ 9; decide, m2⟩
      · refine ⟨i3, ex3, e, ?_, ty3, ⟨⟨⟨by decide, by decide⟩, trivial⟩, ⟨trivial, trivial⟩, by decide, by decide⟩, by decide, by decide, m3⟩
        rw [o16 _ _ (s15 _ _ l14) m3]
        rfl
    have iok := ex_ok ty sm (by omega) h9
    have o11_16 : Off m H11 H16 := fun z o h n => o16 _ _ (s11_15 _ _ h) n
    have tg16 : TongueAt K H16 t names := by
      obtain ⟨cs, x, r, h1, _⟩ := hm11
      exact tg11.off o11_16 h1
    have hnl16 := o11_16 _ _ hnl11 nlm
    clear hx l12 l13 l14 l15 l10 l7 l5
    walk_at "rd"
    refine ⟨m, cl, 506, 60, rfl, hm16, by decide, by decide, by decide, fun r4 H17 hr4 o17 hm17 => ?_⟩
    have tg17 : TongueAt K H17 t names := by
      obtain ⟨cs, x, r, h1, _⟩ := hm16
      exact tg16.off o17 h1
    have hnl17 := o17 _ _ hnl16 nlm
    have hil17 := o17 _ _ hil ilm
    walk_at "rd"
    by_cases h0 : r4 = 0
    case' pos =>
      refine ifD_t (by omega) ?_
      walk_at "rd"
      generalize hmx : (20000 : Int) = mx
      have hmx1 : 1 ≤ mx ∧ mx ≤ 20000 := by omega
    case' neg =>
      refine ifD_f (by omega) ?_
      walk_at "rd"
      generalize hmx : (700 : Int) = mx
      have hmx1 : 1 ≤ mx ∧ mx ≤ 20000 := by omega
    all_goals
      refine ⟨show (4 : Nat) ≤ sizeLine by decide, fun a4 na4 => ?_⟩
      have s18 := Same.upd (o := .lst [.int 400, .int 900, .int 1500, .int mx]) na4
      have l18 := upd_same (H := H17) (a := a4) (o := .lst [.int 400, .int 900, .int 1500, .int mx])
      generalize upd H17 a4 (.lst [.int 400, .int 900, .int 1500, .int mx]) = H18 at s18 l18
      have na4m := mne _ _ _ hm17 na4
      walk_at "rd"
      refine ⟨m, cl, a4, 507, _, rfl, hm17.same s18, l18, na4m, by decide, show (0 : Nat) < 4 by decide, show (4 : Nat) ≤ 100 by decide, fun x H19 hx o19 hm19 => ?_⟩
      obtain ⟨most, rfl, hmo1, hmo2⟩ : ∃ most : Nat, x = .int most ∧ 1 ≤ most ∧ most ≤ 20000 := by
        simp only [List.mem_cons, List.not_mem_nil, or_false] at hx
        rcases hx with e | e | e | e
        · exact ⟨400, e, by decide, by decide⟩
        · exact ⟨900, e, by decide, by decide⟩
        · exact ⟨1500, e, by decide, by decide⟩
        · exact ⟨mx.toNat, by rw [e]; congr 1; omega, by omega, by omega⟩
      have o17_19 : Off m H17 H19 := fun z o h n => o19 _ _ (s18 _ _ h) n
      have tg19 : TongueAt K H19 t names := by
        obtain ⟨cs, x, r, h1, _⟩ := hm17
        exact tg17.off o17_19 h1
      have hnl19 := o17_19 _ _ hnl17 nlm
      have hil19 := o17_19 _ _ hil17 ilm
      clear hx l18
      walk_at "rd"
      refine ⟨⟨_, rfl⟩, ?_⟩
      walk_at "rd"
      have hil' : H19 il = some (.lst ((e.code.map Itm.s).map V.str)) := by
        rw [hil19, List.map_map]
        rfl
      refine ⟨" ", il, e.code.map Itm.s, rfl, rfl, .inl (SqL.rd hil'), ?_, ?_⟩
      · have b1 : ((e.code.map Itm.s).map (·.length)).sum ≤ ((e.code.map Itm.s).map fun _ => 20).sum := sum_le fun x hx => by
          obtain ⟨it, hit, rfl⟩ := List.mem_map.mp hx
          exact (iok.free it hit).2
        rw [List.map_const', List.sum_replicate_nat, List.length_map] at b1
        have b2 : (" " : Str).length = 1 := by decide +kernel
        rw [b2, List.length_map]
        have b3 : ((e.code.map Itm.s).map fun x => x.length).sum ≤ e.code.length * 20 := b1
        omega
      walk_at "rd"
      walk_at "mk"
      rename_i z zdx nz nzdx hnz H20 s20 l20
      refine ⟨z, zdx, e.code, rtE e, rfl, l20, iok, fun H21 o21 pz => ⟨rfl, ?_⟩⟩
      have s19_21 : Same H19 H21 := Off.to s20 o21 nz
      have tg21 := tg19.same s19_21
      have hnl21 := s19_21 _ _ hnl19
      have hil21 := s19_21 _ _ hil19
      walk_at "rd"
      refine ⟨t, z, names, e.code, rtE e, g, most, rfl, tg21, ok, pz, iok, by omega, by omega, hmo1, hmo2, fun c H22 s22 hN => ?_, fun c pa ans p step tick H22 s22 hF FO => ?_⟩
      · have hN' := hN
        obtain ⟨dx, q0, hc, hq⟩ := hN'
        walk_at "rd"
        refine g_isiC hc T.i_NotYet T.i_NF ?_
        walk_at "rd"
        walk_at "mk"
        rename_i fx fdx nfx nfdx hned H23 s23 l23
        refine ⟨fx, fdx, most, rfl, l23, fun H24 o24 hN2 => ⟨rfl, ?_⟩⟩
        have s24 : Same H22 H24 := Off.to s23 o24 nfx
        have hN2' := hN2
        obtain ⟨dx2, q2, hc2, hq2⟩ := hN2'
        refine ⟨⟨c, fx, _, _, _, _, rfl, rfl, s24 _ _ hc, hc2, most, ⟨dx, q0, s24 _ _ hc, s24 _ _ hq⟩, hN2⟩, fun H' _ => q H'⟩
      · obtain ⟨dx, q0, hc, hpa⟩ := hF
        have ff := found_facts ok FO
        obtain ⟨hw7, h200, hD23, hD2, htk1⟩ := ff
        have hft := found_tick ok FO
        obtain ⟨L, i, hpair⟩ := found_pair ok hmo2 FO
        walk_at "rd"
        refine g_isiIns hc T.i_Found ?_
        walk_at "rd"
        refine g_fl (v := .ref pa) hc T.cl_Found T.n_Found_program (by kernel_rfl) ?_
        walk_at "rd"
        refine ⟨nl, pa, names, p, rfl, s22 _ _ hnl21, ok, hpa, h200, hw7, fun H23 s23 => ?_⟩
        walk_at "rd"
        refine g_fl (v := .ref pa) (s23 _ _ hc) T.cl_Found T.n_Found_program (by kernel_rfl) ?_
        walk_at "rd"
        refine g_fl (v := .int step) (s23 _ _ hc) T.cl_Found T.n_Found_step (by kernel_rfl) ?_
        walk_at "rd"
        have s21_23 := s22.trans s23
        have hst60 : step < 2 ^ 60 := by
          have q1 : step * 1 ≤ step * 2 ^ lenP names p := Nat.mul_le_mul_left _ Nat.one_le_two_pow
          have q2 : (2 : Nat) ^ 23 < 2 ^ 60 := by decide
          omega
        refine ⟨pa, il, p, e.code, e, rtE e g, g, step, rfl, s23 _ _ hpa, h200, s21_23 _ _ hil21, rfl, h9, ty, sm, hdep, fun y => rtE_val ty g y, by omega, by omega, FO.fh, hst60, fun tt x H24 s24 hx htt => ?_⟩
        have hxa : x = ans := Option.some.inj (hx.symm.trans FO.an)
        subst hxa
        walk_at "rd"
        refine g_fl (v := .int step) (s24 _ _ (s23 _ _ hc)) T.cl_Found T.n_Found_step (by kernel_rfl) ?_
        walk_at "rd"
        refine g_fl (v := .int x) (s24 _ _ (s23 _ _ hc)) T.cl_Found T.n_Found_answer (by kernel_rfl) ?_
        walk_at "rd"
        refine ⟨show (2 : Nat) ≤ sizeLine by decide, fun t2 nt2 => ?_⟩
        have s25 := Same.upd (o := .tup [.int step, .int x]) nt2
        have l25 := upd_same (H := H24) (a := t2) (o := .tup [.int step, .int x])
        generalize upd H24 t2 (.tup [.int step, .int x]) = H25 at s25 l25
        have sh : SeqAt.shaped (.tuple [.int step, .int x]) = true := by rfl
        refine ⟨.tuple [.int step, .int x], .tuple [.int step, .int x], .tup (SqT.rd (s25 _ _ htt)) (.cons (.int _) (.cons (.int _) .nil)), .tup (SqT.rd l25) (.cons (.int _) (.cons (.int _) .nil)), sh, sh, ?_⟩
        rw [show PyData.eqv (.tuple [.int step, .int x]) (.tuple [.int step, .int x]) = true by simp [PyData.eqv, PyData.eqvAll]]
        have hc25 := s25 _ _ (s24 _ _ (s23 _ _ hc))
        walk_at "rd"
        refine g_fl (v := .int tick) (hc25) T.cl_Found T.n_Found_tick (by kernel_rfl) ?_
        walk_at "rd"
        have hle := FO.le
        refine ifD_f (by omega) ?_
        walk_at "rd"
        refine g_fl (v := .int tick) (hc25) T.cl_Found T.n_Found_tick (by kernel_rfl) ?_
        have htl : (textF names p).length ≤ sizeLine := by
          rw [text_len, sizeLine_eq]
          have := lenP_hi ok hw7
          omega
        walk_at "rd"
        refine g_lenS htl ?_
        rw [text_len]
        walk_at "rd"
        refine g_fl (v := .int step) (hc25) T.cl_Found T.n_Found_step (by kernel_rfl) ?_
        walk_at "rd"
        refine g_lenS htl ?_
        rw [text_len]
        walk_at "rd"
        have hl200 : lenP names p ≤ 2000 := by
          have := lenP_hi ok hw7
          omega
        refine g_shlN (shl_ok (n := 60) (by rw [Int.natAbs_natCast]; exact hst60) (by omega)) ?_
        rw [shl_cast]
        have hD30 : step * 2 ^ lenP names p < 2 ^ 30 := Nat.lt_trans hD23 (by decide)
        walk_at "rd"
        refine ⟨nl, names, p, step * 2 ^ lenP names p, rfl, s25 _ _ (s24 _ _ (s21_23 _ _ hnl21)), ok, h200, hw7, hD2, hD30, fun H26 s26 => ?_⟩
        rw [hft.2]
        walk_at "rd"
        refine ifN_f rfl ?_
        have hc26 := s26 _ _ hc25
        have s21_26 : Same H21 H26 := ((s21_23.trans s24).trans s25).trans s26
        have s22_26 : Same H22 H26 := ((s23.trans s24).trans s25).trans s26
        walk_at "rd"
        refine g_fl (v := .ref pa) (hc26) T.cl_Found T.n_Found_program (by kernel_rfl) ?_
        walk_at "rd"
        refine g_fl (v := .int step) (hc26) T.cl_Found T.n_Found_step (by kernel_rfl) ?_
        walk_at "rd"
        refine ⟨t, pa, names, p, step, rfl, tg21.same s21_26, ok, s22_26 _ _ hpa, h200, hw7, FO.st, hD30, fun H27 s27 => ?_⟩
        rw [hft.1]
        have hc27 := s27 _ _ hc26
        walk_at "rd"
        refine g_fl (v := .int tick) (hc27) T.cl_Found T.n_Found_tick (by kernel_rfl) ?_
        walk_at "rd"
        refine ifD_t rfl ?_
        walk_at "rd"
        refine g_fl (v := .int tick) (hc27) T.cl_Found T.n_Found_tick (by kernel_rfl) ?_
        walk_at "rd"
        obtain ⟨y1, y2, y3, y4, y5, y6, y7, y8, y9⟩ := hpair
        refine ⟨t, names, p, tick, step * 2 ^ lenP names p, L, i, rfl, tg21.same (s21_26.trans s27), ok, y1, y2, y3, y4, y5, y6, y7, y8, fun a5 b5 H28 s28 h1 h2 => ?_⟩
        rw [y9] at h1
        have hc28 := s28 _ _ hc27
        walk_at "rd"
        refine g_fl (v := .ref pa) (hc28) T.cl_Found T.n_Found_program (by kernel_rfl) ?_
        walk_at "rd"
        refine g_fl (v := .int step) (hc28) T.cl_Found T.n_Found_step (by kernel_rfl) ?_
        walk_at "rd"
        refine ⟨show (2 : Nat) ≤ sizeLine by decide, fun t6 nt6 => ?_⟩
        have s29 := Same.upd (o := .tup [.ref pa, .int step]) nt6
        have l29 := upd_same (H := H28) (a := t6) (o := .tup [.ref pa, .int step])
        generalize upd H28 t6 (.tup [.ref pa, .int step]) = H29 at s29 l29
        have sh2 := shaped_pi p step fun x hx => W7_ok x (hw7 x hx)
        refine ⟨.tuple [.tuple (p.map PyData.str), .int step], .tuple [.tuple (p.map PyData.str), .int step], .tup (SqT.rd (s29 _ _ h1)) (.cons (.tup (SqT.rd (s29 _ _ h2)) (dp_strs p)) (.cons (.int _) .nil)),
          .tup (SqT.rd l29) (.cons (.tup (SqT.rd (s29 _ _ (s28 _ _ (s27 _ _ (s22_26 _ _ hpa))))) (dp_strs p)) (.cons (.int _) .nil)), sh2, sh2, ?_⟩
        rw [show PyData.eqv (.tuple [.tuple (p.map PyData.str), .int step]) (.tuple [.tuple (p.map PyData.str), .int step]) = true by simp [PyData.eqv, PyData.eqvAll, eqv_strs]]
        walk_at "rd"
        exact q _
end
end Dt
set_option Elab.async false
set_option linter.all false
set_option maxRecDepth 100000
set_option maxHeartbeats 0
namespace Dt
open PySem PySem.Spec PyProof.Rows L2
open PySem.W (ksFn fnOf)
/-! HdC: TY from the facts. Printed by mkhd.py. -/
theorem arg_head {o : Option Arg} (h : o.map (fun a => a.arg) = some ("self" : Str)) : ∃ ar : Arg, o = some ar ∧ ar.arg = "self" := by
  cases o with
  | none => cases h
  | some a => exact ⟨a, rfl, Option.some.inj h⟩
theorem nameB_ok {K : PySem.W.Frag} {C : Str} (h1 : PySem.W.readsIn K (He.ga K C) (.type "type") = true) (h : nameB K C = true) : NameOk K (He.ga K C) C := by
  obtain ⟨h2, h3⟩ := He.ba h
  refine ⟨h1, ?_, ?_⟩
  · cases hc : PySem.W.findCls K (.ref (He.ga K C)) (.type "type") "__name__" with
    | none =>
      rw [hc] at h3
      cases h3
    | some r =>
      rw [hc] at h3
      cases r with
      | val v => cases h3
      | get g a o t =>
        cases g with
        | builtin g =>
          cases a with
          | builtin a =>
            cases o with
            | ref o =>
              cases t with
              | type t =>
                obtain ⟨k1, k2⟩ := He.ba (show (decide (g = "getset_descriptor.__get__") && (decide (a = "type.__name__") && (decide (o = He.ga K C) && decide (t = "type")))) = true from h3)
                obtain ⟨k3, k4⟩ := He.ba k2
                obtain ⟨k5, k6⟩ := He.ba k4
                rw [of_decide_eq_true k1, of_decide_eq_true k3, of_decide_eq_true k5, of_decide_eq_true k6]
              | _ => cases h3
            | _ => cases h3
          | _ => cases h3
        | _ => cases h3
  · cases hk : K.lookup (He.ga K C) with
    | none =>
      rw [hk] at h2
      cases h2
    | some o =>
      obtain ⟨oc, od, dt, osl⟩ := o
      rw [hk] at h2
      cases oc with
      | type t =>
        cases dt with
        | cls cd =>
          obtain ⟨k1, k2⟩ := He.ba (show (decide (t = "type") && (match (osl[2]? : Option (Option Value)) with
            | some (some (.str n _)) => decide (n = C)
            | _ => false)) = true from h2)
          cases hs : osl[2]? with
          | none =>
            rw [hs] at k2
            cases k2
          | some v =>
            rw [hs] at k2
            cases v with
            | none => cases k2
            | some v =>
              cases v with
              | str n t' =>
                have e : n = C := of_decide_eq_true k2
                exact ⟨od, cd, osl, t', by rw [of_decide_eq_true k1], by rw [hs, e]⟩
              | _ => cases k2
        | _ => cases h2
      | _ => cases dt <;> cases h2
section
variable {w : World} {K : PySem.W.Frag} {h : Heap} {mg : Str → Option Value}
theorem ty_of (c : Says w K) : TY PySem.Challenge.pw_duetickers_k52_whole_ticks_far_ahead K where
  paper := He.fn_ok (d := pd) c.pap (c.fact 187)
  found := by
    obtain ⟨cda, cc, oc, od, osl, dV, kV, doc, pm, an, ct, lk, hcd, hdf⟩ := sup_fn (c.supFound) (c.fact 188)
    subst hdf
    refine ⟨cda, cc, .none, kV, doc, pm, an, ct, ⟨⟨oc, od, osl, lk⟩, arg_head (by kernel_rfl), sup_code lk (c.fact 189), sup_cell lk (c.fact 190), Option.isSome_iff_exists.mp (c.fact 191), of_decide_eq_true (c.fact 192), by decide +kernel, He.eqO_ok (c.fact 193), He.eqO_ok (c.fact 194), of_decide_eq_true (c.fact 195), c.fact 196⟩, hcd, .all fun us hl => ?_⟩
    exact match us, hl with | [_, _, _, _, _], _ => rfl
  notyet := by
    obtain ⟨cda, cc, oc, od, osl, dV, kV, doc, pm, an, ct, lk, hcd, hdf⟩ := sup_fn (c.supNotYet) (c.fact 197)
    subst hdf
    refine ⟨cda, cc, .none, kV, doc, pm, an, ct, ⟨⟨oc, od, osl, lk⟩, arg_head (by kernel_rfl), sup_code lk (c.fact 198), sup_cell lk (c.fact 199), Option.isSome_iff_exists.mp (c.fact 200), of_decide_eq_true (c.fact 201), by decide +kernel, He.eqO_ok (c.fact 193), He.eqO_ok (c.fact 202), of_decide_eq_true (c.fact 195), c.fact 196⟩, hcd, .all fun us hl => ?_⟩
    exact match us, hl with | [_, _], _ => rfl
  eq := by
    obtain ⟨fd, F⟩ := c.def_ 63
    exact ⟨_, fd, He.eqO_ok (c.fact 203), c.fact 204, fun_of F, FunD.bindsN (ps := ["self", "other"]) F fun _ _ _ _ _ _ us hl => match us, hl with | [_, _], _ => rfl⟩
  cls := ⟨c.fact 205, c.fact 206, He.eqO_ok (c.fact 171), He.eqO_ok (c.fact 160), of_decide_eq_true (c.fact 161), of_decide_eq_true (c.fact 172)⟩
  nm := nameB_ok (c.fact 207) (c.fact 208)
end
end Dt
set_option Elab.async false
set_option linter.all false
set_option maxRecDepth 100000
set_option maxHeartbeats 0
/-! HtB: the law's walk to its end. -/
namespace Dt
open PySem PySem.W PySem.Calls PyProof.Rows L2
theorem law_facts {w : World} {K : Frag} {h : Heap} {mg : PySem.Str → Option Value} {f : Addr} (X : K.In h) (G : h.Ns mainGlobals mg) (g : mg ("law" : PySem.Str) = some (.ref f)) (c : Says w K) :
    ∃ fd : FuncData, (∀ (s : Shared) (v : Value), BindsTo s fd ⟨[v], []⟩ [("_law_script", v)]) ∧ ∀ base : Heap, K.In base → base.Ns mainGlobals mg → FnOk PySem.Challenge.pw_duetickers_k52_whole_ticks_far_ahead w K mg base C8.CX0 12 f fd ["_law_script"] (sp_law K) := by
  obtain ⟨fd, F, g2⟩ := law_def X G c
  have e := g.symm.trans g2
  cases e
  have b := FunD.bindsA (ps := ["_law_script"]) F fun _ _ _ _ _ _ us hl => match us, hl with | [_], _ => rfl
  exact ⟨fd, fun s v => b s [v] rfl, fun base _ _ => f_law (tx_of X G c) (ty_of c) (def_of F g2)⟩
end Dt
open PySem PySem.W PySem.Calls PyProof.Rows
theorem PySem.Challenge.cw_duetickers_k52_whole_ticks_far_ahead_holds : PySem.Challenge.rw_duetickers_k52_whole_ticks_far_ahead.Holds := by
  refine Dt.head_law ?_
  refine L2.walk_ofE (l := PySem.Challenge.rw_duetickers_k52_whole_ticks_far_ahead) (n := 63) (k := 12) (x := "_law_script") (CX := C8.CX0) rfl (by decide) (by kernel_rfl) ⟨rfl, by decide, by decide⟩ ?F (fun _ _ _ _ z => z)
  intro w mg fa h Y G hmg0
  obtain ⟨K, KX, c⟩ := Y
  have hmg : mg ("law" : PySem.Str) = some (.ref fa) := by
    have e : (HandSHeadRun.topDef (OpenLaw.row PySem.Challenge.rw_duetickers_k52_whole_ticks_far_ahead).prog Dt.lawPlace).name = ("law" : PySem.Str) := by kernel_rfl
    rw [← e]
    exact hmg0
  obtain ⟨fd, hb, hF⟩ := Dt.law_facts KX G hmg c
  exact ⟨K, fd, Dt.sp_law K, KX, hb, fun H a ns hl _ hS => ⟨a, ns, rfl, hS, hl, fun _ => rfl⟩, hF⟩
