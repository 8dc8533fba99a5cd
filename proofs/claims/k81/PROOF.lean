import PyProof.Rows.All
import Wide.All
import OpenK.AllK
import Wide.FinOn
import KE.KStateDown
import HandS.ForMost
import HandS.ForExc
import HandS.Flow
import HandS.Defaults
import HandS.Wide
import HandS.WideBits
import HandS.StrMore
import HandS.IsInst
import HandS.ExcIs
import HandS.HeadEnd
import HandS.Head2
import HandS.HeadHook4
import PySem.Challenge.RW_spareplank_k81_blocks_as_texts
set_option Elab.async false
set_option linter.all false
set_option maxRecDepth 100000
set_option maxHeartbeats 4000000
namespace Plk
open PySem PySem.Spec PyProof.Rows L2
/-! ### calls by one form -/
/-- a def at f that keeps the promise sp; it may let an exception out -/
structure Callee (P : Program) (w : World) (K : PySem.W.Frag) (mg : Str → Option Value) (base : Heap) (k : Nat) (f : Addr) (ps : List Str) (sp : Sp) : Prop where
  ok : ∃ fd, FnOk P w K mg base (L2.CX P w) k f fd ps sp ∧ Binds K fd ps []
  kp : PySem.W.keepIn K (.ref f) = true
section
variable {X : Cx} {k j : Nat} {f C : Addr} {ps : List Str} {sp : Sp} {W : WX} {x m : Str} {p pos apos : Pos} {e o : Expr} {es : List Expr} {ta : TE} {t : TA}
theorem passW (tk : Takes X W) (σ : L2.St) : PassesAt (L2.CX X.prog X.w) X σ (WE W σ) := passAt tk σ
theorem pe_f (c : Callee X.prog X.w X.K X.mg X.base k f ps sp) (hm : X.mg x = some (.ref f)) (hr : Room j X.A) (hj : k ≤ j) (tk : Takes X W) (ha : PA X (e :: es) t) (hg : Gl X x := by rfl)
    (hdb : (x == ("__debug__" : Str)) = false := by decide) (he : starEach (e :: es) X.env = (false, eval e X.env) :: starEach es X.env := by rfl) (hpl : (backTo pos (starEach es X.env)).any (·.1) = false := by rfl) :
    PE X (.Call (.Name x p) (e :: es) [] pos) (tCallS sp (WE W) t) := by
  obtain ⟨⟨fd, G, b⟩, kp⟩ := c
  exact pe_callS G (hr.mono hj) hg hm kp b (passW tk) ha hdb he hpl
theorem pe_f0 (c : Callee X.prog X.w X.K X.mg X.base k f ps sp) (hm : X.mg x = some (.ref f)) (hr : Room j X.A) (hj : k ≤ j) (tk : Takes X W) (hg : Gl X x := by rfl)
    (hdb : (x == ("__debug__" : Str)) = false := by decide) :
    PE X (.Call (.Name x p) [] [] pos) (tCallS sp (WE W) tNil) := by
  obtain ⟨⟨fd, G, b⟩, kp⟩ := c
  refine ⟨fun pins s σ H Q I h => ?_⟩
  refine wpAny_Call_Name_kw (ld_glob I hg hm ?_ hdb)
  exact PySem.W.callWith_K0 I.kIn kp (run_fnS (us := []) G (hr.mono hj) b (passW tk σ) I .nil h)
/-- o.m(..), o an instance of one of the classes that PC tells -/
def tMethS (PC : Addr → Prop) (m : Str) (sp : Sp) (W : WX) (ta : TE) (t : TA) : TE := fun σ H Q => ta σ H fun x H1 => ∃ a C dx fs, x = .ref a ∧ H1 a = some (.ins C dx fs) ∧ PC C ∧ fs.lookup m = none ∧
  t σ H1 fun vs H2 => sp (x :: vs) H2 Q fun cls d H => W cls d σ H
theorem pe_m {PC : Addr → Prop} {pl : Sem Bool} (hall : ∀ C, PC C → Cls X.K C ∧ ∃ f, Meth X.K C m f ∧ Callee X.prog X.w X.K X.mg X.base k f ps sp) (he : PE X o ta) (hr : Room j X.A) (hj : k ≤ j) (tk : Takes X W) (ha : PA X (e :: es) t)
    (hst : starEach (e :: es) X.env = (false, eval e X.env) :: starEach es X.env := by rfl) (hpl : (backTo pos (starEach es X.env)).any (·.1) = false := by rfl)
    (ht : eval (.Call (.Attribute o m apos) (e :: es) [] pos) X.env = (do
      let ov ← eval o X.env
      standAt apos.atName
      let (f, first) ← holding [ov] (getMethod ov m pl)
      callWith pos f first (backTo pos (starEach (e :: es) X.env)) (backToKw pos (keywordEach [] X.env))) := by rfl) :
    PE X (.Call (.Attribute o m apos) (e :: es) [] pos) (tMethS PC m sp W ta t) := by
  refine ⟨fun pins s σ H Q I h => ?_⟩
  refine PySem.W.methodCall_KW (pl := pl) (thn (he.run pins s σ H _ I h) fun u s1 ⟨x, H1, I1, rx, a, C, dx, fs, ex, ea, pc, l, q⟩ => ?_) ht
  subst ex
  obtain rfl : u = Value.ref a := rx
  obtain ⟨c, f, hm, ⟨fd, G, b⟩, kp⟩ := hall C pc
  refine getmeth_ok I1 ea c hm l ?_
  refine PySem.W.callWith_K (first := [.ref a]) (h₀ := X.base) I.ok.mod.kin hm.kp (thn (ha.run pos pins s1 σ H1 _ I1 q) fun us s2 ⟨vs, H2, I2, r, q2⟩ => ⟨I2.kIn, ?_⟩) hst hpl
  exact run_fnS (us := .ref a :: us) (vs := .ref a :: vs) G (hr.mono hj) b (passW tk σ) I2 (.cons rfl r) q2
theorem pe_m0 {PC : Addr → Prop} {pl : Sem Bool} (hall : ∀ C, PC C → Cls X.K C ∧ ∃ f, Meth X.K C m f ∧ Callee X.prog X.w X.K X.mg X.base k f ps sp) (he : PE X o ta) (hr : Room j X.A) (hj : k ≤ j) (tk : Takes X W)
    (ht : eval (.Call (.Attribute o m apos) [] [] pos) X.env = (do
      let ov ← eval o X.env
      standAt apos.atName
      let (f, first) ← holding [ov] (getMethod ov m pl)
      callWith pos f first (backTo pos (starEach [] X.env)) (backToKw pos (keywordEach [] X.env))) := by rfl) :
    PE X (.Call (.Attribute o m apos) [] [] pos) (tMethS PC m sp W ta tNil) := by
  refine ⟨fun pins s σ H Q I h => ?_⟩
  refine PySem.W.methodCall_KW (pl := pl) (thn (he.run pins s σ H _ I h) fun u s1 ⟨x, H1, I1, rx, a, C, dx, fs, ex, ea, pc, l, q⟩ => ?_) ht
  subst ex
  obtain rfl : u = Value.ref a := rx
  obtain ⟨c, f, hm, ⟨fd, G, b⟩, kp⟩ := hall C pc
  refine getmeth_ok I1 ea c hm l ?_
  exact PySem.W.callWith_K0 (first := [.ref a]) I1.kIn hm.kp (run_fnS (us := [.ref a]) (vs := [.ref a]) G (hr.mono hj) b (passW tk σ) I1 (.cons rfl .nil) q)
/-- one class -/
theorem one_cls (c : Cls X.K C) (hm : Meth X.K C m f) (g : Callee X.prog X.w X.K X.mg X.base k f ps sp) : ∀ D, D = C → Cls X.K D ∧ ∃ f, Meth X.K D m f ∧ Callee X.prog X.w X.K X.mg X.base k f ps sp := fun D e => by
  rw [e]
  exact ⟨c, f, hm, g⟩
/-- C(..) -/
def tMakeS (C : Addr) (sp : Sp) (W : WX) (t : TA) : TE := fun σ H Q => t σ H fun vs H1 => ∀ x dx, H1 x = none → H1 dx = none → dx ≠ x →
  sp (.ref x :: vs) (upd (upd H1 dx (.own x)) x (.ins C dx [])) (fun v H2 => v = .non ∧ Q (.ref x) H2) fun cls d H => W cls d σ H
theorem run_makeS {pins : List (Addr × Obj)} {σ : L2.St} {H : Hp} {s : Shared} {Q : VK} {us : List Value} {vs : List V} (M : Mk X.K C f) (c : Callee X.prog X.w X.K X.mg X.base k f ps sp) (hr : Room (k + 1) X.A)
    (tk : Takes X W) (I : Inv X pins σ H s) (r : Vals vs us)
    (h : ∀ x dx, H x = none → H dx = none → dx ≠ x → sp (.ref x :: vs) (upd (upd H dx (.own x)) x (.ins C dx [])) (fun v H2 => v = .non ∧ Q (.ref x) H2) fun cls d H => W cls d σ H) :
    wpAny (model X.prog X.w) X.A (call (.ref C) us) (EP X pins σ Q) X.xe s := by
  obtain ⟨⟨fd, F, hb⟩, kp⟩ := c
  have hq := h (s.heap.objs.size + 1) s.heap.objs.size (I.hok.fresh (Nat.le_succ _)) (I.hok.fresh (Nat.le_refl _)) (Nat.ne_of_lt (Nat.lt_succ_self _))
  have I2 := Inv.made (C := C) I
  have r2 : Vals (V.ref (s.heap.objs.size + 1) :: vs) (Value.ref (s.heap.objs.size + 1) :: us) := .cons rfl r
  have hl : (Value.ref (s.heap.objs.size + 1) :: us).length = ps.length := by
    have e := r2.length
    rw [F.len _ _ _ _ hq] at e
    exact e.symm
  have bb := hb { s with heap := (s.heap.push PySem.W.emptyDict).push (PySem.W.instObj C s.heap.objs.size) } (Value.ref (s.heap.objs.size + 1) :: us) I2.kIn (by rw [List.append_nil]; exact hl)
  rw [List.append_nil] at bb
  refine wpAny_call (make_map (f := f) I.kIn M.makes M.init (beq_iff_eq.mp M.fn) (codeAny_mono (F.run _ X.stack _ _ ⟨Value.ref (s.heap.objs.size + 1) :: us, []⟩ (Value.ref (s.heap.objs.size + 1) :: us) _ _ _ (hr.make C us [])
    (I2.env0.make C us []) bb r2 hq) fun r s' hq' => ?_))
  cases r with
  | error e => exact passW tk σ pins _ _ e s' I2 hq'
  | ok fl =>
    cases fl with
    | ret u =>
      obtain ⟨v, H', I3, rv, ev, q3⟩ := I2.after hq'
      subst ev
      exact ⟨rv, ⟨V.ref (s.heap.objs.size + 1), H', I3, rfl, q3⟩⟩
    | next => exact False.elim hq'
    | brk => exact False.elim hq'
    | cont => exact False.elim hq'
theorem pe_new (M : Mk X.K C f) (c : Callee X.prog X.w X.K X.mg X.base k f ps sp) (hm : X.mg x = some (.ref C)) (hr : Room j X.A) (hj : k + 1 ≤ j) (tk : Takes X W) (ha : PA X (e :: es) t) (hg : Gl X x := by rfl)
    (hdb : (x == ("__debug__" : Str)) = false := by decide) (he : starEach (e :: es) X.env = (false, eval e X.env) :: starEach es X.env := by rfl) (hpl : (backTo pos (starEach es X.env)).any (·.1) = false := by rfl) :
    PE X (.Call (.Name x p) (e :: es) [] pos) (tMakeS C sp W t) := by
  refine ⟨fun pins s σ H Q I h => ?_⟩
  refine wpAny_Call_Name_kw (ld_glob I hg hm ?_ hdb)
  refine PySem.W.callWith_K (h₀ := X.base) I.ok.mod.kin M.kp (thn (ha.run pos pins s σ H _ I h) fun us s1 ⟨vs, H1, I1, r, q⟩ => ⟨I1.kIn, ?_⟩) he hpl
  exact run_makeS M c (hr.mono hj) tk I1 r q
theorem pe_new0 (M : Mk X.K C f) (c : Callee X.prog X.w X.K X.mg X.base k f ps sp) (hm : X.mg x = some (.ref C)) (hr : Room j X.A) (hj : k + 1 ≤ j) (tk : Takes X W) (hg : Gl X x := by rfl)
    (hdb : (x == ("__debug__" : Str)) = false := by decide) :
    PE X (.Call (.Name x p) [] [] pos) (tMakeS C sp W tNil) := by
  refine ⟨fun pins s σ H Q I h => ?_⟩
  refine wpAny_Call_Name_kw (ld_glob I hg hm ?_ hdb)
  exact PySem.W.callWith_K0 I.kIn M.kp (run_makeS (us := []) M c (hr.mono hj) tk I .nil h)
end
end Plk

namespace Plk
open PySem PySem.Spec PyProof.Rows L2
/-! ### heaps that grow -/
def Ex (H H' : Hp) : Prop := ∀ a o, H a = some o → H' a = some o
theorem Ex.refl (H : Hp) : Ex H H := fun _ _ h => h
theorem Ex.trans {H H1 H2 : Hp} (a : Ex H H1) (b : Ex H1 H2) : Ex H H2 := fun x o h => b x o (a x o h)
theorem Ex.new {H : Hp} {p : Addr} {o : HO} (h : H p = none) : Ex H (upd H p o) := fun a u e => by
  rw [upd_ne (ne_of_none e h)]
  exact e
/-- an object that H does not know may change -/
theorem Ex.mut {H H' : Hp} {p : Addr} {o : HO} (e : Ex H H') (h : H p = none) : Ex H (upd H' p o) := fun a u ha => by
  rw [upd_ne (ne_of_none ha h)]
  exact e a u ha
theorem Ex.go {H H' : Hp} {a : Addr} {o : HO} (e : Ex H H') (h : H a = some o) : H' a = some o := e a o h
theorem Ex.free {H H' : Hp} {p : Addr} (e : Ex H H') (h : H' p = none) : H p = none := by
  cases h1 : H p with
  | none => rfl
  | some o =>
    rw [e p o h1] at h
    cases h
theorem Ex.rd {H H' : Hp} {a : Addr} {u : HO} (e : Ex H H') (h : Rd H a u) : Rd H' a u := by
  rcases h with h | ⟨o, h⟩
  · exact Or.inl (e a _ h)
  · exact Or.inr ⟨o, e a _ h⟩
theorem Ex.sl {K : PySem.W.Frag} {H H' : Hp} {a : Addr} {xs : List V} (e : Ex H H') (h : SqL K H a xs) : SqL K H' a xs := by
  rcases h with h | h
  · exact Or.inl (e.rd h)
  · exact Or.inr h
theorem Ex.st {K : PySem.W.Frag} {H H' : Hp} {a : Addr} {xs : List V} (e : Ex H H') (h : SqT K H a xs) : SqT K H' a xs := by
  rcases h with h | h
  · exact Or.inl (e.rd h)
  · exact Or.inr h
theorem sz_of {n : Nat} (h : n ≤ 1000000) : n ≤ sizeLine := Nat.le_trans h (by decide)
theorem sz_lt {n : Nat} (h : n < 1000000) : n < sizeLine := Nat.lt_of_lt_of_le h (by decide)

/-! ### a global's value -/
section
variable {X : Cx} {K : PySem.W.Frag}
theorem pe_globE {x : Str} {v : V} {pos : Pos} (h : ∃ u, X.mg x = some u ∧ RelV v u) (hg : Gl X x := by rfl) (hd : (x == ("__debug__" : Str)) = false := by decide) : PE X (.Name x pos) (tC v) := by
  obtain ⟨u, hm, r⟩ := h
  exact pe_glob hg hm r hd
/-! ### readings by name -/
def rLenS : List V → Hp → VK → Prop := fun xs H Q => ∃ z, xs = [.str z] ∧ z.length ≤ sizeLine ∧ Q (.int z.length) H
theorem call_lenS : CallR X (.builtin "len") rLenS := call_len_str
def rLenL (K : PySem.W.Frag) : List V → Hp → VK → Prop := fun xs H Q => ∃ p ys, xs = [.ref p] ∧ (SqL K H p ys ∨ SqT K H p ys) ∧ Q (.int ys.length) H
theorem call_lenL : CallR X (.builtin "len") (rLenL X.K) := call_len_seq
def rDivmod : List V → Hp → VK → Prop := fun xs H Q => ∃ i j, xs = [.int i, .int j] ∧ CDiv i j ∧ ∀ p, H p = none → Q (.ref p) (upd H p (.tup [.int (i / j), .int (i % j)]))
theorem call_divmodR : CallR X (.builtin "divmod") rDivmod := call_divmod
def rStrI : List V → Hp → VK → Prop := fun xs H Q => ∃ i, xs = [.int i] ∧ i.natAbs.log2 < 1920 ∧ Q (.str (toString i)) H
theorem call_strI : CallR X (.type "str") rStrI := call_str_int
def rMax2 : List V → Hp → VK → Prop := fun xs H Q => ∃ i j, xs = [.int i, .int j] ∧ Q (.int (if j > i then j else i)) H
theorem call_max2R (hc : X.calm = true) : CallR X (.builtin "max") rMax2 := call_max2 hc
def rMin2 : List V → Hp → VK → Prop := fun xs H Q => ∃ i j, xs = [.int i, .int j] ∧ Q (.int (if j < i then j else i)) H
theorem call_min2R (hc : X.calm = true) : CallR X (.builtin "min") rMin2 := call_min2 hc
def rInt1 : List V → Hp → VK → Prop := fun xs H Q => (∃ i, xs = [.int i] ∧ Q (.int i) H) ∨ ∃ k, xs = [.bl k] ∧ Q (.int (if k then 1 else 0)) H
theorem call_int1R : CallR X (.type "int") rInt1 := call_int1
def rAddS : R2 := fun x y H Q => ∃ i j, x = .str i ∧ y = .str j ∧ i.length + j.length ≤ sizeLine ∧ Q (.str (i ++ j)) H
theorem op_addS : OpR X (binaryOp .Add) rAddS := op_add_str
def rInS : R2 := fun x y H Q => ∃ (c : Nat) (z : Str), x = .str ⟨#[c]⟩ ∧ y = .str z ∧ Q (.bl (decide (c ∈ z.cps.toList))) H
def rNotInS : R2 := fun x y H Q => ∃ (c : Nat) (z : Str), x = .str ⟨#[c]⟩ ∧ y = .str z ∧ Q (.bl (!decide (c ∈ z.cps.toList))) H
theorem op_inS : OpR X (compareOp .In) rInS := op_in_sign
theorem op_notInS : OpR X (compareOp .NotIn) rNotInS := op_notIn_sign
def rIsN : R2 := fun x y H Q => y = .non ∧ Q (.bl (decide (x = .non))) H
def rNotN : R2 := fun x y H Q => y = .non ∧ Q (.bl (!decide (x = .non))) H
theorem op_isN1 : OpR X (compareOp .Is) rIsN := op_isN
theorem op_notN1 : OpR X (compareOp .IsNot) rNotN := op_notN
def rJoin (K : PySem.W.Frag) : V → List V → Hp → VK → Prop := fun x xs H Q => ∃ a p, ∃ ys : List Str, x = .str a ∧ xs = [.ref p] ∧ (SqL K H p (ys.map V.str) ∨ SqT K H p (ys.map V.str)) ∧
  (ys.map (·.length)).sum + ys.length * a.length ≤ 16777216 ∧ Q (.str (Txt.join a ys)) H
theorem mt_joinR : MtR X "str.join" (rJoin X.K) := mt_join
def rUpper : V → List V → Hp → VK → Prop := fun x xs H Q => ∃ a, x = .str a ∧ xs = [] ∧ a.length ≤ 5592405 ∧ Q (.str (Txt.upper a)) H
theorem mt_upperR : MtR X "str.upper" rUpper := mt_upper
def rFind : V → List V → Hp → VK → Prop := fun x xs H Q => ∃ a b, x = .str a ∧ xs = [.str b] ∧ Q (.int (Txt.find a b)) H
theorem mt_findR : MtR X "str.find" rFind := mt_find
def rStarts : V → List V → Hp → VK → Prop := fun x xs H Q => ∃ a b, x = .str a ∧ xs = [.str b] ∧ Q (.bl (Txt.startswith a b)) H
theorem mt_startsR : MtR X "str.startswith" rStarts := mt_startswith
def rZfill : V → List V → Hp → VK → Prop := fun x xs H Q => ∃ (a : Str) (i : Int), x = .str a ∧ xs = [.int i] ∧ PadOk i = true ∧ Q (.str (Txt.zfill a i)) H
theorem mt_zfillR : MtR X "str.zfill" rZfill := mt_zfill
end

/-! ### steps: one lemma a form -/
section
variable {σ : L2.St} {H : Hp} {Q : VK} {D : Ends} {t u tb ts1 ts2 : TS} {te ta tbb tcc : TE} {tA : TA} {tt tt1 tt2 : TT} {v x y : V} {a p : Addr} {i j : Int} {K : PySem.W.Frag} {f : Str} {C dx : Addr} {fs : List (Str × V)}
theorem w_nx {A B : L2.St → Hp → Prop} {R : VK} {E : L2.St → Hp → Prop} (h : A σ H) : (Ends.mk A R B E).nx σ H := h
theorem w_rt {A B : L2.St → Hp → Prop} {R : VK} {E : L2.St → Hp → Prop} (h : R v H) : (Ends.mk A R B E).rt v H := h
theorem w_bk {A B : L2.St → Hp → Prop} {R : VK} {E : L2.St → Hp → Prop} (h : B σ H) : (Ends.mk A R B E).bk σ H := h
theorem w_ct {A B : L2.St → Hp → Prop} {R : VK} {E : L2.St → Hp → Prop} (h : E σ H) : (Ends.mk A R B E).ct σ H := h
theorem w_seq {A B E : L2.St → Hp → Prop} {R : VK} (h : t (Ends.mk (u (Ends.mk A R B E)) R B E) σ H) : tSeq t u (Ends.mk A R B E) σ H := h
theorem w_next {A B E : L2.St → Hp → Prop} {R : VK} (h : A σ H) : tNext (Ends.mk A R B E) σ H := h
theorem w_brk {A B E : L2.St → Hp → Prop} {R : VK} (h : B σ H) : tBreak (Ends.mk A R B E) σ H := h
theorem w_cont {A B E : L2.St → Hp → Prop} {R : VK} (h : E σ H) : tCont (Ends.mk A R B E) σ H := h
theorem w_asg {A B E : L2.St → Hp → Prop} {R : VK} {g : TG} (h : te σ H fun x H1 => g x σ H1 A) : tAsg te g (Ends.mk A R B E) σ H := h
theorem w_gname {n : Nat} {R : L2.St → Hp → Prop} (h : R (σ.set n (some v)) H) : gName n v σ H R := h
theorem w_ret {A B E : L2.St → Hp → Prop} {R : VK} (h : te σ H R) : tRet te (Ends.mk A R B E) σ H := h
theorem w_retN {A B E : L2.St → Hp → Prop} {R : VK} (h : R .non H) : tRetN (Ends.mk A R B E) σ H := h
theorem w_drop {A B E : L2.St → Hp → Prop} {R : VK} (h : te σ H fun _ H1 => A σ H1) : tDrop te (Ends.mk A R B E) σ H := h
theorem w_ifs (h : tt σ H fun b H1 => if b = true then t D σ H1 else u D σ H1) : tIfS tt t u D σ H := h
theorem w_sfld {A B E : L2.St → Hp → Prop} {R : VK} (h : te σ H fun y H1 => ta σ H1 fun x H2 => ∃ a C dx fs, x = .ref a ∧ H2 a = some (.ins C dx fs) ∧ Cls K C ∧ NoAttr K C f ∧ fs.length < 1000 ∧ A σ (upd H2 a (.ins C dx (putF f y fs)))) : sFld K ta te f (Ends.mk A R B E) σ H := h
theorem w_var {n : Nat} (h : σ[n]? = some (some v)) (q : Q v H) : tVar n σ H Q := ⟨v, h, q⟩
theorem w_c (q : Q v H) : tC v σ H Q := q
theorem w_op {r : R2} (h : ta σ H fun x H1 => tbb σ H1 fun y H2 => r x y H2 Q) : tOp r ta tbb σ H Q := h
theorem w_un {r : V → Hp → VK → Prop} (h : ta σ H fun x H1 => r x H1 Q) : tUn r ta σ H Q := h
theorem w_u {g : Int → V} (q : Q (g i) H) : rU g (.int i) H Q := ⟨i, rfl, q⟩
theorem w_i0 {g : Int → Int → V} (q : Q (g i j) H) : rI0 g (.int i) (.int j) H Q := ⟨i, j, rfl, rfl, q⟩
theorem w_i {c : Int → Int → Prop} {g : Int → Int → V} (h : c i j) (q : Q (g i j) H) : rI c g (.int i) (.int j) H Q := ⟨i, j, rfl, rfl, h, q⟩
theorem w_eq (h : scal x y = true) (q : Q (.bl (decide (x = y))) H) : rEq x y H Q := ⟨h, q⟩
theorem w_ne (h : scal x y = true) (q : Q (.bl (!decide (x = y))) H) : rNe x y H Q := ⟨h, q⟩
theorem w_isN (q : Q (.bl (decide (x = .non))) H) : rIsN x .non H Q := ⟨rfl, q⟩
theorem w_notN (q : Q (.bl (!decide (x = .non))) H) : rNotN x .non H Q := ⟨rfl, q⟩
theorem w_cons {ta : TE} {tr : TA} {Q : List V → Hp → Prop} (h : ta σ H fun x H1 => tr σ H1 fun xs H2 => Q (x :: xs) H2) : tCons ta tr σ H Q := h
theorem w_nil {Q : List V → Hp → Prop} (h : Q [] H) : tNil σ H Q := h
theorem w_fld (h : te σ H fun x H1 => ∃ a C dx fs v, x = .ref a ∧ H1 a = some (.ins C dx fs) ∧ Cls K C ∧ NoAttr K C f ∧ fs.lookup f = some v ∧ Q v H1) : tFld K te f σ H Q := h
theorem w_cb {r : List V → Hp → VK → Prop} (h : tA σ H fun vs H1 => r vs H1 Q) : tCB r tA σ H Q := h
theorem w_call {sp : Sp} {E : L2.St → XK} (h : tA σ H fun vs H1 => sp vs H1 Q (E σ)) : tCallS sp E tA σ H Q := h
theorem w_meth {PC : Addr → Prop} {m : Str} {sp : Sp} {W : WX} (h : te σ H fun x H1 => ∃ a C dx fs, x = .ref a ∧ H1 a = some (.ins C dx fs) ∧ PC C ∧ fs.lookup m = none ∧
  tA σ H1 fun vs H2 => sp (x :: vs) H2 Q fun cls d H => W cls d σ H) : tMethS PC m sp W te tA σ H Q := h
theorem w_make {sp : Sp} {W : WX} (h : tA σ H fun vs H1 => ∀ x dx, H1 x = none → H1 dx = none → dx ≠ x →
  sp (.ref x :: vs) (upd (upd H1 dx (.own x)) x (.ins C dx [])) (fun v H2 => v = .non ∧ Q (.ref x) H2) fun cls d H => W cls d σ H) : tMakeS C sp W tA σ H Q := h
theorem w_test {R : Bool → Hp → Prop} (h : te σ H fun x H' => ∃ k, x = .bl k ∧ R k H') : tTest te σ H R := h
theorem w_B {R : Bool → Hp → Prop} (h : te σ H fun x H' => ∃ k, x = .bl k ∧ R k H') : tB te σ H R := h
theorem w_bl {R : Bool → Prop} {k : Bool} (h : R k) : ∃ k', V.bl k = .bl k' ∧ R k' := ⟨k, rfl, h⟩
theorem w_and {R : Bool → Hp → Prop} (h : tt1 σ H fun c H1 => if c = true then tt2 σ H1 R else R false H1) : tAnd tt1 tt2 σ H R := h
theorem w_or {R : Bool → Hp → Prop} (h : tt1 σ H fun c H1 => if c = true then R true H1 else tt2 σ H1 R) : tOr tt1 tt2 σ H R := h
theorem w_not {R : Bool → Hp → Prop} (h : tt σ H fun c H1 => R (!c) H1) : tNot tt σ H R := h
theorem w_lst (h : tA σ H fun xs H1 => xs.length ≤ sizeLine ∧ ∀ p, H1 p = none → Q (.ref p) (upd H1 p (.lst xs))) : tLst tA σ H Q := h
theorem w_tup (h : tA σ H fun xs H1 => xs.length ≤ sizeLine ∧ ∀ p, H1 p = none → Q (.ref p) (upd H1 p (.tup xs))) : tTup tA σ H Q := h
theorem w_bm {T : String} {r : V → List V → Hp → VK → Prop} (h : te σ H fun x H1 => tyV K T x H1 ∧ tA σ H1 fun xs H2 => r x xs H2 Q) : tBM K T r te tA σ H Q := h
theorem w_bm0 {T : String} {r : V → List V → Hp → VK → Prop} (h : te σ H fun x H1 => tyV K T x H1 ∧ r x [] H1 Q) : tBM0 K T r te σ H Q := h
theorem w_m1 {r : V → List V → Hp → VK → Prop} (h : te σ H fun x H1 => (∃ a, x = .str a) ∧ ta σ H1 fun y H2 => r x [y] H2 Q) : tM1 r te ta σ H Q := h
theorem w_m0 {r : V → List V → Hp → VK → Prop} (h : te σ H fun x H1 => (∃ a, x = .str a) ∧ r x [] H1 Q) : tM0 r te σ H Q := h
theorem w_ixL {xs : List V} (h : SqL K H p xs) (e : atI xs i = some v) (q : Q v H) : rIxL K (.ref p) (.int i) H Q := ⟨p, xs, i, v, rfl, rfl, h, e, q⟩
theorem w_ixT {xs : List V} (h : SqT K H p xs) (e : atI xs i = some v) (q : Q v H) : rIxT K (.ref p) (.int i) H Q := ⟨p, xs, i, v, rfl, rfl, h, e, q⟩
theorem w_ixS {z : Str} {c : Nat} (h : z.length ≤ sizeLine) (e : atI z.cps.toList i = some c) (q : Q (.str ⟨#[c]⟩) H) : rIxS (.str z) (.int i) H Q := ⟨z, i, c, rfl, rfl, h, e, q⟩
theorem w_lenS {z : Str} (h : z.length ≤ sizeLine) (q : Q (.int z.length) H) : rLenS [.str z] H Q := ⟨z, rfl, h, q⟩
theorem w_lenL {xs : List V} (h : SqL K H p xs) (q : Q (.int xs.length) H) : rLenL K [.ref p] H Q := ⟨p, xs, rfl, Or.inl h, q⟩
theorem w_lenT {xs : List V} (h : SqT K H p xs) (q : Q (.int xs.length) H) : rLenL K [.ref p] H Q := ⟨p, xs, rfl, Or.inr h, q⟩
theorem w_addS {s z : Str} (h : s.length + z.length ≤ sizeLine) (q : Q (.str (s ++ z)) H) : rAddS (.str s) (.str z) H Q := ⟨s, z, rfl, rfl, h, q⟩
theorem w_inS {c : Nat} {z : Str} (q : Q (.bl (decide (c ∈ z.cps.toList))) H) : rInS (.str ⟨#[c]⟩) (.str z) H Q := ⟨c, z, rfl, rfl, q⟩
theorem w_notInS {c : Nat} {z : Str} (q : Q (.bl (!decide (c ∈ z.cps.toList))) H) : rNotInS (.str ⟨#[c]⟩) (.str z) H Q := ⟨c, z, rfl, rfl, q⟩
theorem w_append {xs : List V} (h : H p = some (.lst xs)) (hz : xs.length < sizeLine) (q : Q .non (upd H p (.lst (xs ++ [v])))) : rAppend (.ref p) [v] H Q := ⟨p, xs, v, rfl, rfl, h, hz, q⟩
theorem w_find {s z : Str} (q : Q (.int (Txt.find s z)) H) : rFind (.str s) [.str z] H Q := ⟨s, z, rfl, rfl, q⟩
theorem w_zfill {s : Str} (h : PadOk i = true) (q : Q (.str (Txt.zfill s i)) H) : rZfill (.str s) [.int i] H Q := ⟨s, i, rfl, rfl, h, q⟩
theorem w_upper {s : Str} (h : s.length ≤ 5592405) (q : Q (.str (Txt.upper s)) H) : rUpper (.str s) [] H Q := ⟨s, rfl, rfl, h, q⟩
theorem w_strI (h : i.natAbs.log2 < 1920) (q : Q (.str (toString i)) H) : rStrI [.int i] H Q := ⟨i, rfl, h, q⟩
theorem w_max2 (q : Q (.int (if j > i then j else i)) H) : rMax2 [.int i, .int j] H Q := ⟨i, j, rfl, q⟩
theorem w_min2 (q : Q (.int (if j < i then j else i)) H) : rMin2 [.int i, .int j] H Q := ⟨i, j, rfl, q⟩
theorem w_slL {lo hi : Option Int} {xs : List V} (h : SqL K H a xs) (q : ∀ p, H p = none → Q (.ref p) (upd H p (.lst (cutV xs lo hi)))) : rSlL K (.ref a) lo hi H Q := ⟨a, xs, rfl, h, q⟩
theorem w_slS {lo hi : Option Int} {z : Str} (h : z.length ≤ sizeLine) (q : Q (.str (cutS z lo hi)) H) : rSlS (.str z) lo hi H Q := ⟨z, rfl, h, q⟩
theorem w_sl {r : V → Option Int → Option Int → Hp → VK → Prop} {tl th : TO} (h : te σ H fun x H1 => tl σ H1 fun l H2 => th σ H2 fun u H3 => r x l u H3 Q) : tSl r te tl th σ H Q := h
theorem w_part {R : Option Int → Hp → Prop} (h : te σ H fun x H1 => ∃ i, x = .int i ∧ R (some i) H1) : tPart te σ H R := h
theorem w_nopart {R : Option Int → Hp → Prop} (h : R none H) : tNoPart σ H R := h
theorem w_int {R : Int → Prop} (h : R i) : ∃ k, V.int i = .int k ∧ R k := ⟨i, rfl, h⟩
theorem w_ifE {ta tb : TE} (h : tt σ H fun c H1 => if c = true then ta σ H1 Q else tb σ H1 Q) : tIf tt ta tb σ H Q := h
/-- the answer of a test -/
theorem w_ite {c A B : Prop} [Decidable c] (h1 : c → A) (h2 : ¬ c → B) : if decide c = true then A else B := by
  by_cases h : c
  · rw [if_pos (decide_eq_true h)]
    exact h1 h
  · rw [decide_eq_false h, if_neg Bool.false_ne_true]
    exact h2 h
theorem w_iteN {c A B : Prop} [Decidable c] (h1 : ¬ c → A) (h2 : c → B) : if (!decide c) = true then A else B := by
  by_cases h : c
  · rw [decide_eq_true h, if_neg (by decide)]
    exact h2 h
  · rw [decide_eq_false h, if_pos (by decide)]
    exact h1 h
theorem w_yes {c A B : Prop} [Decidable c] (hc : c) (h : A) : if decide c = true then A else B := by
  rw [if_pos (decide_eq_true hc)]
  exact h
theorem w_no {c A B : Prop} [Decidable c] (hc : ¬ c) (h : B) : if decide c = true then A else B := by
  rw [decide_eq_false hc, if_neg Bool.false_ne_true]
  exact h
theorem w_yesN {c A B : Prop} [Decidable c] (hc : ¬ c) (h : A) : if (!decide c) = true then A else B := by
  rw [decide_eq_false hc, if_pos (by decide)]
  exact h
theorem w_noN {c A B : Prop} [Decidable c] (hc : c) (h : B) : if (!decide c) = true then A else B := by
  rw [decide_eq_true hc, if_neg (by decide)]
  exact h
theorem w_iteT {A B : Prop} (h : A) : if true = true then A else B := by
  rw [if_pos rfl]
  exact h
theorem w_iteF {A B : Prop} (h : B) : if false = true then A else B := by
  rw [if_neg Bool.false_ne_true]
  exact h
theorem w_iteB {b : Bool} {A B : Prop} (h1 : b = true → A) (h2 : b = false → B) : if b = true then A else B := by
  cases b with
  | true => rw [if_pos rfl]; exact h1 rfl
  | false => rw [if_neg Bool.false_ne_true]; exact h2 rfl
/-- a new object -/
theorem w_new {o : HO} {R : Addr → Hp → Prop} (h : ∀ p H', H p = none → Ex H H' → H' p = some o → (∀ b, b ≠ p → H' b = H b) → R p H') : ∀ p, H p = none → R p (upd H p o) := fun p hp =>
  h p _ hp (Ex.new hp) upd_same fun b hb => upd_ne hb
end
end Plk

namespace Plk
open PySem PySem.Spec PyProof.Rows L2
/-! ### numbers from nought on -/
abbrev nV (n : Nat) : V := .int (n : Int)
/-- a two-place rule over numbers from nought on -/
def rN (C : Nat → Nat → Prop) (g : Nat → Nat → V) : R2 := fun x y H Q => ∃ n m : Nat, x = nV n ∧ y = nV m ∧ C n m ∧ Q (g n m) H
theorem w_n {C : Nat → Nat → Prop} {g : Nat → Nat → V} {n m : Nat} {H : Hp} {Q : VK} (h : C n m) (q : Q (g n m) H) : rN C g (nV n) (nV m) H Q := ⟨n, m, rfl, rfl, h, q⟩
def rN0 (g : Nat → Nat → V) : R2 := fun x y H Q => ∃ n m : Nat, x = nV n ∧ y = nV m ∧ Q (g n m) H
theorem w_n0 {g : Nat → Nat → V} {n m : Nat} {H : Hp} {Q : VK} (q : Q (g n m) H) : rN0 g (nV n) (nV m) H Q := ⟨n, m, rfl, rfl, q⟩
section
variable {X : Cx} {f : Value → Value → Sem Value}
theorem op_ofI {c : Int → Int → Prop} {k : Int → Int → V} {C : Nat → Nat → Prop} {g : Nat → Nat → V} (h : OpR X f (rI c k)) (e : ∀ n m : Nat, C n m → c n m ∧ k n m = g n m) : OpR X f (rN C g) := by
  intro pins s σ H x y v u Q I rx ry q
  obtain ⟨n, m, rfl, rfl, hc, q⟩ := q
  obtain ⟨e1, e2⟩ := e n m hc
  exact h pins s σ H _ _ v u Q I rx ry ⟨n, m, rfl, rfl, e1, by rw [e2]; exact q⟩
theorem op_ofI0 {k : Int → Int → V} {C : Nat → Nat → Prop} {g : Nat → Nat → V} (h : OpR X f (rI0 k)) (e : ∀ n m : Nat, C n m → k n m = g n m) : OpR X f (rN C g) := by
  intro pins s σ H x y v u Q I rx ry q
  obtain ⟨n, m, rfl, rfl, hc, q⟩ := q
  exact h pins s σ H _ _ v u Q I rx ry ⟨n, m, rfl, rfl, by rw [e n m hc]; exact q⟩
theorem op_ofI00 {k : Int → Int → V} {g : Nat → Nat → V} (h : OpR X f (rI0 k)) (e : ∀ n m : Nat, k n m = g n m) : OpR X f (rN0 g) := by
  intro pins s σ H x y v u Q I rx ry q
  obtain ⟨n, m, rfl, rfl, q⟩ := q
  exact h pins s σ H _ _ v u Q I rx ry ⟨n, m, rfl, rfl, by rw [e n m]; exact q⟩
theorem pow_cast (k : Nat) : ((2 : Int) ^ k) = ((2 ^ k : Nat) : Int) := by
  rw [Int.natCast_pow]
  rfl
theorem xor_cast (n m : Nat) : Builtin.bitXor (n : Int) (m : Int) = ((n ^^^ m : Nat) : Int) := by
  rw [Bits.bitXor_pp (Int.natCast_nonneg _) (Int.natCast_nonneg _), Int.toNat_natCast, Int.toNat_natCast]
theorem or_cast (n m : Nat) : Builtin.bitOr (n : Int) (m : Int) = ((n ||| m : Nat) : Int) := by
  rw [Bits.bitOr_pp (Int.natCast_nonneg _) (Int.natCast_nonneg _), Int.toNat_natCast, Int.toNat_natCast]
theorem and_cast (n m : Nat) : Builtin.bitAnd (n : Int) (m : Int) = ((n &&& m : Nat) : Int) := by
  rw [PyProof.Rows.bitAnd_pp (Int.natCast_nonneg _) (Int.natCast_nonneg _), Int.toNat_natCast, Int.toNat_natCast]
theorem n_add : OpR X (binaryOp .Add) (rN0 fun n m => nV (n + m)) := op_ofI00 op_add fun n m => by rw [← Int.natCast_add]
theorem n_sub : OpR X (binaryOp .Sub) (rN (fun n m => m ≤ n) fun n m => nV (n - m)) := op_ofI0 op_sub fun n m h => by rw [← Int.natCast_sub h]
theorem n_mul : OpR X (binaryOp .Mult) (rN (fun n m => n < 2 ^ 64 ∨ m < 2 ^ 64) fun n m => nV (n * m)) := op_ofI op_mul fun n m h => ⟨by unfold CMul; omega, by rw [← Int.natCast_mul]⟩
theorem n_fdiv : OpR X (binaryOp .FloorDiv) (rN (fun _ m => 0 < m ∧ m < 1073741824) fun n m => nV (n / m)) := op_ofI op_fdiv fun n m h => ⟨⟨by omega, by omega⟩, by rw [← Int.natCast_ediv]⟩
theorem n_mod : OpR X (binaryOp .Mod) (rN (fun _ m => 0 < m) fun n m => nV (n % m)) := op_ofI op_mod fun n m h => ⟨by omega, by rw [← Int.natCast_emod]⟩
theorem n_shl : OpR X (binaryOp .LShift) (rN (fun n m => m ≤ 1000000 ∧ n < 2 ^ 64) fun n m => nV (n <<< m)) := op_ofI op_shl fun n m h => ⟨⟨by omega, by omega, by omega⟩, by
  rw [Int.toNat_natCast, pow_cast, ← Int.natCast_mul, Nat.shiftLeft_eq]⟩
/-- a << b, a of at most 4000 binary digits -/
theorem n_shlW : OpR X (binaryOp .LShift) (rN (fun n m => m ≤ 1000000 ∧ n < 2 ^ 4000) fun n m => nV (n <<< m)) := op_ofI op_shlW fun n m h => ⟨shl_ok (n := 4000) (by rw [Int.natAbs_natCast]; exact h.2) (by omega), by
  rw [Int.toNat_natCast, pow_cast, ← Int.natCast_mul, Nat.shiftLeft_eq]⟩
theorem n_shr : OpR X (binaryOp .RShift) (rN0 fun n m => nV (n >>> m)) := by
  intro pins s σ H x y v u Q I rx ry q
  obtain ⟨n, m, rfl, rfl, q⟩ := q
  refine op_shr pins s σ H _ _ v u Q I rx ry ⟨n, m, rfl, rfl, Int.natCast_nonneg _, ?_⟩
  show Q (.int ((n : Int) / 2 ^ (m : Int).toNat)) H
  rw [Int.toNat_natCast, pow_cast, ← Int.natCast_ediv, ← Nat.shiftRight_eq_div_pow]
  exact q
theorem n_mulW : OpR X (binaryOp .Mult) (rN (fun n m => n < 2 ^ 2000 ∧ m < 2 ^ 2000) fun n m => nV (n * m)) := op_ofI op_mulW fun n m h => ⟨wide_mul (a := 2000) (b := 2000) (by rw [Int.natAbs_natCast]; exact h.1) (by rw [Int.natAbs_natCast]; exact h.2) (by decide) (by decide) (by decide), by rw [← Int.natCast_mul]⟩
theorem n_pow : OpR X (binaryOp .Pow) (rN (fun n m => m ≤ 1000000 ∧ n < 2 ^ 64) fun n m => nV (n ^ m)) := op_ofI op_pow fun n m h => ⟨⟨by omega, by omega, by omega⟩, by
  rw [Int.toNat_natCast]
  show V.int ((n : Int) ^ m) = V.int ((n ^ m : Nat) : Int)
  rw [Int.natCast_pow]⟩
theorem n_and : OpR X (binaryOp .BitAnd) (rN0 fun n m => nV (n &&& m)) := op_ofI00 op_and fun n m => by rw [and_cast]
theorem n_or : OpR X (binaryOp .BitOr) (rN0 fun n m => nV (n ||| m)) := op_ofI00 op_or fun n m => by rw [or_cast]
theorem n_xor : OpR X (binaryOp .BitXor) (rN0 fun n m => nV (n ^^^ m)) := op_ofI00 op_xor fun n m => by rw [xor_cast]
theorem ni_add : OpR X (inplaceOp .Add) (rN0 fun n m => nV (n + m)) := op_ofI00 iop_add fun n m => by rw [← Int.natCast_add]
theorem ni_xor : OpR X (inplaceOp .BitXor) (rN0 fun n m => nV (n ^^^ m)) := op_ofI00 iop_xor fun n m => by rw [xor_cast]
theorem ni_shr : OpR X (inplaceOp .RShift) (rN0 fun n m => nV (n >>> m)) := by
  intro pins s σ H x y v u Q I rx ry q
  obtain ⟨n, m, rfl, rfl, q⟩ := q
  refine iop_shr pins s σ H _ _ v u Q I rx ry ⟨n, m, rfl, rfl, Int.natCast_nonneg _, ?_⟩
  show Q (.int ((n : Int) / 2 ^ (m : Int).toNat)) H
  rw [Int.toNat_natCast, pow_cast, ← Int.natCast_ediv, ← Nat.shiftRight_eq_div_pow]
  exact q
theorem dec_cast {p q : Prop} [Decidable p] [Decidable q] (h : p ↔ q) : V.bl (decide p) = V.bl (decide q) := by
  rw [decide_eq_decide.mpr h]
theorem n_lt : OpR X (compareOp .Lt) (rN0 fun n m => .bl (decide (n < m))) := op_ofI00 op_lt fun n m => dec_cast (by omega)
theorem n_le : OpR X (compareOp .LtE) (rN0 fun n m => .bl (decide (n ≤ m))) := op_ofI00 op_le fun n m => dec_cast (by omega)
theorem n_gt : OpR X (compareOp .Gt) (rN0 fun n m => .bl (decide (m < n))) := op_ofI00 op_gt fun n m => dec_cast (by omega)
theorem n_ge : OpR X (compareOp .GtE) (rN0 fun n m => .bl (decide (m ≤ n))) := op_ofI00 op_ge fun n m => dec_cast (by omega)
theorem nV_inj {n m : Nat} (h : nV n = nV m) : n = m := by
  have e := V.int.inj h
  omega
theorem n_eq : OpR X (compareOp .Eq) (rN0 fun n m => .bl (decide (n = m))) := by
  intro pins s σ H x y v u Q I rx ry q
  obtain ⟨n, m, rfl, rfl, q⟩ := q
  refine op_eq pins s σ H _ _ v u Q I rx ry ⟨rfl, ?_⟩
  rw [dec_cast (q := n = m) ⟨nV_inj, fun e => by rw [e]⟩]
  exact q
theorem n_ne : OpR X (compareOp .NotEq) (rN0 fun n m => .bl (decide (n ≠ m))) := by
  intro pins s σ H x y v u Q I rx ry q
  obtain ⟨n, m, rfl, rfl, q⟩ := q
  refine op_ne pins s σ H _ _ v u Q I rx ry ⟨rfl, ?_⟩
  have e : (!decide (nV n = nV m)) = decide (n ≠ m) := by
    by_cases h : n = m
    · rw [h]; simp
    · rw [decide_eq_false (fun z => h (nV_inj z)), decide_eq_true h]; rfl
  rw [e]
  exact q
/-- an int by a positive number: what is left is from nought on -/
def rImod : R2 := fun x y H Q => ∃ (i : Int) (m : Nat), x = .int i ∧ y = nV m ∧ 0 < m ∧ Q (nV (i % (m : Int)).toNat) H
theorem i_mod : OpR X (binaryOp .Mod) rImod := by
  intro pins s σ H x y v u Q I rx ry q
  obtain ⟨i, m, rfl, rfl, h, q⟩ := q
  refine op_mod pins s σ H _ _ v u Q I rx ry ⟨i, m, rfl, rfl, by omega, ?_⟩
  have e : (((i % (m : Int)).toNat : Nat) : Int) = i % (m : Int) := Int.toNat_of_nonneg (Int.emod_nonneg _ (by omega))
  show Q (.int (i % (m : Int))) H
  rw [← e]
  exact q
theorem w_imod {i : Int} {m : Nat} {H : Hp} {Q : VK} (h : 0 < m) (q : Q (nV (i % (m : Int)).toNat) H) : rImod (.int i) (nV m) H Q := ⟨i, m, rfl, rfl, h, q⟩
theorem pe_nat (n : Nat) {i : Int} {j pos} (h : i = (n : Int) := by rfl) : PE X (.Constant (.int i) j pos) (tC (nV n)) := by
  rw [h]
  exact pe_int
theorem w_bits {te : TE} {σ : L2.St} {H : Hp} {Q : VK} (h : te σ H fun x H1 => ∃ i, x = .int i ∧ Q (nV (Builtin.Int.intBits i)) H1) : tBits te σ H Q := h
end
end Plk

namespace Plk
open PySem PySem.Spec PyProof.Rows L2
/-! ### loops -/
/-- n items; the i-th is v at the heap behind its step; H0: what the walked thing leans on -/
structure IterOk (J : It) (H0 : Hp) (n : Nat) (I : Nat → V → Hp → Prop) : Prop where
  go : ∀ i H, Ex H0 H → i < n → J.go i H
  yld : ∀ i H v H', Ex H0 H → i < n → J.yld i H v H' → Ex H H' ∧ I i v H'
  stop : ∀ i H, Ex H0 H → n ≤ i → J.stop i H
def fRest (g : TG) (tb : TS) (D : Ends) (σ : L2.St) : It → Hp → Prop := fun J H1 => ∃ W : Nat → Nat → L2.St → Hp → Prop, (∃ m, W 0 m σ H1) ∧ ∀ i m σ H, W i m σ H →
  (J.stop i H ∧ D.nx σ H) ∨ (J.go i H ∧ ∃ N : L2.St → Hp → Prop, (∀ σ' H', N σ' H' → ∃ m', m' < m ∧ W (i + 1) m' σ' H') ∧ ∀ x H', J.yld i H x H' → g x σ H' fun σ2 H2 => tb { D with nx := N, ct := N, bk := D.nx } σ2 H2)
def lRest (g : TG) (tt : TT) (te : TE) (vs : List Nat) (σ : L2.St) (Q : VK) : It → Hp → Prop := fun J H1 => ∀ D, H1 D = none → ∃ W : Nat → Nat → Hp → Prop, (∃ m, W 0 m (upd H1 D (.lst []))) ∧ ∀ i m H, W i m H →
  (J.stop i H ∧ Q (.ref D) H) ∨ (J.go i H ∧ ∃ Nx : Hp → Prop, (∀ H', Nx H' → ∃ m', m' < m ∧ W (i + 1) m' H') ∧ ∀ x H', J.yld i H x H' → g x (wipe σ vs) H' fun σ2 H2 => wipe σ2 vs = wipe σ vs ∧ tt σ2 H2 fun b H3 =>
    if b = true then te σ2 H3 fun y H4 => ∃ acc, H4 D = some (.lst acc) ∧ acc.length < sizeLine ∧ Nx (upd H4 D (.lst (acc ++ [y]))) else Nx H3)
section
variable {g : TG} {tb : TS} {D : Ends} {σ : L2.St} {H H0 : Hp} {wi : TI} {J : It} {n : Nat} {I : Nat → V → Hp → Prop} {K : PySem.W.Frag} {a b : Addr} {tt : TT} {te tl : TE} {vs : List Nat} {Q : VK} {ta : TA} {xs ys : List V} {R : It → Hp → Prop}
theorem w_for (h : wi σ H (fRest g tb D σ)) : tFor wi g tb D σ H := h
theorem w_lc (h : wi σ H (lRest g tt te vs σ Q)) : tLc wi g tt te vs σ H Q := h
theorem w_loop {A B E : L2.St → Hp → Prop} {R : VK} (Pv : Nat → L2.St → Hp → Prop) (ok : IterOk J H0 n I) (h0 : Pv 0 σ H) (hx : ∀ i σ H, Pv i σ H → Ex H0 H)
    (hs : ∀ i v σ H H', i < n → Pv i σ H → Ex H H' → I i v H' → g v σ H' fun σ2 H2 => tb (Ends.mk (Pv (i + 1)) R A (Pv (i + 1))) σ2 H2) (hd : ∀ σ H, Pv n σ H → A σ H) : fRest g tb (Ends.mk A R B E) σ J H := by
  refine ⟨fun i m σ H => m = n - i ∧ i ≤ n ∧ Pv i σ H, ⟨n, by simp, Nat.zero_le _, h0⟩, ?_⟩
  rintro i m σ H ⟨rfl, hi, p⟩
  by_cases hlt : i < n
  · refine .inr ⟨ok.go i H (hx i σ H p) hlt, Pv (i + 1), fun σ' H' p' => ⟨n - (i + 1), by omega, rfl, hlt, p'⟩, fun x H' y => ?_⟩
    obtain ⟨e, z⟩ := ok.yld i H x H' (hx i σ H p) hlt y
    exact hs i x σ H H' hlt p e z
  · have e : i = n := by omega
    subst e
    exact .inl ⟨ok.stop i H (hx i σ H p) (Nat.le_refl _), hd σ H p⟩
/-- a comprehension whose values are told by acc; its turns make new things alone -/
theorem w_lcV (acc : Nat → List V) (ok : IterOk J H0 n I) (e0 : Ex H0 H) (h0 : acc 0 = []) (hn : n ≤ 1000000)
    (hs : ∀ i v H', i < n → Ex H H' → I i v H' → ∀ (Y : VK) (N : Hp → Prop), (∀ y H4, Ex H' H4 → acc (i + 1) = acc i ++ [y] → Y y H4) → (∀ H3, Ex H' H3 → acc (i + 1) = acc i → N H3) →
      g v (wipe σ vs) H' fun σ2 H2 => wipe σ2 vs = wipe σ vs ∧ tt σ2 H2 fun b H3 => if b = true then te σ2 H3 Y else N H3)
    (hl : ∀ i, i ≤ n → (acc i).length ≤ i)
    (hd : ∀ p H', H p = none → Ex H H' → H' p = some (.lst (acc n)) → Q (.ref p) H') : lRest g tt te vs σ Q J H := by
  intro p hp
  refine ⟨fun i m H' => m = n - i ∧ i ≤ n ∧ Ex H H' ∧ H' p = some (.lst (acc i)), ⟨n, by simp, Nat.zero_le _, Ex.new hp, by rw [h0]; exact upd_same⟩, ?_⟩
  rintro i m H1 ⟨rfl, hi, e1, f1⟩
  by_cases hlt : i < n
  · refine .inr ⟨ok.go i H1 (e0.trans e1) hlt, fun H' => Ex H H' ∧ H' p = some (.lst (acc (i + 1))), fun H' p' => ⟨n - (i + 1), by omega, rfl, hlt, p'⟩, fun x H' y => ?_⟩
    obtain ⟨e, z⟩ := ok.yld i H1 x H' (e0.trans e1) hlt y
    refine hs i x H' hlt (e1.trans e) z _ _ (fun y H4 e4 ea => ⟨acc i, e4 _ _ (e _ _ f1), sz_lt (by have := hl i hi; omega), ?_, ?_⟩) (fun H3 e3 ea => ⟨(e1.trans e).trans e3, by rw [ea]; exact e3 _ _ (e _ _ f1)⟩)
    · exact ((e1.trans e).trans e4).mut hp
    · rw [ea]
      exact upd_same
  · have e : i = n := by omega
    subst e
    exact .inl ⟨ok.stop i H1 (e0.trans e1) (Nat.le_refl _), hd p H1 hp e1 f1⟩
theorem sqL_inj {xs ys : List V} {H : Hp} (hx : H a = some (.lst xs)) (h : SqL K H a ys) : True := trivial
/-! ### what is walked -/
theorem it_list (h : SqL K H a xs) : IterOk (Itl K a) H xs.length fun i v _ => xs[i]? = some v where
  go := fun i H' e hi => ⟨xs, xs[i], e.sl h, List.getElem?_eq_getElem hi⟩
  yld := fun i H1 v H' e hi y => by
    obtain ⟨rfl, y⟩ := y
    exact ⟨Ex.refl _, y xs (e.sl h)⟩
  stop := fun i H' e hi => ⟨xs, e.sl h, hi⟩
theorem it_tup (h : SqT K H a xs) : IterOk (Itt K a) H xs.length fun i v _ => xs[i]? = some v where
  go := fun i H' e hi => ⟨xs, xs[i], e.st h, List.getElem?_eq_getElem hi⟩
  yld := fun i H1 v H' e hi y => by
    obtain ⟨rfl, y⟩ := y
    exact ⟨Ex.refl _, y xs (e.st h)⟩
  stop := fun i H' e hi => ⟨xs, e.st h, hi⟩
theorem it_rng {lo : Nat} : IterOk (Itr (lo : Int) n) H n fun i v _ => v = nV (lo + i) where
  go := fun i H' e hi => hi
  yld := fun i H1 v H' e hi y => by
    obtain ⟨rfl, rfl⟩ := y
    exact ⟨Ex.refl _, by rw [← Int.natCast_add]⟩
  stop := fun i H' e hi => hi
theorem it_rng0 : IterOk (Itr 0 n) H n fun i v _ => v = nV i where
  go := fun i H' e hi => hi
  yld := fun i H1 v H' e hi y => by
    obtain ⟨rfl, rfl⟩ := y
    exact ⟨Ex.refl _, by rw [Int.zero_add]⟩
  stop := fun i H' e hi => hi
theorem it_str {z : Str} : IterOk (Its z) H z.cps.toList.length fun i v _ => ∃ c, z.cps.toList[i]? = some c ∧ v = .str ⟨#[c]⟩ where
  go := fun i H' e hi => by
    rw [Array.length_toList] at hi
    exact hi
  yld := fun i H1 v H' e hi y => by
    obtain ⟨rfl, c, hc, rfl⟩ := y
    exact ⟨Ex.refl _, c, by rw [Array.getElem?_toList]; exact hc, rfl⟩
  stop := fun i H' e hi => by
    rw [Array.length_toList] at hi
    exact hi
theorem it_enum (h : SqL K H a xs) : IterOk (Ite K a) H xs.length fun i v H' => ∃ T x, v = .ref T ∧ xs[i]? = some x ∧ H' T = some (.tup [nV i, x]) where
  go := fun i H' e hi => ⟨xs, xs[i], e.sl h, List.getElem?_eq_getElem hi⟩
  yld := fun i H1 v H' e hi y => by
    obtain ⟨T, x, rfl, hT, rfl, y⟩ := y
    exact ⟨Ex.new hT, T, x, rfl, y xs (e.sl h), upd_same⟩
  stop := fun i H' e hi => ⟨xs, e.sl h, hi⟩
theorem it_zip (h : SqL K H a xs) (h' : SqL K H b ys) (hl : xs.length = ys.length) : IterOk (Itz K a b) H xs.length fun i v H' => ∃ T x y, v = .ref T ∧ xs[i]? = some x ∧ ys[i]? = some y ∧ H' T = some (.tup [x, y]) where
  go := fun i H' e hi => ⟨xs, ys, xs[i], ys[i]'(hl ▸ hi), e.sl h, e.sl h', List.getElem?_eq_getElem hi, List.getElem?_eq_getElem _⟩
  yld := fun i H1 v H' e hi y => by
    obtain ⟨T, x, y, rfl, hT, rfl, y1, y2⟩ := y
    exact ⟨Ex.new hT, T, x, y, rfl, y1 xs (e.sl h), y2 ys (e.sl h'), upd_same⟩
  stop := fun i H' e hi => ⟨xs, ys, e.sl h, e.sl h', Or.inl hi⟩
theorem w_iList (h : tl σ H fun x H1 => ∃ a, x = .ref a ∧ (∃ xs, SqL K H1 a xs) ∧ R (Itl K a) H1) : iList K tl σ H R := h
theorem w_iList' (h : SqL K H a xs) (q : R (Itl K a) H) : ∃ a', V.ref a = .ref a' ∧ (∃ xs, SqL K H a' xs) ∧ R (Itl K a') H := ⟨a, rfl, ⟨xs, h⟩, q⟩
theorem w_iStr (h : tl σ H fun v H1 => ∃ x, v = .str x ∧ R (Its x) H1) : iStr tl σ H R := h
theorem w_iStr' {z : Str} (q : R (Its z) H) : ∃ x, V.str z = .str x ∧ R (Its x) H := ⟨z, rfl, q⟩
theorem w_iRng1 (h : ta σ H fun vs H1 => ∃ j : Int, vs = [.int j] ∧ -(2 ^ 62) ≤ j ∧ j < 2 ^ 62 ∧ R (Itr 0 j.toNat) H1) : iRng1 ta σ H R := h
theorem w_iRng1' (hn : n ≤ 1000000000) (q : R (Itr 0 n) H) : ∃ j : Int, [nV n] = [.int j] ∧ -(2 ^ 62) ≤ j ∧ j < 2 ^ 62 ∧ R (Itr 0 j.toNat) H := ⟨n, rfl, by omega, by omega, by rw [Int.toNat_natCast]; exact q⟩
theorem w_iRng2 (h : ta σ H fun vs H1 => ∃ i j : Int, vs = [.int i, .int j] ∧ (-(2 ^ 62) ≤ i ∧ i < 2 ^ 62 ∧ -(2 ^ 62) ≤ j ∧ j < 2 ^ 62) ∧ R (Itr i (j - i).toNat) H1) : iRng2 ta σ H R := h
theorem w_iEnum (h : ta σ H fun vs H1 => ∃ a xs, vs = [.ref a] ∧ SqL K H1 a xs ∧ R (Ite K a) H1) : iEnum K ta σ H R := h
theorem w_iEnum' (h : SqL K H a xs) (q : R (Ite K a) H) : ∃ a' xs, [V.ref a] = [.ref a'] ∧ SqL K H a' xs ∧ R (Ite K a') H := ⟨a, xs, rfl, h, q⟩
theorem w_iZip (h : ta σ H fun vs H1 => ∃ a b xs ys, vs = [.ref a, .ref b] ∧ SqL K H1 a xs ∧ SqL K H1 b ys ∧ R (Itz K a b) H1) : iZip K ta σ H R := h
theorem w_iZip' (h : SqL K H a xs) (h' : SqL K H b ys) (q : R (Itz K a b) H) : ∃ a' b' xs ys, [V.ref a, V.ref b] = [.ref a', .ref b'] ∧ SqL K H a' xs ∧ SqL K H b' ys ∧ R (Itz K a' b') H := ⟨a, b, xs, ys, rfl, h, h', q⟩
/-! ### targets of several names -/
theorem w_gtup {m : Nat} {t : TGs} {R : L2.St → Hp → Prop} (h : SqT K H a xs) (hm : xs.length = m) (q : t xs σ H R) : gTup K m t (.ref a) σ H R := ⟨a, xs, rfl, h, hm, q⟩
theorem w_glst {m : Nat} {t : TGs} {R : L2.St → Hp → Prop} (h : SqL K H a xs) (hm : xs.length = m) (q : t xs σ H R) : gLst K m t (.ref a) σ H R := ⟨a, xs, rfl, h, hm, q⟩
theorem w_gcons {t : TG} {u : TGs} {v : V} {R : L2.St → Hp → Prop} (q : t v σ H fun σ' H' => u xs σ' H' R) : gCons t u (v :: xs) σ H R := ⟨v, xs, rfl, q⟩
theorem w_gnil {R : L2.St → Hp → Prop} (q : R σ H) : gNil [] σ H R := ⟨rfl, q⟩
/-- o[i] = v, o a list -/
theorem w_gsub {to ti : TE} {t : TSet} {v : V} {R : L2.St → Hp → Prop} (h : to σ H fun o H1 => ti σ H1 fun i H2 => t o i v H2 fun H3 => R σ H3) : gSub to ti t v σ H R := h
theorem w_setL {p : Addr} {i : Int} {j : Nat} {v : V} {R : Hp → Prop} (h : H p = some (.lst xs)) (e : ixN xs.length i = some j) (q : R (upd H p (.lst (xs.set j v)))) : rSetL (.ref p) (.int i) v H R := ⟨p, xs, i, j, rfl, rfl, h, e, q⟩
theorem ixN_nat {m j : Nat} (h : j < m) : ixN m (j : Int) = some j := by
  unfold ixN
  rw [if_pos (Int.natCast_nonneg _), if_pos (by omega)]
  rw [Int.toNat_natCast]
theorem atI_nat' {α : Type} {xs : List α} {j : Nat} {v : α} (h : xs[j]? = some v) : atI xs (j : Int) = some v := by
  unfold atI
  rw [ixN_nat (List.getElem?_eq_some_iff.mp h).1]
  exact h
/-! ### while -/
theorem w_while {A B E : L2.St → Hp → Prop} {R : VK} {c : TT} (W : Nat → L2.St → Hp → Prop) (m : Nat) (h0 : W m σ H) (h : ∀ m σ H, W m σ H →
    c σ H fun b H1 => if b = true then ∃ N : L2.St → Hp → Prop, (∀ σ' H', N σ' H' → ∃ m', m' < m ∧ W m' σ' H') ∧ tb (Ends.mk N R A N) σ H1 else A σ H1) : tWhile c tb (Ends.mk A R B E) σ H := ⟨W, ⟨m, h0⟩, h⟩
theorem w_aug {A B E : L2.St → Hp → Prop} {R : VK} {i : Nat} {ti : TIp} {v : V} (hv : σ[i]? = some (some v)) (h : te σ H fun y H1 => ti v y H1 fun z H2 => gName i z σ H2 A) : tAug i te ti (Ends.mk A R B E) σ H := ⟨v, hv, h⟩
end
end Plk
namespace Plk
open PySem PySem.Spec PyProof.Rows L2
section
variable {g : TG} {tb : TS} {D : Ends} {σ σ' : L2.St} {H H0 : Hp} {K : PySem.W.Frag} {a b p C dx : Addr} {tt : TT} {te tl tbb tcc ta : TE} {vs : List Nat} {Q : VK} {tA : TA} {xs ys : List V} {f : Str} {fs : List (Str × V)} {v y : V} {i : Int} {j : Nat}
theorem cxOf_K {CX : CXT} {P : Program} {w : World} {K : PySem.W.Frag} {mg : Str → Option Value} {base : Heap} {N : List Str} {q : Str} {sc : Scope} {f : Addr} {cd : Value} {A : Around} {outer : List Env} {s : Shared} {H : Hp} {E : XK} : (cxOf CX P w K mg base N q sc f cd A outer s H E).K = K := rfl
theorem w_start {t : TS} {N : List Str} {vs : List V} (e : start N vs = σ) (h : t D σ H) : t D (start N vs) H := by
  rw [e]
  exact h
theorem w_gname' {n : Nat} {R : L2.St → Hp → Prop} (e : σ.set n (some v) = σ') (h : R σ' H) : gName n v σ H R := by
  subst e
  exact h
theorem w_fld1 (h : te σ H fun x H1 => ∃ a C dx fs v, x = .ref a ∧ H1 a = some (.ins C dx fs) ∧ Cls K C ∧ NoAttr K C f ∧ fs.lookup f = some v ∧ Q v H1) : tFld K te f σ H Q := h
theorem w_fldG {R : V → Prop} (h : H a = some (.ins C dx fs)) (c : Cls K C) (n : NoAttr K C f) (l : fs.lookup f = some v) (q : R v) : ∃ a' C dx fs v, V.ref a = .ref a' ∧ H a' = some (.ins C dx fs) ∧ Cls K C ∧ NoAttr K C f ∧ fs.lookup f = some v ∧ R v := ⟨a, C, dx, fs, v, rfl, h, c, n, l, q⟩
theorem w_fldS {A : L2.St → Hp → Prop} (h : H a = some (.ins C dx fs)) (c : Cls K C) (n : NoAttr K C f) (l : fs.length < 1000) (q : A σ (upd H a (.ins C dx (putF f y fs)))) :
    ∃ a' C dx fs, V.ref a = .ref a' ∧ H a' = some (.ins C dx fs) ∧ Cls K C ∧ NoAttr K C f ∧ fs.length < 1000 ∧ A σ (upd H a' (.ins C dx (putF f y fs))) := ⟨a, C, dx, fs, rfl, h, c, n, l, q⟩
theorem w_ixLn (h : SqL K H p xs) (e : xs[j]? = some v) (q : Q v H) : rIxL K (.ref p) (nV j) H Q := ⟨p, xs, j, v, rfl, rfl, h, atI_nat' e, q⟩
theorem w_ixTn (h : SqT K H p xs) (e : xs[j]? = some v) (q : Q v H) : rIxT K (.ref p) (nV j) H Q := ⟨p, xs, j, v, rfl, rfl, h, atI_nat' e, q⟩
theorem w_newI {A : Addr → Prop} (h : ∀ p, H p = none → A p) : ∀ p, H p = none → A p := h
theorem new_ex {H' : Hp} {o : HO} (e : L2.upd H p o = H') (h : H p = none) : Ex H H' := e ▸ Ex.new h
theorem new_at {H' : Hp} {o : HO} (e : L2.upd H p o = H') : H' p = some o := e ▸ upd_same
theorem new_of {H' : Hp} {o : HO} (e : L2.upd H p o = H') : ∀ b, b ≠ p → H' b = H b := fun b hb => by
  rw [← e]
  exact upd_ne hb
theorem w_strOk {z : Str} {A : Prop} (q : A) : (∃ a, V.str z = .str a) ∧ A := ⟨⟨z, rfl⟩, q⟩
theorem w_lstOk {A : Prop} (h : SqL K H p xs) (q : A) : tyV K "list" (.ref p) H ∧ A := ⟨.inl ⟨rfl, _, h⟩, q⟩
theorem w_sz {A : Prop} {n : Nat} (h : n ≤ 1000000) (q : A) : n ≤ sizeLine ∧ A := ⟨sz_of h, q⟩
theorem w_unop {r : V → Hp → VK → Prop} (h : ta σ H fun x H1 => r x H1 Q) : tUn r ta σ H Q := h
theorem w_chain {r r' : R2} (h : ta σ H fun x H1 => tbb σ H1 fun y H2 => r x y H2 fun z H3 => ∃ k, z = .bl k ∧ if k = true then tcc σ H3 fun w H4 => r' y w H4 Q else Q (.bl false) H3) : tChain r r' ta tbb tcc σ H Q := h
theorem w_andV (h : ta σ H fun x H1 => ∃ c, x = .bl c ∧ if c = true then tbb σ H1 Q else Q (.bl false) H1) : tAndV ta tbb σ H Q := h
theorem w_orV (h : ta σ H fun x H1 => ∃ c, x = .bl c ∧ if c = true then Q (.bl true) H1 else tbb σ H1 Q) : tOrV ta tbb σ H Q := h
theorem w_notV (h : ta σ H fun x H1 => ∃ c, x = .bl c ∧ Q (.bl (!c)) H1) : tNotV ta σ H Q := h
/-! ### all but one object is kept -/
def Off (p : Addr) (H H' : Hp) : Prop := ∀ b o, b ≠ p → H b = some o → H' b = some o
theorem Off.refl (p : Addr) (H : Hp) : Off p H H := fun _ _ _ h => h
theorem Off.trans {H1 H2 H3 : Hp} (a : Off p H1 H2) (b : Off p H2 H3) : Off p H1 H3 := fun c o hc h => b c o hc (a c o hc h)
theorem Ex.off {H1 H2 : Hp} (e : Ex H1 H2) : Off p H1 H2 := fun c o _ h => e c o h
theorem Off.upd {o : HO} : Off p H (upd H p o) := fun c u hc h => by
  rw [upd_ne hc]
  exact h
theorem Off.go {H1 H2 : Hp} {o : HO} (k : Off p H1 H2) (n : b ≠ p) (h : H1 b = some o) : H2 b = some o := k b o n h
theorem Off.goL {H1 H2 : Hp} (k : Off p H1 H2) (hp : H1 p = some (.ins C dx fs)) (h : H1 b = some (.lst xs)) : H2 b = some (.lst xs) := k b _ (ne_of h hp (by intro z; cases z)) h
theorem Off.goT {H1 H2 : Hp} (k : Off p H1 H2) (hp : H1 p = some (.ins C dx fs)) (h : H1 b = some (.tup xs)) : H2 b = some (.tup xs) := k b _ (ne_of h hp (by intro z; cases z)) h
theorem new_off {H' : Hp} {o : HO} (e : L2.upd H p o = H') : Off p H H' := e ▸ Off.upd
/-- an instance that was just made, behind its __init__ -/
theorem made_ex {x d : Addr} {H1 H2 : Hp} (hx : H1 x = none) (hd : H1 d = none) (k : Off x (L2.upd (L2.upd H1 d (.own x)) x (.ins C d [])) H2) : Ex H1 H2 := fun b o e => by
  have n1 : b ≠ x := ne_of_none e hx
  have n2 : b ≠ d := ne_of_none e hd
  exact k b o n1 (by rw [upd_ne n1, upd_ne n2]; exact e)
theorem rep1 {x : V} (n : Nat) : (List.replicate n [x]).flatten = List.replicate n x := by
  induction n with
  | zero => rfl
  | succ n ih => rw [List.replicate_succ, List.flatten_cons, ih, List.replicate_succ]; rfl
/-- [x] * n -/
theorem w_rep1 {p : Addr} {x : V} {n : Nat} (h : H p = some (.lst [x])) (hn : n ≤ 1000000) (q : ∀ p', H p' = none → Q (.ref p') (L2.upd H p' (.lst (List.replicate n x)))) : rRep (.ref p) (nV n) H Q :=
  ⟨p, n, [x], rfl, rfl, h, by omega, by omega, by rw [Int.toNat_natCast]; exact sz_of (by simpa using hn), fun p' hp' => by rw [Int.toNat_natCast, rep1]; exact q p' hp'⟩
/-- a heap that knows one object -/
def oneH (p : Addr) (o : HO) : Hp := fun b => if b = p then some o else none
theorem oneH_at {p : Addr} {o : HO} : oneH p o p = some o := if_pos rfl
theorem Ex.one {p : Addr} {o : HO} (h : H p = some o) : Ex (oneH p o) H := fun b u e => by
  unfold oneH at e
  by_cases hb : b = p
  · rw [if_pos hb] at e
    rw [hb, h]
    exact e
  · rw [if_neg hb] at e
    cases e
theorem Off.mut {a l : Addr} {o : HO} {H' : Hp} (k : Off a H H') (h : H l = none) : Off a H (L2.upd H' l o) := fun b u n e => by
  rw [upd_ne (ne_of_none e h)]
  exact k b u n e
theorem Off.free {a l : Addr} {H' : Hp} {o : HO} (k : Off a H H') (h : H' l = none) (ha : H' a = some o) : H l = none := by
  cases e : H l with
  | none => rfl
  | some u =>
    by_cases n : l = a
    · rw [n, ha] at h
      cases h
    · rw [k l u n e] at h
      cases h
end
end Plk

/-! errors, more readings -/
namespace Plk
open PySem PySem.Spec PyProof.Rows L2
section
variable {X : Cx} {W : WX} {x : Str} {C : Addr}
/-- raise X('m'), X without an own __init__ -/
def tRaiseC (C : Addr) (W : WX) : TS := fun _ σ H => W (.ref C) none σ H
theorem ps_raiseC {bmB : List Value} {B newId initId : String} {m : Str} {j : Nat} {p p2 pos rp : Pos} (hc : X.calm = true) (tk : Takes X W) (F : ExcBaseFacts B newId initId bmB) (q : PySem.W.excIn X.K C bmB newId = true) (gC : X.mg x = some (.ref C)) (kC : PySem.W.keepIn X.K (.ref C) = true) (r : Raises X (.ref C)) (hg : Gl X x)
    (hdb : (x == ("__debug__" : Str)) = false := by decide) : PS X (.Raise (some (.Call (.Name x p) [.Constant (.str m) j p2] [] pos)) none rp) (tRaiseC C W) :=
  ps_raise hc tk (pmk_own F q gC kC r hg hdb)
/-- isinstance(e, c), e caught, of an own class whose errors hold no fields of their own -/
def rIsX (K : PySem.W.Frag) (cls : Value) (d : Option Addr) (a : Addr) : List V → Hp → VK → Prop := fun xs H Q => ∃ D, cls = .ref D ∧ d = none ∧ ExcC K D ∧ rIsE K D a xs H Q
theorem call_isX {a : Addr} {cls : Value} {d : Option Addr} {oe : Obj} {pn : List (Addr × Obj)} (hz : Zc cls d oe) (hf : ∃ vs, oe.data = .fields vs) : CallR (X.suite a ((a, oe) :: pn)) (.builtin "isinstance") (rIsX X.K cls d a) := by
  intro pins s σ H xs us Q I r h
  obtain ⟨D, rfl, rfl, C, h⟩ := h
  exact call_isE C hz hf pins s σ H xs us Q I r h
def rDivN : List V → Hp → VK → Prop := fun xs H Q => ∃ n m : Nat, xs = [nV n, nV m] ∧ (0 < m ∧ m < 1073741824) ∧ ∀ p, H p = none → Q (.ref p) (L2.upd H p (.tup [nV (n / m), nV (n % m)]))
theorem call_divN : CallR X (.builtin "divmod") rDivN := by
  intro pins s σ H xs us Q I r h
  obtain ⟨n, m, rfl, hc, q⟩ := h
  exact call_divmodR pins s σ H _ us Q I r ⟨n, m, rfl, ⟨by omega, by omega⟩, fun p hp => by rw [← Int.natCast_ediv, ← Int.natCast_emod]; exact q p hp⟩
def rIxSn : R2 := fun x y H Q => ∃ (z : Str) (i c : Nat), x = .str z ∧ y = nV i ∧ z.length ≤ sizeLine ∧ z.cps.toList[i]? = some c ∧ Q (.str ⟨#[c]⟩) H
end
section
variable {X : Cx} {x n : Str} {c : Value} {i : Nat} {body suite : List Stmt} {b0 : Stmt} {np pos pos' : Pos} {tb : WX → TS} {ts : Addr → Value → Option Addr → TS} {Wout : WX}
def tTry (K : PySem.W.Frag) (c : Value) (i : Nat) (ts : Addr → Value → Option Addr → TS) (Wout : WX) (tb : WX → TS) : TS := fun D σ H => tb (wAs K c i ts Wout D) D σ H
theorem ps_try (hs : X.stack = X.env :: X.outer) (hf : X.env.frame = some X.env.locals) (hN : X.N.Nodup) (hi : X.N[i]? = some n) (hln : X.env.kindOf n = some .local) (hc : Names X x c) (tk : Takes X Wout)
    (hb : ∀ (W : WX) (pn : List (Addr × Obj)) (xe : Value → Shared → Prop), Takes (X.tr pn xe) W → PassesOwn (model X.prog X.w) X.A X.env xe → PSs (X.tr pn xe) body (tb W))
    (hsu : ∀ (a : Addr) (oe : Obj) (cls : Value) (d : Option Addr) (pn : List (Addr × Obj)), Zc cls d oe → (∃ vs, oe.data = .fields vs) → PSs (X.suite a ((a, oe) :: pn)) (b0 :: suite) (ts a cls d)) :
    PS X (.Try body [.ExceptHandler (some (.Name x np)) (some n) (b0 :: suite) pos'] [] [] pos) (tTry X.K c i ts Wout tb) := ps_try_as hs hf hN hi hln hc tk hb hsu
end
section
variable {σ : L2.St} {H : Hp} {Q : VK} {K : PySem.W.Frag} {D : Ends} {a b p C : Addr} {c : Value} {i n m : Nat} {ts : Addr → Value → Option Addr → TS} {Wout W : WX} {tb : WX → TS} {cls : Value} {d : Option Addr} {v : V}
theorem w_try (h : tb (wAs K c i ts Wout D) D σ H) : tTry K c i ts Wout tb D σ H := h
theorem w_raise (h : W (.ref C) none σ H) : tRaiseC C W D σ H := h
theorem w_catch {A B E : L2.St → Hp → Prop} {R : VK} (h : PySem.W.exmOne K cls c = some true) (q : ∀ a, H a = none → ts a cls d { nx := fun σ' H' => A (σ'.set i none) H', rt := R, bk := fun σ' H' => B (σ'.set i none) H', ct := fun σ' H' => E (σ'.set i none) H' } (σ.set i (some (.ref a))) H) :
    wAs K c i ts Wout (Ends.mk A R B E) cls d σ H := ⟨true, h, fun _ => q, fun z => Bool.noConfusion z⟩
theorem w_thru (h : PySem.W.exmOne K cls c = some false) (q : Wout cls d σ H) : wAs K c i ts Wout D cls d σ H := ⟨false, h, (fun z => Bool.noConfusion z), fun _ => q⟩
theorem w_isXo {u : Bool} {E C : Addr} (x : ExcC K E) (h : PySem.W.kitOne K (.ref E) (.ref C) = some u) (q : Q (.bl u) H) : rIsX K (.ref E) none a [.ref a, .ref C] H Q := ⟨E, rfl, rfl, x, .ref C, .ref C, u, rfl, fun _ z => z, h, q⟩
theorem w_isXt {u : Bool} {E : Addr} {t : String} (x : ExcC K E) (h : PySem.W.kitOne K (.ref E) (.type t) = some u) (q : Q (.bl u) H) : rIsX K (.ref E) none a [.ref a, .ty t] H Q := ⟨E, rfl, rfl, x, .ty t, .type t, u, rfl, fun _ z => z, h, q⟩
theorem w_divN (h : 0 < m ∧ m < 1073741824) (q : ∀ p, H p = none → Q (.ref p) (L2.upd H p (.tup [nV (n / m), nV (n % m)]))) : rDivN [nV n, nV m] H Q := ⟨n, m, rfl, h, q⟩
theorem w_isiI {n : Int} {u : Bool} {t : String} (h : PySem.W.kitOne K (.type "int") (.type t) = some u) (q : Q (.bl u) H) : rIsi K [.int n, .ty t] H Q := ⟨_, _, _, _, u, rfl, .ty t, .base (.int n), h, q⟩
theorem w_isiS {z : Str} {u : Bool} {t : String} (h : PySem.W.kitOne K (.type "str") (.type t) = some u) (q : Q (.bl u) H) : rIsi K [.str z, .ty t] H Q := ⟨_, _, _, _, u, rfl, .ty t, .base (.str z), h, q⟩
theorem w_ixSn {z : Str} {j ch : Nat} (h : z.length ≤ 1000000) (e : z.cps.toList[j]? = some ch) (q : Q (.str ⟨#[ch]⟩) H) : rIxS (.str z) (nV j) H Q := ⟨z, j, ch, rfl, rfl, sz_of h, atI_nat' e, q⟩
theorem w_zfillN {z : Str} {j : Nat} (h : j ≤ 100000) (q : Q (.str (Txt.zfill z (j : Int))) H) : rZfill (.str z) [nV j] H Q := ⟨z, j, rfl, rfl, by
  unfold PadOk fitsSsize
  rw [Int.toNat_natCast]
  have h1 : Builtin.Str.tooLong j = false := by
    unfold Builtin.Str.tooLong
    exact decide_eq_false (fun z => absurd (sz_of (n := j) (by omega)) (Nat.not_le_of_gt z))
  rw [h1]
  have h2 : decide ((j : Int) < -(2 ^ 63 : Int)) = false := decide_eq_false (by omega)
  have h3 : decide ((j : Int) ≥ 2 ^ 63) = false := decide_eq_false (by omega)
  rw [h2, h3]
  rfl, q⟩
end
theorem w_methG {H : Hp} {a C dx : Addr} {fs : List (Str × V)} {PC : Addr → Prop} {m : Str} {R : Prop} (h : H a = some (.ins C dx fs)) (c : PC C) (l : fs.lookup m = none) (q : R) :
    ∃ a' C dx fs, V.ref a = .ref a' ∧ H a' = some (.ins C dx fs) ∧ PC C ∧ fs.lookup m = none ∧ R := ⟨a, C, dx, fs, rfl, h, c, l, q⟩
theorem w_tYes {σ : L2.St} {H : Hp} {R : Bool → Hp → Prop} (h : R true H) : tYes σ H R := h
theorem w_iteNF {A B : Prop} (h : A) : if (!false) = true then A else B := by
  rw [Bool.not_false, if_pos rfl]
  exact h
theorem w_iteNT {A B : Prop} (h : B) : if (!true) = true then A else B := by
  rw [Bool.not_true, if_neg Bool.false_ne_true]
  exact h
theorem Ex.new2 {H : Hp} {y d : Addr} {o u : HO} (hy : H y = none) (hd : H d = none) (n : d ≠ y) : Ex H (L2.upd (L2.upd H d o) y u) := (Ex.new hd).trans (Ex.new (by
  rw [upd_ne (fun z => n z.symm)]
  exact hy))
theorem ins_fs {C D dx dy : Addr} {fs gs : List (Str × V)} (h : HO.ins C dx fs = .ins D dy gs) : fs = gs := by
  cases h
  rfl
end Plk

/-! the head: the top's run once for each thing that is asked of its end (three runs, three declarations) -/
namespace Plk
open PySem PySem.W PySem.Calls PyProof.Rows HandSHeadRun
def obK (K : Params → PySem.W.Frag) (as : List Addr) (e : ∀ P, as = (K P).map (·.1)) (s : SharedT) : (kHook K as e).α := as.map (getT s)
theorem obK_eq (K : Params → PySem.W.Frag) (as : List Addr) (e : ∀ P, as = (K P).map (·.1)) (s : SharedT) : obK K as e s = (kHook K as e).obs s.abs := by
  have h : getT s = s.abs.heap.get? := funext (getT_eq s)
  unfold obK
  rw [h]
  rfl
theorem map3 {α β γ δ : Type} {o : Option α} {f : α → β} {g : α → γ} {k : α → δ} {x : β} {y : γ} {z : δ} (h1 : o.map f = some x) (h2 : o.map g = some y) (h3 : o.map k = some z) : o.map (fun s => (f s, g s, k s)) = some (x, y, z) := by
  cases o with
  | none => cases h1
  | some a =>
    rw [Option.map_some] at h1 h2 h3 ⊢
    rw [Option.some.inj h1, Option.some.inj h2, Option.some.inj h3]
theorem head3 {r : OpenRow} {q : Program} {H : Hook} {ob : SharedT → H.α} {M : Nat} {loose : List PySem.Str} {d : DefRec} {kwd : List (PySem.Str × PySem.Expr)} (ho : ∀ s : SharedT, ob s = H.obs s.abs)
    (e : opening r.prog = plainProg r.prog.main.scope.names) (f : ∀ s, fenceModules? r.prog s = some s)
    (run1 : ∀ w os, (endF (stepQ (denQ tabQ) r.prog w) M r.prog w os).map (fun s => looksF r.prog (boot_heap w.params) s.abs) = some true)
    (run2 : ∀ w os, (endF (stepQ (denQ tabQ) r.prog w) M r.prog w os).map (fun s => seenQ q loose (importedModules r.prog.main.body) (fun s => xlAt q [] s && recOk r.toRowW.records s) s.abs) = some (openGood q loose))
    (run3 : ∀ w os, (endF (stepQ (denQ tabQ) r.prog w) M r.prog w os).map (fun s => ob s) = some (H.val w))
    (hdef : defOf q r.name = some (d, kwd)) (hp : r.prog.theDef r.name = some (d.params, d.body, d.scope)) (hk : kwWritten? d.params.kwonlyargs d.params.kw_defaults = some kwd)
    (hwr : (!r.writes || r.records.isEmpty) = true) (k1 : r.wellSaid = true) (ok : (chainsOk q && opensWell r.prog && (frees r.toRowW && r.within.isEmpty)) = true) (hb : r.prog.bare) (hw : r.toRowW.promised)
    (call : WalkO q loose (XL q []) H.says r.toRowW d kwd fun f vs => PySem.call f vs) : r.Holds :=
  head_any ho e f (fun w os => map3 (run1 w os) (run2 w os) (run3 w os)) hdef hp hk hwr k1 ok hb hw call
section
open PySem.Spec L2
/-- the end of a law whose defs may let exceptions out among themselves -/
theorem walk_law {l : PySem.W.OpenLaw} {n k : Nat} {q : Program} {lo : List PySem.Str} {XP : (PySem.Str → Option Value) → Heap → Prop} {YP : World → Heap → Prop} {d : DefRec} {x : PySem.Str} (h1 : l.most = some n) (h2 : n ≤ sizeLine) (h3 : d.params.defaults = []) (h4 : Room k callerA)
    (F : ∀ (w : World) (mg : PySem.Str → Option Value) (fa : Addr) (h : Heap), YP w h → h.Ns mainGlobals mg → mg d.name = some (.ref fa) → ∃ (K : PySem.W.Frag) (fd : FuncData) (sp : Sp), K.In h ∧
        (∀ (s : Shared) (u : Value), BindsTo s fd ⟨[u], []⟩ [(x, u)]) ∧ (∀ (H : Hp) (a : Addr) (ns : List Int), ns.length ≤ n → SqL K H a (ns.map V.int) → sp [.ref a] H (fun v _ => v = .bl true) fun _ _ _ => False) ∧
        ∀ base : Heap, K.In base → base.Ns mainGlobals mg → FnOk l.prog w K mg base (L2.CX l.prog w) k fa fd [x] sp) : PySem.W.WalkO q lo XP YP l.row.toRowW d [] (fun f vs => PySem.call f vs) :=
  Att.attach_call h1 h3 fun w _ s1 mg _ fa _ _ _ _ a _ ns G Y _ _ _ hm ob hi len hg => by
    obtain ⟨K, fd, sp, KX, hb, hs, hF⟩ := F w mg fa _ Y G.T.g hm
    refine law_call KX G.T.g G.T.b G.T.builtins G.T.nolimit hg ob hi (Nat.le_trans len h2) h4 hF hb (fun H _ hS => hs H a ns len hS) fun H e s2 z => ?_
    obtain ⟨_, _, _, _, _, _, _, _, _, _, _, _, f⟩ := z
    exact f
end
end Plk

/-! a rule's walk -/
namespace Plk
open PySem PySem.Spec PyProof.Rows L2
def dbl (rule last one : Nat) : Nat := if last < one <<< 1 then (one <<< 1) ^^^ rule else one <<< 1
/-- what 1 comes to by so many doublings -/
def orb (rule last : Nat) : Nat → Nat
  | 0 => 1
  | n + 1 => dbl rule last (orb rule last n)
/-- 1 comes back for the first time behind n doublings -/
structure Back (rule last n : Nat) : Prop where
  pos : 0 < n
  small : n ≤ 600
  back : orb rule last n = 1
  first : ∀ j, 0 < j → j < n → orb rule last j ≠ 1
/-- checked by running -/
def backB (rule last : Nat) : Nat → Nat → Bool
  | 0, one => decide (one = 1)
  | n + 1, one => decide (one ≠ 1) && backB rule last n (dbl rule last one)
theorem backB_ok {rule last : Nat} : ∀ (n k : Nat), backB rule last n (orb rule last k) = true → orb rule last (k + n) = 1 ∧ ∀ j, k ≤ j → j < k + n → orb rule last j ≠ 1
  | 0, k, h => ⟨of_decide_eq_true h, fun j h1 h2 => by omega⟩
  | n + 1, k, h => by
    unfold backB at h
    obtain ⟨h1, h2⟩ := Bool.and_eq_true_iff.mp h
    have h3 : backB rule last n (orb rule last (k + 1)) = true := h2
    obtain ⟨e, f⟩ := backB_ok n (k + 1) h3
    refine ⟨by rw [← e]; congr 1; omega, fun j a b => ?_⟩
    by_cases hj : j = k
    · rw [hj]
      exact of_decide_eq_true h1
    · exact f j (by omega) (by omega)
theorem Back.of {rule last n : Nat} (h0 : n + 1 ≤ 600) (h : backB rule last n (dbl rule last 1) = true) : Back rule last (n + 1) := by
  obtain ⟨e, f⟩ := backB_ok (rule := rule) (last := last) n 1 h
  exact ⟨Nat.succ_pos _, h0, by rw [← e]; congr 1; omega, fun j a b => f j a (by omega)⟩
def orbL (rule last n : Nat) : List Nat := (List.range n).map (orb rule last)
theorem orbL_len (rule last n : Nat) : (orbL rule last n).length = n := by
  unfold orbL
  rw [List.length_map, List.length_range]
theorem orbL_succ (rule last n : Nat) : orbL rule last (n + 1) = orbL rule last n ++ [orb rule last n] := by
  unfold orbL
  rw [List.range_succ, List.map_append]
  rfl
/-- a good rule: all symbols but 0 are doublings of 1 -/
structure Good (rule width last : Nat) : Prop where
  lo : 16 ≤ rule
  hi : rule < 512
  odd : rule % 2 = 1
  bits : Builtin.Int.intBits (rule : Int) = width + 1
  top : last + 1 = 2 ^ width
  back : Back rule last last
  wid : width ≤ 8
  lows : ∀ j, j < last → orb rule last j ≤ last
/-- where a symbol stands among the doublings of 1 -/
def logL (rule last n : Nat) : List Nat := (List.range n).foldl (fun l k => l.set (orb rule last k) k) (List.replicate (last + 1) 0)
theorem logL_len (rule last : Nat) : ∀ n, (logL rule last n).length = last + 1 := by
  intro n
  induction n with
  | zero => simp [logL]
  | succ n ih =>
    unfold logL at ih ⊢
    rw [List.range_succ, List.foldl_append]
    simp only [List.foldl_cons, List.foldl_nil, List.length_set]
    exact ih
theorem logL_succ (rule last n : Nat) : logL rule last (n + 1) = (logL rule last n).set (orb rule last n) n := by
  unfold logL
  rw [List.range_succ, List.foldl_append]
  rfl
end Plk

/-! numbers by sixteens -/
namespace Plk
open PySem PySem.Spec PyProof.Rows L2
def sS (l : List Nat) : Str := ⟨l.toArray⟩
theorem sS_len (l : List Nat) : (sS l).length = l.length := by
  show l.toArray.size = _
  rw [List.size_toArray]
theorem sS_list (l : List Nat) : (sS l).cps.toList = l := by
  show l.toArray.toList = l
  rfl
theorem sS_of (z : Str) : sS z.cps.toList = z := by
  cases z
  rfl
theorem sS_app (k l : List Nat) : sS k ++ sS l = sS (k ++ l) := by
  show Str.mk (k.toArray ++ l.toArray) = Str.mk (k ++ l).toArray
  rw [List.append_toArray]
theorem sS_cons (c : Nat) (l : List Nat) : (⟨#[c]⟩ : Str) ++ sS l = sS (c :: l) := sS_app [c] l
theorem sS_inj {k l : List Nat} (h : sS k = sS l) : k = l := by
  rw [← sS_list k, h, sS_list]
abbrev figs : List Nat := [48, 49, 50, 51, 52, 53, 54, 55, 56, 57, 97, 98, 99, 100, 101, 102]
theorem figs_eq : (Str.ofString "0123456789abcdef").cps.toList = figs := by decide +kernel
def sg (d : Nat) : Nat := if d < 10 then 48 + d else 87 + d
def fv (c : Nat) : Nat := if c < 58 then c - 48 else c - 87
theorem figs_at : ∀ d, d < 16 → figs[d]? = some (sg d) := by decide
theorem fv_sg : ∀ d, d < 16 → fv (sg d) = d := by decide
theorem sg_in : ∀ d, d < 16 → sg d ∈ figs := by decide
theorem fv_lt : ∀ c, c ∈ figs → fv c < 16 := by decide
theorem find_fig : ∀ c, c ∈ figs → Txt.find (Str.ofString "0123456789abcdef") ⟨#[c]⟩ = (fv c : Int) := by decide +kernel
/-- the j low figures of b -/
def hexN (b : Nat) : Nat → List Nat
  | 0 => []
  | j + 1 => sg (b / 16 ^ j % 16) :: hexN b j
theorem hexN_len (b : Nat) : ∀ j, (hexN b j).length = j
  | 0 => rfl
  | j + 1 => congrArg (· + 1) (hexN_len b j)
theorem hexN_pad {b j : Nat} (h : b / 16 ^ j = 0) : ∀ m, hexN b (j + m) = List.replicate m 48 ++ hexN b j
  | 0 => rfl
  | m + 1 => by
    have e : b / 16 ^ (j + m) = 0 := by
      have h1 : b < 16 ^ j := by
        rcases Nat.div_eq_zero_iff.mp h with z | z
        · exact absurd z (Nat.ne_of_gt (Nat.pow_pos (by decide)))
        · exact z
      exact Nat.div_eq_of_lt (Nat.lt_of_lt_of_le h1 (Nat.pow_le_pow_right (by decide) (by omega)))
    show sg (b / 16 ^ (j + m) % 16) :: hexN b (j + m) = _
    rw [hexN_pad h m, e]
    rfl
theorem hexN_get (b : Nat) : ∀ (w i : Nat), i < w → (hexN b w)[i]? = some (sg (b / 16 ^ (w - 1 - i) % 16))
  | w + 1, 0, _ => rfl
  | w + 1, i + 1, h => by
    show (hexN b w)[i]? = _
    rw [hexN_get b w i (by omega)]
    congr 5
    omega
theorem hexN_mem {b c : Nat} : ∀ {j}, c ∈ hexN b j → c ∈ figs
  | 0, h => by cases h
  | j + 1, h => by
    rcases List.mem_cons.mp h with e | h
    · rw [e]
      exact sg_in _ (Nat.mod_lt _ (by decide))
    · exact hexN_mem h
/-- what a text of figures says -/
def rd : List Nat → Nat → Option Nat
  | [], n => some n
  | c :: t, n => if c ∈ figs then rd t (16 * n + fv c) else none
theorem rd_hexN (b : Nat) : ∀ (j n : Nat), rd (hexN b j) n = some (n * 16 ^ j + b % 16 ^ j)
  | 0, n => by
    show some n = _
    rw [Nat.pow_zero, Nat.mod_one, Nat.mul_one]; rfl
  | j + 1, n => by
    show (if _ then _ else _) = _
    rw [if_pos (sg_in _ (Nat.mod_lt _ (by decide))), fv_sg _ (Nat.mod_lt _ (by decide)), rd_hexN b j]
    congr 1
    have h1 : b % 16 ^ (j + 1) = 16 ^ j * (b / 16 ^ j % 16) + b % 16 ^ j := by
      rw [Nat.pow_succ, Nat.mod_mul, Nat.add_comm]
    rw [h1, Nat.pow_succ, Nat.add_mul, Nat.mul_comm (b / 16 ^ j % 16), ← Nat.add_assoc]
    congr 2
    rw [Nat.mul_comm 16 n, Nat.mul_assoc, Nat.mul_comm 16 (16 ^ j)]
theorem rd_lt : ∀ (l : List Nat) (n m : Nat), rd l n = some m → m < (n + 1) * 16 ^ l.length
  | [], n, m, h => by
    have e : n = m := Option.some.inj h
    subst e
    show n < (n + 1) * 16 ^ 0
    omega
  | c :: t, n, m, h => by
    have h' : (if c ∈ figs then rd t (16 * n + fv c) else none) = some m := h
    by_cases hc : c ∈ figs
    · rw [if_pos hc] at h'
      have h2 := rd_lt t _ m h'
      have h3 := fv_lt c hc
      refine Nat.lt_of_lt_of_le h2 ?_
      show (16 * n + fv c + 1) * 16 ^ t.length ≤ (n + 1) * 16 ^ (t.length + 1)
      rw [Nat.pow_succ, Nat.mul_comm (16 ^ t.length) 16, ← Nat.mul_assoc]
      exact Nat.mul_le_mul_right _ (by omega)
    · rw [if_neg hc] at h'
      cases h'
/-- zfill -/
theorem zfill_hex {b j w : Nat} (h : b / 16 ^ j = 0) (hj : j ≤ w) : Txt.zfill (sS (hexN b j)) (w : Int) = sS (hexN b w) := by
  obtain ⟨m, rfl⟩ := Nat.le.dest hj
  unfold Txt.zfill
  rw [sS_len, hexN_len]
  cases m with
  | zero =>
    rw [if_pos (by omega)]
    rfl
  | succ m =>
    rw [if_neg (by omega), Int.toNat_natCast]
    have e : zfilled (sS (hexN b j)) (j + (m + 1) - j) = Builtin.Str.padded (sS (hexN b j)) (j + (m + 1) - j) 0 48 := by
      have hm : ∀ c, (sS (hexN b j)).cps[0]? = some c → c ∈ figs := fun c hc => by
        rw [← Array.getElem?_toList, sS_list] at hc
        exact hexN_mem (List.mem_of_getElem? hc)
      unfold zfilled
      split
      · rename_i hc
        exact absurd (hm _ hc) (by decide)
      · rename_i hc
        exact absurd (hm _ hc) (by decide)
      · rfl
    rw [e, hexN_pad h (m + 1)]
    have e2 : j + (m + 1) - j = m + 1 := by omega
    rw [e2]
    show Str.mk (Array.replicate (m + 1) 48 ++ (hexN b j).toArray ++ Array.replicate 0 48) = Str.mk (List.replicate (m + 1) 48 ++ hexN b j).toArray
    congr 1
    apply Array.toList_inj.mp
    simp
theorem join_c : ∀ l : List Nat, Txt.join (Str.ofString "") (l.map fun c => (⟨#[c]⟩ : Str)) = sS l := by
  intro l
  unfold Txt.join
  have h : ∀ (k : List Nat) (a : Array Nat), ((k.map fun c => (⟨#[c]⟩ : Str)).foldl (fun acc p => acc ++ (Str.ofString "").cps ++ p.cps) a) = a ++ k.toArray := by
    intro k
    induction k with
    | nil => intro a; simp
    | cons c k ih =>
      intro a
      show List.foldl _ (a ++ (Str.ofString "").cps ++ #[c]) (k.map _) = _
      rw [ih]
      have e : (Str.ofString "").cps = #[] := by decide +kernel
      rw [e]
      simp
  cases l with
  | nil => rfl
  | cons c l =>
    show Str.mk (List.foldl _ #[c] (l.map fun c => (⟨#[c]⟩ : Str))) = _
    rw [h l #[c]]
    show Str.mk _ = Str.mk _
    congr 1
    simp
theorem shr4 (b m : Nat) : (b >>> (4 * m)) &&& 15 = b / 16 ^ m % 16 := by
  rw [Nat.shiftRight_eq_div_pow, Nat.pow_mul, show (15 : Nat) = 2 ^ 4 - 1 from rfl, Nat.and_two_pow_sub_one_eq_mod]
theorem shl4_or {n d : Nat} (h : d < 16) : n <<< 4 ||| d = 16 * n + d := by
  rw [← Nat.shiftLeft_add_eq_or_of_lt (i := 4) (by exact h), Nat.shiftLeft_eq, Nat.mul_comm]
end Plk

/-! a script's cells -/
namespace Plk
open PySem PySem.Spec PyProof.Rows L2
def cellX (ns : List Int) (k : Nat) : Nat := 7919 * k + 101 + (if 0 < ns.length then (ns.getD (7 * k % ns.length) 0 % (1000003 : Nat)).toNat * (k + 3) else 0)
def cell (ns : List Int) (k : Nat) : Int := if k < ns.length then ns.getD k 0 else (cellX ns k * cellX ns k % 1000003 : Nat)
theorem ns_at {ns : List Int} {k : Nat} (h : k < ns.length) : (ns.map V.int)[k]? = some (.int (ns.getD k 0)) := by
  rw [List.getElem?_map, List.getElem?_eq_getElem h, List.getD_eq_getElem?_getD, List.getElem?_eq_getElem h]
  rfl
theorem imod_lt (i : Int) {m : Nat} (h : 0 < m) : (i % (m : Int)).toNat < m := by
  have h1 := Int.emod_lt_of_pos i (b := (m : Int)) (by omega)
  have h2 := Int.emod_nonneg i (b := (m : Int)) (by omega)
  omega
def optV : Option Nat → V
  | none => .non
  | some n => nV n
theorem optV_inj : ∀ {x y : Option Nat}, optV x = optV y → x = y
  | none, none, _ => rfl
  | none, some _, h => by cases h
  | some _, none, h => by cases h
  | some n, some m, h => congrArg some (nV_inj h)
theorem optV_scal : ∀ (n : Nat) (y : Option Nat), scal (nV n) (optV y) = true
  | _, none => rfl
  | _, some _ => rfl
theorem optV_non (y : Option Nat) : decide (optV y = .non) = decide (y = none) := by
  cases y with
  | none => rfl
  | some n => rfl
/-- what a line says as a block -/
def numR (z : List Nat) (many limit : Nat) : Option Nat := if z.length ≠ many then none else (rd z 0).bind fun n => if limit ≤ n then none else some n
end Plk

set_option pp.deepTerms.threshold 9
namespace Prog
open PySem PySem.Spec PyProof.Rows L2 Plk
def top (i : Nat) : Stmt := PySem.Challenge.pw_spareplank_k81_blocks_as_texts.main.body.getD i (.Pass ⟨0, 0, 0, 0⟩)
abbrev s_NoField___init__ : Stmt := (inClass (top 3) 0)
abbrev s_NoBlock___init__ : Stmt := (inClass (top 5) 0)
abbrev s_figures_of : Stmt := (top 9)
abbrev s_shown_block : Stmt := (top 10)
abbrev s_read_block : Stmt := (top 11)
abbrev s_Blocks___init__ : Stmt := (inClass (top 14) 0)
abbrev s_Blocks_good : Stmt := (inClass (top 14) 1)
abbrev s_Blocks_symbols : Stmt := (inClass (top 14) 2)
abbrev s_doubled : Stmt := (top 18)
abbrev s_walk_of : Stmt := (top 19)
abbrev s_Field___init__ : Stmt := (inClass (top 20) 0)
abbrev s__law_cell : Stmt := (top 22)
abbrev s__law_rule : Stmt := (top 23)
abbrev s__law_hex : Stmt := (top 24)
abbrev s__law_sign : Stmt := (top 25)
abbrev s__law_number : Stmt := (top 26)
abbrev s__law_spoiled : Stmt := (top 27)
abbrev s__law_read : Stmt := (top 28)
abbrev s_law : Stmt := (top 29)
theorem sc_figures_of : FnScope ["blocks"] ["blocks"] (defScope s_figures_of) := ⟨rfl, rfl, rfl, by decide +kernel, rfl, by decide +kernel, by decide +kernel⟩
theorem sc_shown_block : FnScope ["blocks", "block", "found", "figure"] ["blocks", "block"] (defScope s_shown_block) := ⟨rfl, rfl, rfl, by decide +kernel, rfl, by decide +kernel, by decide +kernel⟩
theorem sc_read_block : FnScope ["blocks", "text", "block", "sign"] ["blocks", "text"] (defScope s_read_block) := ⟨rfl, rfl, rfl, by decide +kernel, rfl, by decide +kernel, by decide +kernel⟩
theorem sc_Blocks___init__ : FnScope ["self", "field", "many"] ["self", "field", "many"] (defScope s_Blocks___init__) := ⟨rfl, rfl, rfl, by decide +kernel, rfl, by decide +kernel, by decide +kernel⟩
theorem sc_Blocks_good : FnScope ["self", "block"] ["self", "block"] (defScope s_Blocks_good) := ⟨rfl, rfl, rfl, by decide +kernel, rfl, by decide +kernel, by decide +kernel⟩
theorem sc_doubled : FnScope ["one", "rule", "last"] ["one", "rule", "last"] (defScope s_doubled) := ⟨rfl, rfl, rfl, by decide +kernel, rfl, by decide +kernel, by decide +kernel⟩
theorem sc_walk_of : FnScope ["rule", "last", "found", "one"] ["rule", "last"] (defScope s_walk_of) := ⟨rfl, rfl, rfl, by decide +kernel, rfl, by decide +kernel, by decide +kernel⟩
theorem sc_Field___init__ : FnScope ["self", "rule", "many", "one"] ["self", "rule"] (defScope s_Field___init__) := ⟨rfl, rfl, rfl, by decide +kernel, rfl, by decide +kernel, by decide +kernel⟩
theorem sc__law_cell : FnScope ["_law_script", "_law_k", "_law_number_here"] ["_law_script", "_law_k"] (defScope s__law_cell) := ⟨rfl, rfl, rfl, by decide +kernel, rfl, by decide +kernel, by decide +kernel⟩
theorem sc__law_rule : FnScope ["_law_cell_here"] ["_law_cell_here"] (defScope s__law_rule) := ⟨rfl, rfl, rfl, by decide +kernel, rfl, by decide +kernel, by decide +kernel⟩
theorem sc__law_hex : FnScope ["_law_block", "_law_many", "_law_k"] ["_law_block", "_law_many"] (defScope s__law_hex) := ⟨rfl, rfl, rfl, by decide +kernel, rfl, by decide +kernel, by decide +kernel⟩
theorem sc__law_sign : FnScope ["_law_cell_here", "_law_some"] ["_law_cell_here"] (defScope s__law_sign) := ⟨rfl, rfl, rfl, by decide +kernel, rfl, by decide +kernel, by decide +kernel⟩
theorem sc__law_number : FnScope ["_law_line", "_law_many", "_law_limit", "_law_number_here", "_law_sign_here"] ["_law_line", "_law_many", "_law_limit"] (defScope s__law_number) := ⟨rfl, rfl, rfl, by decide +kernel, rfl, by decide +kernel, by decide +kernel⟩
theorem sc__law_spoiled : FnScope ["_law_line", "_law_way", "_law_cell_here", "_law_sign_here", "_law_at"] ["_law_line", "_law_way", "_law_cell_here", "_law_sign_here"] (defScope s__law_spoiled) := ⟨rfl, rfl, rfl, by decide +kernel, rfl, by decide +kernel, by decide +kernel⟩
theorem sc__law_read : FnScope ["_law_blocks", "_law_line", "_law_due", "_law_found", "e"] ["_law_blocks", "_law_line", "_law_due"] (defScope s__law_read) := ⟨rfl, rfl, rfl, by decide +kernel, rfl, by decide +kernel, by decide +kernel⟩
theorem sc_law : FnScope ["_law_script", "_law_rule_here", "_law_many", "_law_width", "_law_limit", "_law_figures", "_law_block", "_law_edge", "_law_blocks", "_law_due", "_law_found", "_law_line"] ["_law_script"] (defScope s_law) := ⟨rfl, rfl, rfl, by decide +kernel, rfl, by decide +kernel, by decide +kernel⟩
def d_figures_of : He.DefD := ⟨("figures_of", none), "figures_of", "figures_of", defArgs s_figures_of, defBody s_figures_of, defScope s_figures_of, [], []⟩
def d_shown_block : He.DefD := ⟨("shown_block", none), "shown_block", "shown_block", defArgs s_shown_block, defBody s_shown_block, defScope s_shown_block, [], []⟩
def d_read_block : He.DefD := ⟨("read_block", none), "read_block", "read_block", defArgs s_read_block, defBody s_read_block, defScope s_read_block, [], []⟩
def d_Blocks___init__ : He.DefD := ⟨("Blocks", some "__init__"), "__init__", "Blocks.__init__", defArgs s_Blocks___init__, defBody s_Blocks___init__, defScope s_Blocks___init__, [], []⟩
def d_Blocks_good : He.DefD := ⟨("Blocks", some "good"), "good", "Blocks.good", defArgs s_Blocks_good, defBody s_Blocks_good, defScope s_Blocks_good, [], []⟩
def d_doubled : He.DefD := ⟨("doubled", none), "doubled", "doubled", defArgs s_doubled, defBody s_doubled, defScope s_doubled, [], []⟩
def d_walk_of : He.DefD := ⟨("walk_of", none), "walk_of", "walk_of", defArgs s_walk_of, defBody s_walk_of, defScope s_walk_of, [], []⟩
def d_Field___init__ : He.DefD := ⟨("Field", some "__init__"), "__init__", "Field.__init__", defArgs s_Field___init__, defBody s_Field___init__, defScope s_Field___init__, [], []⟩
def d__law_cell : He.DefD := ⟨("_law_cell", none), "_law_cell", "_law_cell", defArgs s__law_cell, defBody s__law_cell, defScope s__law_cell, [], []⟩
def d__law_rule : He.DefD := ⟨("_law_rule", none), "_law_rule", "_law_rule", defArgs s__law_rule, defBody s__law_rule, defScope s__law_rule, [], []⟩
def d__law_hex : He.DefD := ⟨("_law_hex", none), "_law_hex", "_law_hex", defArgs s__law_hex, defBody s__law_hex, defScope s__law_hex, [], []⟩
def d__law_sign : He.DefD := ⟨("_law_sign", none), "_law_sign", "_law_sign", defArgs s__law_sign, defBody s__law_sign, defScope s__law_sign, [], []⟩
def d__law_number : He.DefD := ⟨("_law_number", none), "_law_number", "_law_number", defArgs s__law_number, defBody s__law_number, defScope s__law_number, [], []⟩
def d__law_spoiled : He.DefD := ⟨("_law_spoiled", none), "_law_spoiled", "_law_spoiled", defArgs s__law_spoiled, defBody s__law_spoiled, defScope s__law_spoiled, [], []⟩
def d__law_read : He.DefD := ⟨("_law_read", none), "_law_read", "_law_read", defArgs s__law_read, defBody s__law_read, defScope s__law_read, [], []⟩
def d_law : He.DefD := ⟨("law", none), "law", "law", defArgs s_law, defBody s_law, defScope s_law, [], []⟩
def fn : List He.DefD := [d_figures_of, d_shown_block, d_read_block, d_Blocks___init__, d_Blocks_good, d_doubled, d_walk_of, d_Field___init__, d__law_cell, d__law_rule, d__law_hex, d__law_sign, d__law_number, d__law_spoiled, d__law_read, d_law]
def fa : List He.Fa := [.glo "figures_of", .glo "shown_block", .glo "read_block", .glo "doubled", .glo "walk_of", .glo "_law_cell", .glo "_law_rule", .glo "_law_hex", .glo "_law_sign", .glo "_law_number", .glo "_law_spoiled", .glo "_law_read", .glo "law", .glo "PlankError", .glo "NoField", .glo "NoShape", .glo "NoBlock", .glo "NoLine", .glo "Blocks", .cls "Blocks", .noat "Blocks" "field", .noat "Blocks" "many", .noat "Blocks" "limit", .noat "Blocks" "ones", .mkr "Blocks", .meth "Blocks" "good", .meth "Blocks" "symbols", .glo "Field", .cls "Field", .noat "Field" "rule", .noat "Field" "width", .noat "Field" "last", .noat "Field" "powers", .noat "Field" "logs", .mkr "Field", .free "ValueError", .free "bool", .free "divmod", .free "enumerate", .free "int", .free "isinstance", .free "len", .free "range", .free "str", .str "FIGURES" "0123456789abcdef", .int "MOST_SYMBOLS" 16, .int "LEAST_RULE" 16, .int "END_OF_RULES" 512, .exc "NoLine", .exm "NoLine" "PlankError" true]
def exB : List (PySem.W.Frag → Bool) := [fun K => decide (PySem.W.findIn K (.ref (He.ga K "NoLine")) "__getattribute__" = some (some (.builtin "BaseException.__getattribute__"))), fun K => decide (PySem.W.findIn K (.ref (He.ga K "NoLine")) "__getattr__" = some none), fun K => decide (PySem.W.subIn K (.ref (He.ga K "NoLine")) (.type "BaseException") = some true), fun K => PySem.W.hasDictIn K (He.ga K "NoLine"), fun K => decide (PySem.W.findIn K (.ref (He.ga K "NoLine")) "__class__" = some (some (.builtin "object.__class__"))), fun K => decide (PySem.W.mroIn K (He.ga K "NoLine") (.type "object") = some true), fun K => decide (PySem.W.kitOne K (.ref (He.ga K "NoLine")) (.ref (He.ga K "NoLine")) = some true), fun K => decide (PySem.W.kitOne K (.ref (He.ga K "NoLine")) (.type "ValueError") = some true), fun K => decide (PySem.W.kitOne K (.ref (He.ga K "NoLine")) (.ref (He.ga K "NoBlock")) = some false), fun K => decide (PySem.W.specialIn K (.builtin "object.__class__") "__get__" = some (some (.builtin "getset_descriptor.__get__"))), fun K => decide (PySem.W.takesIn K (.builtin "object.__class__") = some true)]
/-- what the top has written -/
structure Tx (K : PySem.W.Frag) (mg : Str → Option Value) : Prop where
  ex : ∃ h : Heap, K.In h ∧ h.Ns mainGlobals mg
  c : He.SaysD fa fn K
  x : exB.all (fun f => f K) = true
theorem Tx.bool {K : PySem.W.Frag} {mg : Str → Option Value} (T : Tx K mg) (i : Nat) {f : PySem.W.Frag → Bool} (h : exB[i]? = some f := by rfl) : f K = true := List.all_eq_true.mp T.x f (List.mem_of_getElem? h)
section
variable {K : PySem.W.Frag} {mg : Str → Option Value}
theorem glo_figures_of (T : Tx K mg) : mg "figures_of" = some (.ref (He.ga K "figures_of")) := T.ex.elim fun _ z => He.glo_ok z.1 z.2 (T.c.fact 0 (f := .glo "figures_of") rfl)
theorem glo_shown_block (T : Tx K mg) : mg "shown_block" = some (.ref (He.ga K "shown_block")) := T.ex.elim fun _ z => He.glo_ok z.1 z.2 (T.c.fact 1 (f := .glo "shown_block") rfl)
theorem glo_read_block (T : Tx K mg) : mg "read_block" = some (.ref (He.ga K "read_block")) := T.ex.elim fun _ z => He.glo_ok z.1 z.2 (T.c.fact 2 (f := .glo "read_block") rfl)
theorem glo_doubled (T : Tx K mg) : mg "doubled" = some (.ref (He.ga K "doubled")) := T.ex.elim fun _ z => He.glo_ok z.1 z.2 (T.c.fact 3 (f := .glo "doubled") rfl)
theorem glo_walk_of (T : Tx K mg) : mg "walk_of" = some (.ref (He.ga K "walk_of")) := T.ex.elim fun _ z => He.glo_ok z.1 z.2 (T.c.fact 4 (f := .glo "walk_of") rfl)
theorem glo__law_cell (T : Tx K mg) : mg "_law_cell" = some (.ref (He.ga K "_law_cell")) := T.ex.elim fun _ z => He.glo_ok z.1 z.2 (T.c.fact 5 (f := .glo "_law_cell") rfl)
theorem glo__law_rule (T : Tx K mg) : mg "_law_rule" = some (.ref (He.ga K "_law_rule")) := T.ex.elim fun _ z => He.glo_ok z.1 z.2 (T.c.fact 6 (f := .glo "_law_rule") rfl)
theorem glo__law_hex (T : Tx K mg) : mg "_law_hex" = some (.ref (He.ga K "_law_hex")) := T.ex.elim fun _ z => He.glo_ok z.1 z.2 (T.c.fact 7 (f := .glo "_law_hex") rfl)
theorem glo__law_sign (T : Tx K mg) : mg "_law_sign" = some (.ref (He.ga K "_law_sign")) := T.ex.elim fun _ z => He.glo_ok z.1 z.2 (T.c.fact 8 (f := .glo "_law_sign") rfl)
theorem glo__law_number (T : Tx K mg) : mg "_law_number" = some (.ref (He.ga K "_law_number")) := T.ex.elim fun _ z => He.glo_ok z.1 z.2 (T.c.fact 9 (f := .glo "_law_number") rfl)
theorem glo__law_spoiled (T : Tx K mg) : mg "_law_spoiled" = some (.ref (He.ga K "_law_spoiled")) := T.ex.elim fun _ z => He.glo_ok z.1 z.2 (T.c.fact 10 (f := .glo "_law_spoiled") rfl)
theorem glo__law_read (T : Tx K mg) : mg "_law_read" = some (.ref (He.ga K "_law_read")) := T.ex.elim fun _ z => He.glo_ok z.1 z.2 (T.c.fact 11 (f := .glo "_law_read") rfl)
theorem glo_law (T : Tx K mg) : mg "law" = some (.ref (He.ga K "law")) := T.ex.elim fun _ z => He.glo_ok z.1 z.2 (T.c.fact 12 (f := .glo "law") rfl)
theorem glo_PlankError (T : Tx K mg) : mg "PlankError" = some (.ref (He.ga K "PlankError")) := T.ex.elim fun _ z => He.glo_ok z.1 z.2 (T.c.fact 13 (f := .glo "PlankError") rfl)
theorem glo_NoField (T : Tx K mg) : mg "NoField" = some (.ref (He.ga K "NoField")) := T.ex.elim fun _ z => He.glo_ok z.1 z.2 (T.c.fact 14 (f := .glo "NoField") rfl)
theorem glo_NoShape (T : Tx K mg) : mg "NoShape" = some (.ref (He.ga K "NoShape")) := T.ex.elim fun _ z => He.glo_ok z.1 z.2 (T.c.fact 15 (f := .glo "NoShape") rfl)
theorem glo_NoBlock (T : Tx K mg) : mg "NoBlock" = some (.ref (He.ga K "NoBlock")) := T.ex.elim fun _ z => He.glo_ok z.1 z.2 (T.c.fact 16 (f := .glo "NoBlock") rfl)
theorem glo_NoLine (T : Tx K mg) : mg "NoLine" = some (.ref (He.ga K "NoLine")) := T.ex.elim fun _ z => He.glo_ok z.1 z.2 (T.c.fact 17 (f := .glo "NoLine") rfl)
theorem glo_Blocks (T : Tx K mg) : mg "Blocks" = some (.ref (He.ga K "Blocks")) := T.ex.elim fun _ z => He.glo_ok z.1 z.2 (T.c.fact 18 (f := .glo "Blocks") rfl)
theorem cls_Blocks (T : Tx K mg) : Cls K (He.ga K "Blocks") := He.cls_ok (T.c.fact 19 (f := .cls "Blocks") rfl)
theorem noat_Blocks_field (T : Tx K mg) : NoAttr K (He.ga K "Blocks") "field" := He.noat_ok (T.c.fact 20 (f := .noat "Blocks" "field") rfl)
theorem noat_Blocks_many (T : Tx K mg) : NoAttr K (He.ga K "Blocks") "many" := He.noat_ok (T.c.fact 21 (f := .noat "Blocks" "many") rfl)
theorem noat_Blocks_limit (T : Tx K mg) : NoAttr K (He.ga K "Blocks") "limit" := He.noat_ok (T.c.fact 22 (f := .noat "Blocks" "limit") rfl)
theorem noat_Blocks_ones (T : Tx K mg) : NoAttr K (He.ga K "Blocks") "ones" := He.noat_ok (T.c.fact 23 (f := .noat "Blocks" "ones") rfl)
theorem mkr_Blocks (T : Tx K mg) : Mk K (He.ga K "Blocks") (He.ma K (He.ga K "Blocks") "__init__") := He.mkr_ok (T.c.fact 24 (f := .mkr "Blocks") rfl)
theorem meth_Blocks_good (T : Tx K mg) : Meth K (He.ga K "Blocks") "good" (He.ma K (He.ga K "Blocks") "good") := He.meth_ok (T.c.fact 25 (f := .meth "Blocks" "good") rfl)
theorem meth_Blocks_symbols (T : Tx K mg) : Meth K (He.ga K "Blocks") "symbols" (He.ma K (He.ga K "Blocks") "symbols") := He.meth_ok (T.c.fact 26 (f := .meth "Blocks" "symbols") rfl)
theorem glo_Field (T : Tx K mg) : mg "Field" = some (.ref (He.ga K "Field")) := T.ex.elim fun _ z => He.glo_ok z.1 z.2 (T.c.fact 27 (f := .glo "Field") rfl)
theorem cls_Field (T : Tx K mg) : Cls K (He.ga K "Field") := He.cls_ok (T.c.fact 28 (f := .cls "Field") rfl)
theorem noat_Field_rule (T : Tx K mg) : NoAttr K (He.ga K "Field") "rule" := He.noat_ok (T.c.fact 29 (f := .noat "Field" "rule") rfl)
theorem noat_Field_width (T : Tx K mg) : NoAttr K (He.ga K "Field") "width" := He.noat_ok (T.c.fact 30 (f := .noat "Field" "width") rfl)
theorem noat_Field_last (T : Tx K mg) : NoAttr K (He.ga K "Field") "last" := He.noat_ok (T.c.fact 31 (f := .noat "Field" "last") rfl)
theorem noat_Field_powers (T : Tx K mg) : NoAttr K (He.ga K "Field") "powers" := He.noat_ok (T.c.fact 32 (f := .noat "Field" "powers") rfl)
theorem noat_Field_logs (T : Tx K mg) : NoAttr K (He.ga K "Field") "logs" := He.noat_ok (T.c.fact 33 (f := .noat "Field" "logs") rfl)
theorem mkr_Field (T : Tx K mg) : Mk K (He.ga K "Field") (He.ma K (He.ga K "Field") "__init__") := He.mkr_ok (T.c.fact 34 (f := .mkr "Field") rfl)
theorem free_ValueError (T : Tx K mg) : mg "ValueError" = none := T.ex.elim fun _ z => He.free_ok z.1 z.2 (T.c.fact 35 (f := .free "ValueError") rfl)
theorem free_bool (T : Tx K mg) : mg "bool" = none := T.ex.elim fun _ z => He.free_ok z.1 z.2 (T.c.fact 36 (f := .free "bool") rfl)
theorem free_divmod (T : Tx K mg) : mg "divmod" = none := T.ex.elim fun _ z => He.free_ok z.1 z.2 (T.c.fact 37 (f := .free "divmod") rfl)
theorem free_enumerate (T : Tx K mg) : mg "enumerate" = none := T.ex.elim fun _ z => He.free_ok z.1 z.2 (T.c.fact 38 (f := .free "enumerate") rfl)
theorem free_int (T : Tx K mg) : mg "int" = none := T.ex.elim fun _ z => He.free_ok z.1 z.2 (T.c.fact 39 (f := .free "int") rfl)
theorem free_isinstance (T : Tx K mg) : mg "isinstance" = none := T.ex.elim fun _ z => He.free_ok z.1 z.2 (T.c.fact 40 (f := .free "isinstance") rfl)
theorem free_len (T : Tx K mg) : mg "len" = none := T.ex.elim fun _ z => He.free_ok z.1 z.2 (T.c.fact 41 (f := .free "len") rfl)
theorem free_range (T : Tx K mg) : mg "range" = none := T.ex.elim fun _ z => He.free_ok z.1 z.2 (T.c.fact 42 (f := .free "range") rfl)
theorem free_str (T : Tx K mg) : mg "str" = none := T.ex.elim fun _ z => He.free_ok z.1 z.2 (T.c.fact 43 (f := .free "str") rfl)
theorem str_FIGURES (T : Tx K mg) : ∃ u, mg "FIGURES" = some u ∧ RelV (.str "0123456789abcdef") u := T.ex.elim fun _ z => let ⟨t, e⟩ := He.str_ok z.1 z.2 (T.c.fact 44 (f := .str "FIGURES" "0123456789abcdef") rfl); ⟨_, e, t, rfl⟩
theorem int_MOST_SYMBOLS (T : Tx K mg) : ∃ u, mg "MOST_SYMBOLS" = some u ∧ RelV (nV 16) u := T.ex.elim fun _ z => let ⟨t, e⟩ := He.int_ok z.1 z.2 (T.c.fact 45 (f := .int "MOST_SYMBOLS" 16) rfl); ⟨_, e, t, rfl⟩
theorem int_LEAST_RULE (T : Tx K mg) : ∃ u, mg "LEAST_RULE" = some u ∧ RelV (nV 16) u := T.ex.elim fun _ z => let ⟨t, e⟩ := He.int_ok z.1 z.2 (T.c.fact 46 (f := .int "LEAST_RULE" 16) rfl); ⟨_, e, t, rfl⟩
theorem int_END_OF_RULES (T : Tx K mg) : ∃ u, mg "END_OF_RULES" = some u ∧ RelV (nV 512) u := T.ex.elim fun _ z => let ⟨t, e⟩ := He.int_ok z.1 z.2 (T.c.fact 47 (f := .int "END_OF_RULES" 512) rfl); ⟨_, e, t, rfl⟩
theorem exc_NoLine (T : Tx K mg) : PySem.W.excIn K (He.ga K "NoLine") He.veBase "ValueError.__new__" = true ∧ PySem.W.keepIn K (.ref (He.ga K "NoLine")) = true ∧ PySem.W.subIn K (.ref (He.ga K "NoLine")) (.type "BaseException") = some true ∧ PySem.W.typeIn K (.ref (He.ga K "NoLine")) = some (.type "type") := He.exc_ok (T.c.fact 48 (f := .exc "NoLine") rfl)
theorem exm_NoLine_PlankError (T : Tx K mg) : PySem.W.exmOne K (.ref (He.ga K "NoLine")) (.ref (He.ga K "PlankError")) = some true := He.exm_ok (T.c.fact 49 (f := .exm "NoLine" "PlankError" true) rfl)
theorem xc_NoLine_hg (T : Tx K mg) : PySem.W.findIn K (.ref (He.ga K "NoLine")) "__getattribute__" = some (some (.builtin "BaseException.__getattribute__")) := of_decide_eq_true (T.bool 0 (f := fun K => decide (PySem.W.findIn K (.ref (He.ga K "NoLine")) "__getattribute__" = some (some (.builtin "BaseException.__getattribute__")))))
theorem xc_NoLine_hk (T : Tx K mg) : PySem.W.findIn K (.ref (He.ga K "NoLine")) "__getattr__" = some none := of_decide_eq_true (T.bool 1 (f := fun K => decide (PySem.W.findIn K (.ref (He.ga K "NoLine")) "__getattr__" = some none)))
theorem xc_NoLine_hs (T : Tx K mg) : PySem.W.subIn K (.ref (He.ga K "NoLine")) (.type "BaseException") = some true := of_decide_eq_true (T.bool 2 (f := fun K => decide (PySem.W.subIn K (.ref (He.ga K "NoLine")) (.type "BaseException") = some true)))
theorem xc_NoLine_hd (T : Tx K mg) : PySem.W.hasDictIn K (He.ga K "NoLine") = true := T.bool 3 (f := fun K => PySem.W.hasDictIn K (He.ga K "NoLine"))
theorem xc_NoLine_ha (T : Tx K mg) : PySem.W.findIn K (.ref (He.ga K "NoLine")) "__class__" = some (some (.builtin "object.__class__")) := of_decide_eq_true (T.bool 4 (f := fun K => decide (PySem.W.findIn K (.ref (He.ga K "NoLine")) "__class__" = some (some (.builtin "object.__class__")))))
theorem xc_NoLine_hm (T : Tx K mg) : PySem.W.mroIn K (He.ga K "NoLine") (.type "object") = some true := of_decide_eq_true (T.bool 5 (f := fun K => decide (PySem.W.mroIn K (He.ga K "NoLine") (.type "object") = some true)))
theorem kit_NoLine_NoLine (T : Tx K mg) : PySem.W.kitOne K (.ref (He.ga K "NoLine")) (.ref (He.ga K "NoLine")) = some true := of_decide_eq_true (T.bool 6 (f := fun K => decide (PySem.W.kitOne K (.ref (He.ga K "NoLine")) (.ref (He.ga K "NoLine")) = some true)))
theorem kit_NoLine_TValueError (T : Tx K mg) : PySem.W.kitOne K (.ref (He.ga K "NoLine")) (.type "ValueError") = some true := of_decide_eq_true (T.bool 7 (f := fun K => decide (PySem.W.kitOne K (.ref (He.ga K "NoLine")) (.type "ValueError") = some true)))
theorem kit_NoLine_NoBlock (T : Tx K mg) : PySem.W.kitOne K (.ref (He.ga K "NoLine")) (.ref (He.ga K "NoBlock")) = some false := of_decide_eq_true (T.bool 8 (f := fun K => decide (PySem.W.kitOne K (.ref (He.ga K "NoLine")) (.ref (He.ga K "NoBlock")) = some false)))
theorem xc_hn (T : Tx K mg) : PySem.W.specialIn K (.builtin "object.__class__") "__get__" = some (some (.builtin "getset_descriptor.__get__")) := of_decide_eq_true (T.bool 9 (f := fun K => decide (PySem.W.specialIn K (.builtin "object.__class__") "__get__" = some (some (.builtin "getset_descriptor.__get__")))))
theorem xc_ht (T : Tx K mg) : PySem.W.takesIn K (.builtin "object.__class__") = some true := of_decide_eq_true (T.bool 10 (f := fun K => decide (PySem.W.takesIn K (.builtin "object.__class__") = some true)))
theorem excC_NoLine (T : Tx K mg) : ExcC K (He.ga K "NoLine") := ⟨xc_NoLine_hg T, xc_NoLine_hk T, xc_NoLine_hs T, xc_NoLine_hd T, xc_NoLine_ha T, xc_hn T, xc_ht T, xc_NoLine_hm T⟩
theorem F_figures_of (T : Tx K mg) : ∃ fd, FunD K "figures_of" "figures_of" (defArgs s_figures_of) (defBody s_figures_of) (defScope s_figures_of) [] [] (He.fAd K ("figures_of", none)) fd := T.c.def_ 0 (d := d_figures_of) rfl
theorem F_shown_block (T : Tx K mg) : ∃ fd, FunD K "shown_block" "shown_block" (defArgs s_shown_block) (defBody s_shown_block) (defScope s_shown_block) [] [] (He.fAd K ("shown_block", none)) fd := T.c.def_ 1 (d := d_shown_block) rfl
theorem F_read_block (T : Tx K mg) : ∃ fd, FunD K "read_block" "read_block" (defArgs s_read_block) (defBody s_read_block) (defScope s_read_block) [] [] (He.fAd K ("read_block", none)) fd := T.c.def_ 2 (d := d_read_block) rfl
theorem F_Blocks___init__ (T : Tx K mg) : ∃ fd, FunD K "__init__" "Blocks.__init__" (defArgs s_Blocks___init__) (defBody s_Blocks___init__) (defScope s_Blocks___init__) [] [] (He.fAd K ("Blocks", some "__init__")) fd := T.c.def_ 3 (d := d_Blocks___init__) rfl
theorem F_Blocks_good (T : Tx K mg) : ∃ fd, FunD K "good" "Blocks.good" (defArgs s_Blocks_good) (defBody s_Blocks_good) (defScope s_Blocks_good) [] [] (He.fAd K ("Blocks", some "good")) fd := T.c.def_ 4 (d := d_Blocks_good) rfl
theorem F_doubled (T : Tx K mg) : ∃ fd, FunD K "doubled" "doubled" (defArgs s_doubled) (defBody s_doubled) (defScope s_doubled) [] [] (He.fAd K ("doubled", none)) fd := T.c.def_ 5 (d := d_doubled) rfl
theorem F_walk_of (T : Tx K mg) : ∃ fd, FunD K "walk_of" "walk_of" (defArgs s_walk_of) (defBody s_walk_of) (defScope s_walk_of) [] [] (He.fAd K ("walk_of", none)) fd := T.c.def_ 6 (d := d_walk_of) rfl
theorem F_Field___init__ (T : Tx K mg) : ∃ fd, FunD K "__init__" "Field.__init__" (defArgs s_Field___init__) (defBody s_Field___init__) (defScope s_Field___init__) [] [] (He.fAd K ("Field", some "__init__")) fd := T.c.def_ 7 (d := d_Field___init__) rfl
theorem F__law_cell (T : Tx K mg) : ∃ fd, FunD K "_law_cell" "_law_cell" (defArgs s__law_cell) (defBody s__law_cell) (defScope s__law_cell) [] [] (He.fAd K ("_law_cell", none)) fd := T.c.def_ 8 (d := d__law_cell) rfl
theorem F__law_rule (T : Tx K mg) : ∃ fd, FunD K "_law_rule" "_law_rule" (defArgs s__law_rule) (defBody s__law_rule) (defScope s__law_rule) [] [] (He.fAd K ("_law_rule", none)) fd := T.c.def_ 9 (d := d__law_rule) rfl
theorem F__law_hex (T : Tx K mg) : ∃ fd, FunD K "_law_hex" "_law_hex" (defArgs s__law_hex) (defBody s__law_hex) (defScope s__law_hex) [] [] (He.fAd K ("_law_hex", none)) fd := T.c.def_ 10 (d := d__law_hex) rfl
theorem F__law_sign (T : Tx K mg) : ∃ fd, FunD K "_law_sign" "_law_sign" (defArgs s__law_sign) (defBody s__law_sign) (defScope s__law_sign) [] [] (He.fAd K ("_law_sign", none)) fd := T.c.def_ 11 (d := d__law_sign) rfl
theorem F__law_number (T : Tx K mg) : ∃ fd, FunD K "_law_number" "_law_number" (defArgs s__law_number) (defBody s__law_number) (defScope s__law_number) [] [] (He.fAd K ("_law_number", none)) fd := T.c.def_ 12 (d := d__law_number) rfl
theorem F__law_spoiled (T : Tx K mg) : ∃ fd, FunD K "_law_spoiled" "_law_spoiled" (defArgs s__law_spoiled) (defBody s__law_spoiled) (defScope s__law_spoiled) [] [] (He.fAd K ("_law_spoiled", none)) fd := T.c.def_ 13 (d := d__law_spoiled) rfl
theorem F__law_read (T : Tx K mg) : ∃ fd, FunD K "_law_read" "_law_read" (defArgs s__law_read) (defBody s__law_read) (defScope s__law_read) [] [] (He.fAd K ("_law_read", none)) fd := T.c.def_ 14 (d := d__law_read) rfl
theorem F_law (T : Tx K mg) : ∃ fd, FunD K "law" "law" (defArgs s_law) (defBody s_law) (defScope s_law) [] [] (He.fAd K ("law", none)) fd := T.c.def_ 15 (d := d_law) rfl
end
end Prog


namespace Prog
open PySem PySem.Spec PyProof.Rows L2 Plk
local macro_rules | `(tactic| walk_at "cls") => `(tactic| first | exact cls_Blocks (by assumption) | exact cls_Field (by assumption))
local macro_rules | `(tactic| walk_at "noat") => `(tactic| with_reducible first | exact noat_Blocks_field (by assumption) | exact noat_Blocks_many (by assumption) | exact noat_Blocks_limit (by assumption) | exact noat_Blocks_ones (by assumption) | exact noat_Field_rule (by assumption) | exact noat_Field_width (by assumption) | exact noat_Field_last (by assumption) | exact noat_Field_powers (by assumption) | exact noat_Field_logs (by assumption))
local macro_rules | `(tactic| walk_at "fact") => `(tactic| first
  | assumption
  | (refine' Ex.go ?w_e ?w_f; (case w_e => assumption); (case w_f => walk_at "fact"))
  | (refine' Off.go ?w_e ?w_n ?w_f; (case w_e => assumption); (case w_n => assumption); (case w_f => walk_at "fact"))
  | (refine' Off.goL ?w_e ?w_i ?w_f; (case w_e => assumption); (case w_i => walk_at "fact"); (case w_f => walk_at "fact"))
  | (refine' Off.goT ?w_e ?w_i ?w_f; (case w_e => assumption); (case w_i => walk_at "fact"); (case w_f => walk_at "fact")))
local macro_rules | `(tactic| walk_at "seq") => `(tactic| first | assumption | (refine' SqL.of ?w_f; (case w_f => walk_at "fact")) | (refine' Ex.sl ?w_e ?w_f; (case w_e => assumption); (case w_f => walk_at "seq")))
local macro_rules | `(tactic| walk_at "w1") => `(tactic| with_reducible first
  | refine w_seq ?_ | refine w_tYes ?_ | refine w_try ?_ | refine w_raise ?_ | refine w_asg ?_ | refine w_op ?_ | refine w_cons ?_ | refine w_nil ?_ | refine w_c ?_ | refine w_n0 ?_ | refine w_i0 ?_ | refine w_u ?_
  | refine w_ret ?_ | refine w_retN ?_ | refine w_drop ?_ | refine w_ifs ?_ | refine w_test ?_ | refine w_B ?_ | refine w_bl ?_ | refine w_and ?_ | refine w_or ?_ | refine w_not ?_ | refine w_cb ?_ | refine w_call ?_ | refine w_meth ?_ | refine w_make ?_
  | refine w_nx ?_ | refine w_rt ?_ | refine w_bk ?_ | refine w_ct ?_ | refine w_next ?_ | refine w_brk ?_ | refine w_cont ?_
  | refine w_lst ?_ | refine w_tup ?_ | refine w_bm ?_ | refine w_bm0 ?_ | refine w_m1 ?_ | refine w_m0 ?_ | refine w_sl ?_ | refine w_part ?_ | refine w_nopart ?_ | refine w_int ?_ | refine w_ifE ?_ | refine w_bits ?_
  | refine w_for ?_ | refine w_lc ?_ | refine w_iList ?_ | refine w_iStr ?_ | refine w_iStr' ?_ | refine w_iRng1 ?_ | refine w_iRng2 ?_ | refine w_iEnum ?_ | refine w_iZip ?_ | refine w_gcons ?_ | refine w_gnil ?_ | refine w_gsub ?_
  | refine w_isN ?_ | refine w_notN ?_ | refine w_inS ?_ | refine w_notInS ?_ | refine w_find ?_ | refine w_max2 ?_ | refine w_min2 ?_ | refine w_un ?_ | refine w_sfld ?_ | refine w_fld1 ?_ | refine w_unop ?_ | refine w_chain ?_ | refine w_andV ?_ | refine w_orV ?_ | refine w_notV ?_
  | refine w_iteNF ?_ | refine w_iteNT ?_ | refine w_iteT ?_ | refine w_iteF ?_)
local macro_rules | `(tactic| walk_at "w2") => `(tactic| first
  | ((with_reducible refine' w_var ?w_h ?w_k); (case w_h => exact rfl))
  | ((with_reducible refine' w_gname' ?w_h ?w_k); (case w_h => first | (dsimp only [List.set]; done) | (dsimp only [List.set]; exact rfl)))
  | ((with_reducible refine' w_aug ?w_h ?w_k); (case w_h => exact rfl))
  | ((with_reducible refine' w_eq ?w_h ?w_k); (case w_h => exact rfl))
  | ((with_reducible refine' w_ne ?w_h ?w_k); (case w_h => exact rfl))
  | ((with_reducible refine' w_n ?w_h ?w_k); (case w_h => first | trivial | omega | assumption | decide))
  | ((with_reducible refine' w_i ?w_h ?w_k); (case w_h => first | trivial | omega | assumption | decide))
  | ((with_reducible refine' w_imod ?w_h ?w_k); (case w_h => first | omega | assumption | decide))
  | ((with_reducible refine' w_lenS ?w_h ?w_k); (case w_h => (refine sz_of ?_; omega)))
  | ((with_reducible refine' w_lenL ?w_h ?w_k); (case w_h => walk_at "seq"))
  | ((with_reducible refine' w_addS ?w_h ?w_k); (case w_h => (refine sz_of ?_; omega)))
  | ((with_reducible refine' w_slS ?w_h ?w_k); (case w_h => (refine sz_of ?_; omega)))
  | ((with_reducible refine' w_iList' ?w_h ?w_k); (case w_h => walk_at "seq"))
  | ((with_reducible refine' w_iEnum' ?w_h ?w_k); (case w_h => walk_at "seq"))
  | ((with_reducible refine' w_iRng1' ?w_h ?w_k); (case w_h => omega))
  | ((with_reducible refine' w_fldG ?w_h ?w_c ?w_n ?w_l ?w_k); (case w_h => walk_at "fact"); (case w_c => walk_at "cls"); (case w_n => walk_at "noat"); (case w_l => exact rfl))
  | ((with_reducible refine' w_methG ?w_h ?w_c ?w_l ?w_k); (case w_h => walk_at "fact"); (case w_c => exact rfl); (case w_l => exact rfl))
  | ((with_reducible refine' w_fldS ?w_h ?w_c ?w_n ?w_l ?w_k); (case w_h => walk_at "fact"); (case w_c => walk_at "cls"); (case w_n => walk_at "noat"); (case w_l => exact Nat.le_of_ble_eq_true rfl); (generalize w_hq : upd _ _ _ = w_H; have w_at := new_at w_hq; have w_off := new_off w_hq; clear w_hq))
  | ((with_reducible refine' ⟨_, _, _, _, rfl, ?w_h, ?w_c, ?w_n, ?w_l, ?w_k⟩); (case w_h => walk_at "fact"); (case w_c => walk_at "cls"); (case w_n => walk_at "noat"); (case w_l => exact Nat.le_of_ble_eq_true rfl); (generalize w_hq : upd _ _ _ = w_H; have w_at := new_at w_hq; have w_off := new_off w_hq; clear w_hq))
  | ((with_reducible refine' w_yes ?w_h ?w_k); (case w_h => first | assumption | omega))
  | ((with_reducible refine' w_no ?w_h ?w_k); (case w_h => first | assumption | omega))
  | ((with_reducible refine' w_yesN ?w_h ?w_k); (case w_h => first | assumption | omega))
  | ((with_reducible refine' w_noN ?w_h ?w_k); (case w_h => first | assumption | omega))
  | ((with_reducible refine' w_ixLn ?w_h ?w_e ?w_k); (case w_h => walk_at "seq"); (case w_e => first | assumption | exact rfl))
  | ((with_reducible refine' w_ixTn ?w_h ?w_e ?w_k); (case w_h => (refine' SqT.of ?w_f; (case w_f => walk_at "fact"))); (case w_e => exact rfl))
  | ((with_reducible refine' w_rep1 ?w_h ?w_n ?w_k); (case w_h => walk_at "fact"); (case w_n => omega))
  | ((with_reducible refine' w_divN ?w_n ?w_k); (case w_n => omega))
  | ((with_reducible refine' w_isiI (u := true) ?w_n ?w_k); (case w_n => exact rfl))
  | ((with_reducible refine' w_isiI (u := false) ?w_n ?w_k); (case w_n => exact rfl))
  | ((with_reducible refine' w_isiS (u := true) ?w_n ?w_k); (case w_n => exact rfl))
  | ((with_reducible refine' w_isiS (u := false) ?w_n ?w_k); (case w_n => exact rfl))
  | ((with_reducible refine' w_gtup ?w_h ?w_n ?w_k); (case w_h => (refine' SqT.of ?w_f; (case w_f => walk_at "fact"))); (case w_n => exact rfl))
  | ((with_reducible refine' w_zfillN ?w_n ?w_k); (case w_n => omega))
  | ((with_reducible refine' w_strOk ?w_k))
  | ((with_reducible refine' w_lstOk ?w_h ?w_k); (case w_h => (refine' SqL.of ?w_f; (case w_f => walk_at "fact"))))
  | ((with_reducible refine' w_sz ?w_h ?w_k); (case w_h => exact (by decide)))
  | ((with_reducible refine w_newI ?_); (intro w_p w_fr; generalize w_hq : upd _ w_p _ = w_H; have w_ex := new_ex w_hq w_fr; have w_at := new_at w_hq; have w_of := new_of w_hq; clear w_hq)))
local macro_rules | `(tactic| walk_at "w") => `(tactic| repeat (first | walk_at "w1" | walk_at "w2"))

section
variable {P : Program} {w : World} {K : PySem.W.Frag} {mg : Str → Option Value} {base : Heap}
/-! ### the field -/
def sp_doubled : Sp := fun vs H Q _ => ∃ one rule last : Nat, vs = [nV one, nV rule, nV last] ∧ one < 512 ∧ Q (nV (dbl rule last one)) H
theorem c_doubled (T : Tx K mg) : Callee P w K mg base 1 (He.fAd K ("doubled", none)) ["one", "rule", "last"] sp_doubled := by
  obtain ⟨fd, F⟩ := F_doubled T
  refine ⟨⟨fd, F.ok sc_doubled (fun vs H Q E h => by first | (obtain ⟨rfl, _⟩ := h; rfl) | (obtain ⟨_, rfl, _⟩ := h; rfl) | (obtain ⟨_, _, rfl, _⟩ := h; rfl) | (obtain ⟨_, _, _, rfl, _⟩ := h; rfl) | (obtain ⟨_, _, _, _, rfl, _⟩ := h; rfl) | (obtain ⟨_, _, _, _, _, rfl, _⟩ := h; rfl) | (obtain ⟨_, _, _, _, _, _, rfl, _⟩ := h; rfl) | (obtain ⟨_, _, _, _, _, _, _, rfl, _⟩ := h; rfl) | (obtain ⟨_, _, _, _, _, _, _, _, rfl, _⟩ := h; rfl) | (obtain ⟨_, _, _, _, _, _, _, _, _, rfl, _⟩ := h; rfl) | (obtain ⟨_, _, _, _, _, _, _, _, _, _, rfl, _⟩ := h; rfl) | (obtain ⟨_, _, _, _, _, _, _, _, _, _, _, rfl, _⟩ := h; rfl) | (obtain ⟨_, _, _, _, _, _, _, _, _, _, _, _, rfl, _⟩ := h; rfl) | (obtain ⟨_, _, _, _, _, _, _, _, _, _, _, _, _, rfl, _⟩ := h; rfl)) (fun cdv A outer s H vs Q E hr h => ⟨_, (pss_cons (ps_set (i := 0) sc_doubled.nd rfl (by first | exact Or.inl rfl | exact Or.inr rfl) (pe_op n_shl (pv 0) (pe_nat 1)))
    (pss_cons (ps_if (pt_cmpR n_gt (pv 0) (pv 2) (nomark _)) (pss_one (ps_set (i := 0) sc_doubled.nd rfl (by first | exact Or.inl rfl | exact Or.inr rfl) (pe_op n_xor (pv 0) (pv 1)))) pss_nil)
    (pss_one (ps_ret (pv 0))))), ?_⟩), F.bindsN (fun _ _ _ _ _ _ us hl => match us, hl with | [_, _, _], _ => rfl)⟩, F.kp⟩
  try dsimp only [cxOf_K]
  obtain ⟨one, rule, last, rfl, hs, k⟩ := h
  refine w_start (σ := [some (nV one), some (nV rule), some (nV last)]) rfl ?_
  unfold dbl at k
  walk_at "w"

  refine w_ite (fun c => ?_) (fun c => ?_)
  · rw [if_pos c] at k
    walk_at "w"
    exact k
  · rw [if_neg c] at k
    walk_at "w"
    exact k
def sp_walk_of : Sp := fun vs H Q _ => ∃ rule last n : Nat, vs = [nV rule, nV last] ∧ Back rule last n ∧ (∀ j, j < n → orb rule last j < 512) ∧
  ∀ p H', H p = none → Ex H H' → H' p = some (.lst ((orbL rule last n).map nV)) → Q (.ref p) H'
theorem c_walk_of (T : Tx K mg) : Callee P w K mg base 2 (He.fAd K ("walk_of", none)) ["rule", "last"] sp_walk_of := by
  obtain ⟨fd, F⟩ := F_walk_of T
  have c_doubled := c_doubled (P := P) (w := w) (base := base) T
  refine ⟨⟨fd, F.ok sc_walk_of (fun vs H Q E h => by first | (obtain ⟨rfl, _⟩ := h; rfl) | (obtain ⟨_, rfl, _⟩ := h; rfl) | (obtain ⟨_, _, rfl, _⟩ := h; rfl) | (obtain ⟨_, _, _, rfl, _⟩ := h; rfl) | (obtain ⟨_, _, _, _, rfl, _⟩ := h; rfl) | (obtain ⟨_, _, _, _, _, rfl, _⟩ := h; rfl) | (obtain ⟨_, _, _, _, _, _, rfl, _⟩ := h; rfl) | (obtain ⟨_, _, _, _, _, _, _, rfl, _⟩ := h; rfl) | (obtain ⟨_, _, _, _, _, _, _, _, rfl, _⟩ := h; rfl) | (obtain ⟨_, _, _, _, _, _, _, _, _, rfl, _⟩ := h; rfl) | (obtain ⟨_, _, _, _, _, _, _, _, _, _, rfl, _⟩ := h; rfl) | (obtain ⟨_, _, _, _, _, _, _, _, _, _, _, rfl, _⟩ := h; rfl) | (obtain ⟨_, _, _, _, _, _, _, _, _, _, _, _, rfl, _⟩ := h; rfl) | (obtain ⟨_, _, _, _, _, _, _, _, _, _, _, _, _, rfl, _⟩ := h; rfl)) (fun cdv A outer s H vs Q E hr h => ⟨_, (pss_cons (ps_set (i := 2) sc_walk_of.nd rfl (by first | exact Or.inl rfl | exact Or.inr rfl) (pe_lst (pa_cons (pe_nat 1) pa_nil)))
    (pss_cons (ps_set (i := 3) sc_walk_of.nd rfl (by first | exact Or.inl rfl | exact Or.inr rfl) (pe_f c_doubled (glo_doubled T) hr (by decide) (takes_of rfl rfl rfl rfl) (pa_cons (pe_nat 1) (pa_cons (pv 0) (pa_cons (pv 1) pa_nil)))))
    (pss_cons (ps_while (passes_of rfl) (pt_cmpR n_ne (pv 3) (pe_nat 1) (nomark _)) (pss_cons (ps_expr (pe_bm PySem.F.plainAttrs_list PySem.F.slot_list_append PySem.F.type_list_append mt_append (pv 2) (pa_cons (pv 3) pa_nil)))
    (pss_one (ps_set (i := 3) sc_walk_of.nd rfl (by first | exact Or.inl rfl | exact Or.inr rfl) (pe_f c_doubled (glo_doubled T) hr (by decide) (takes_of rfl rfl rfl rfl) (pa_cons (pv 3) (pa_cons (pv 0) (pa_cons (pv 1) pa_nil))))))))
    (pss_one (ps_ret (pv 2)))))), ?_⟩), F.bindsN (fun _ _ _ _ _ _ us hl => match us, hl with | [_, _], _ => rfl)⟩, F.kp⟩
  try dsimp only [cxOf_K]
  obtain ⟨rule, last, n, rfl, B, low, k⟩ := h
  refine w_start (σ := [some (nV rule), some (nV last), none, none]) rfl ?_
  walk_at "w"
  rename_i p fr H1 ex at_ off
  refine ⟨1, rule, last, rfl, by decide, ?_⟩
  walk_at "w"
  refine w_while (fun m σ H' => ∃ j, m = n - j ∧ 1 ≤ j ∧ j ≤ n ∧ σ = [some (nV rule), some (nV last), some (.ref p), some (nV (orb rule last j))] ∧ Ex H H' ∧ H' p = some (.lst ((orbL rule last j).map nV))) (n - 1)
    ⟨1, rfl, Nat.le_refl _, B.pos, rfl, ex, at_⟩ ?_
  rintro m σ H2 ⟨j, rfl, j1, jn, rfl, e2, f2⟩
  walk_at "w"
  refine w_ite (fun c => ?_) (fun c => ?_)
  · have hj : j < n := by
      apply Nat.lt_of_le_of_ne jn
      intro e
      rw [e] at c
      exact c B.back
    refine ⟨fun σ' H' => σ' = [some (nV rule), some (nV last), some (.ref p), some (nV (orb rule last (j + 1)))] ∧ Ex H H' ∧ H' p = some (.lst ((orbL rule last (j + 1)).map nV)), fun σ' H' z => ⟨n - (j + 1), by omega, j + 1, rfl, by omega, hj, z⟩, ?_⟩
    walk_at "w"
    refine w_append f2 (by rw [List.length_map, orbL_len]; refine sz_lt ?_; have := B.small; omega) ?_
    walk_at "w"
    refine ⟨orb rule last j, rule, last, rfl, low j hj, ?_⟩
    walk_at "w"
    refine ⟨rfl, e2.mut fr, ?_⟩
    rw [orbL_succ, List.map_append]
    exact upd_same
  · have hj : j = n := by
      refine Classical.byContradiction fun hne => ?_
      exact B.first j (by omega) (by omega) (Classical.byContradiction fun z => c z)
    subst hj
    walk_at "w"
    exact k p H2 fr e2 f2
end
end Prog


namespace Prog
open PySem PySem.Spec PyProof.Rows L2 Plk
local macro_rules | `(tactic| walk_at "cls") => `(tactic| first | exact cls_Blocks (by assumption) | exact cls_Field (by assumption))
local macro_rules | `(tactic| walk_at "noat") => `(tactic| with_reducible first | exact noat_Blocks_field (by assumption) | exact noat_Blocks_many (by assumption) | exact noat_Blocks_limit (by assumption) | exact noat_Blocks_ones (by assumption) | exact noat_Field_rule (by assumption) | exact noat_Field_width (by assumption) | exact noat_Field_last (by assumption) | exact noat_Field_powers (by assumption) | exact noat_Field_logs (by assumption))
local macro_rules | `(tactic| walk_at "fact") => `(tactic| first
  | assumption
  | (refine' Ex.go ?w_e ?w_f; (case w_e => assumption); (case w_f => walk_at "fact"))
  | (refine' Off.go ?w_e ?w_n ?w_f; (case w_e => assumption); (case w_n => assumption); (case w_f => walk_at "fact"))
  | (refine' Off.goL ?w_e ?w_i ?w_f; (case w_e => assumption); (case w_i => walk_at "fact"); (case w_f => walk_at "fact"))
  | (refine' Off.goT ?w_e ?w_i ?w_f; (case w_e => assumption); (case w_i => walk_at "fact"); (case w_f => walk_at "fact")))
local macro_rules | `(tactic| walk_at "seq") => `(tactic| first | assumption | (refine' SqL.of ?w_f; (case w_f => walk_at "fact")) | (refine' Ex.sl ?w_e ?w_f; (case w_e => assumption); (case w_f => walk_at "seq")))
local macro_rules | `(tactic| walk_at "w1") => `(tactic| with_reducible first
  | refine w_seq ?_ | refine w_tYes ?_ | refine w_try ?_ | refine w_raise ?_ | refine w_asg ?_ | refine w_op ?_ | refine w_cons ?_ | refine w_nil ?_ | refine w_c ?_ | refine w_n0 ?_ | refine w_i0 ?_ | refine w_u ?_
  | refine w_ret ?_ | refine w_retN ?_ | refine w_drop ?_ | refine w_ifs ?_ | refine w_test ?_ | refine w_B ?_ | refine w_bl ?_ | refine w_and ?_ | refine w_or ?_ | refine w_not ?_ | refine w_cb ?_ | refine w_call ?_ | refine w_meth ?_ | refine w_make ?_
  | refine w_nx ?_ | refine w_rt ?_ | refine w_bk ?_ | refine w_ct ?_ | refine w_next ?_ | refine w_brk ?_ | refine w_cont ?_
  | refine w_lst ?_ | refine w_tup ?_ | refine w_bm ?_ | refine w_bm0 ?_ | refine w_m1 ?_ | refine w_m0 ?_ | refine w_sl ?_ | refine w_part ?_ | refine w_nopart ?_ | refine w_int ?_ | refine w_ifE ?_ | refine w_bits ?_
  | refine w_for ?_ | refine w_lc ?_ | refine w_iList ?_ | refine w_iStr ?_ | refine w_iStr' ?_ | refine w_iRng1 ?_ | refine w_iRng2 ?_ | refine w_iEnum ?_ | refine w_iZip ?_ | refine w_gcons ?_ | refine w_gnil ?_ | refine w_gsub ?_
  | refine w_isN ?_ | refine w_notN ?_ | refine w_inS ?_ | refine w_notInS ?_ | refine w_find ?_ | refine w_max2 ?_ | refine w_min2 ?_ | refine w_un ?_ | refine w_sfld ?_ | refine w_fld1 ?_ | refine w_unop ?_ | refine w_chain ?_ | refine w_andV ?_ | refine w_orV ?_ | refine w_notV ?_
  | refine w_iteNF ?_ | refine w_iteNT ?_ | refine w_iteT ?_ | refine w_iteF ?_)
local macro_rules | `(tactic| walk_at "w2") => `(tactic| first
  | ((with_reducible refine' w_var ?w_h ?w_k); (case w_h => exact rfl))
  | ((with_reducible refine' w_gname' ?w_h ?w_k); (case w_h => first | (dsimp only [List.set]; done) | (dsimp only [List.set]; exact rfl)))
  | ((with_reducible refine' w_aug ?w_h ?w_k); (case w_h => exact rfl))
  | ((with_reducible refine' w_eq ?w_h ?w_k); (case w_h => exact rfl))
  | ((with_reducible refine' w_ne ?w_h ?w_k); (case w_h => exact rfl))
  | ((with_reducible refine' w_n ?w_h ?w_k); (case w_h => first | trivial | omega | assumption | decide))
  | ((with_reducible refine' w_i ?w_h ?w_k); (case w_h => first | trivial | omega | assumption | decide))
  | ((with_reducible refine' w_imod ?w_h ?w_k); (case w_h => first | omega | assumption | decide))
  | ((with_reducible refine' w_lenS ?w_h ?w_k); (case w_h => (refine sz_of ?_; omega)))
  | ((with_reducible refine' w_lenL ?w_h ?w_k); (case w_h => walk_at "seq"))
  | ((with_reducible refine' w_addS ?w_h ?w_k); (case w_h => (refine sz_of ?_; omega)))
  | ((with_reducible refine' w_slS ?w_h ?w_k); (case w_h => (refine sz_of ?_; omega)))
  | ((with_reducible refine' w_iList' ?w_h ?w_k); (case w_h => walk_at "seq"))
  | ((with_reducible refine' w_iEnum' ?w_h ?w_k); (case w_h => walk_at "seq"))
  | ((with_reducible refine' w_iRng1' ?w_h ?w_k); (case w_h => omega))
  | ((with_reducible refine' w_fldG ?w_h ?w_c ?w_n ?w_l ?w_k); (case w_h => walk_at "fact"); (case w_c => walk_at "cls"); (case w_n => walk_at "noat"); (case w_l => exact rfl))
  | ((with_reducible refine' w_methG ?w_h ?w_c ?w_l ?w_k); (case w_h => walk_at "fact"); (case w_c => exact rfl); (case w_l => exact rfl))
  | ((with_reducible refine' w_fldS ?w_h ?w_c ?w_n ?w_l ?w_k); (case w_h => walk_at "fact"); (case w_c => walk_at "cls"); (case w_n => walk_at "noat"); (case w_l => exact Nat.le_of_ble_eq_true rfl); (generalize w_hq : upd _ _ _ = w_H; have w_at := new_at w_hq; have w_off := new_off w_hq; clear w_hq))
  | ((with_reducible refine' ⟨_, _, _, _, rfl, ?w_h, ?w_c, ?w_n, ?w_l, ?w_k⟩); (case w_h => walk_at "fact"); (case w_c => walk_at "cls"); (case w_n => walk_at "noat"); (case w_l => exact Nat.le_of_ble_eq_true rfl); (generalize w_hq : upd _ _ _ = w_H; have w_at := new_at w_hq; have w_off := new_off w_hq; clear w_hq))
  | ((with_reducible refine' w_yes ?w_h ?w_k); (case w_h => first | assumption | omega))
  | ((with_reducible refine' w_no ?w_h ?w_k); (case w_h => first | assumption | omega))
  | ((with_reducible refine' w_yesN ?w_h ?w_k); (case w_h => first | assumption | omega))
  | ((with_reducible refine' w_noN ?w_h ?w_k); (case w_h => first | assumption | omega))
  | ((with_reducible refine' w_ixLn ?w_h ?w_e ?w_k); (case w_h => walk_at "seq"); (case w_e => first | assumption | exact rfl))
  | ((with_reducible refine' w_ixTn ?w_h ?w_e ?w_k); (case w_h => (refine' SqT.of ?w_f; (case w_f => walk_at "fact"))); (case w_e => exact rfl))
  | ((with_reducible refine' w_rep1 ?w_h ?w_n ?w_k); (case w_h => walk_at "fact"); (case w_n => omega))
  | ((with_reducible refine' w_divN ?w_n ?w_k); (case w_n => omega))
  | ((with_reducible refine' w_isiI (u := true) ?w_n ?w_k); (case w_n => exact rfl))
  | ((with_reducible refine' w_isiI (u := false) ?w_n ?w_k); (case w_n => exact rfl))
  | ((with_reducible refine' w_isiS (u := true) ?w_n ?w_k); (case w_n => exact rfl))
  | ((with_reducible refine' w_isiS (u := false) ?w_n ?w_k); (case w_n => exact rfl))
  | ((with_reducible refine' w_gtup ?w_h ?w_n ?w_k); (case w_h => (refine' SqT.of ?w_f; (case w_f => walk_at "fact"))); (case w_n => exact rfl))
  | ((with_reducible refine' w_zfillN ?w_n ?w_k); (case w_n => omega))
  | ((with_reducible refine' w_strOk ?w_k))
  | ((with_reducible refine' w_lstOk ?w_h ?w_k); (case w_h => (refine' SqL.of ?w_f; (case w_f => walk_at "fact"))))
  | ((with_reducible refine' w_sz ?w_h ?w_k); (case w_h => exact (by decide)))
  | ((with_reducible refine w_newI ?_); (intro w_p w_fr; generalize w_hq : upd _ w_p _ = w_H; have w_ex := new_ex w_hq w_fr; have w_at := new_at w_hq; have w_of := new_of w_hq; clear w_hq)))
local macro_rules | `(tactic| walk_at "w") => `(tactic| repeat (first | walk_at "w1" | walk_at "w2"))

section
variable {P : Program} {w : World} {K : PySem.W.Frag} {mg : Str → Option Value} {base : Heap}
/-! ### a field -/
/-- a field by a good rule, at a -/
def FieldAt (K : PySem.W.Frag) (H : Hp) (a : Addr) (rule width last : Nat) : Prop := ∃ dx p l, H a = some (.ins (He.ga K "Field") dx [("rule", nV rule), ("width", nV width), ("last", nV last), ("powers", .ref p), ("logs", .ref l)]) ∧
  H p = some (.lst ((orbL rule last last).map nV)) ∧ H l = some (.lst ((logL rule last last).map nV))
theorem FieldAt.mono {H H' : Hp} {a : Addr} {rule width last : Nat} (e : Ex H H') (h : FieldAt K H a rule width last) : FieldAt K H' a rule width last := by
  obtain ⟨dx, p, l, h1, h2, h3⟩ := h
  exact ⟨dx, p, l, e _ _ h1, e _ _ h2, e _ _ h3⟩
def sp_Field_init (K : PySem.W.Frag) : Sp := fun vs H Q _ => ∃ (a dx : Addr) (rule width last : Nat), vs = [.ref a, nV rule] ∧ Good rule width last ∧ H a = some (.ins (He.ga K "Field") dx []) ∧
  ∀ H', Off a H H' → FieldAt K H' a rule width last → Q .non H'
theorem c_Field___init__ (T : Tx K mg) : Callee P w K mg base 3 (He.fAd K ("Field", some "__init__")) ["self", "rule"] (sp_Field_init K) := by
  obtain ⟨fd, F⟩ := F_Field___init__ T
  have c_walk_of := c_walk_of (P := P) (w := w) (base := base) T
  refine ⟨⟨fd, F.ok sc_Field___init__ (fun vs H Q E h => by first | (obtain ⟨rfl, _⟩ := h; rfl) | (obtain ⟨_, rfl, _⟩ := h; rfl) | (obtain ⟨_, _, rfl, _⟩ := h; rfl) | (obtain ⟨_, _, _, rfl, _⟩ := h; rfl) | (obtain ⟨_, _, _, _, rfl, _⟩ := h; rfl) | (obtain ⟨_, _, _, _, _, rfl, _⟩ := h; rfl) | (obtain ⟨_, _, _, _, _, _, rfl, _⟩ := h; rfl) | (obtain ⟨_, _, _, _, _, _, _, rfl, _⟩ := h; rfl) | (obtain ⟨_, _, _, _, _, _, _, _, rfl, _⟩ := h; rfl) | (obtain ⟨_, _, _, _, _, _, _, _, _, rfl, _⟩ := h; rfl) | (obtain ⟨_, _, _, _, _, _, _, _, _, _, rfl, _⟩ := h; rfl) | (obtain ⟨_, _, _, _, _, _, _, _, _, _, _, rfl, _⟩ := h; rfl) | (obtain ⟨_, _, _, _, _, _, _, _, _, _, _, _, rfl, _⟩ := h; rfl) | (obtain ⟨_, _, _, _, _, _, _, _, _, _, _, _, _, rfl, _⟩ := h; rfl)) (fun cdv A outer s H vs Q E hr h => ⟨_, (pss_cons (ps_if (PW.pt (pw_or (pt_not (pt_chain n_le n_lt (pe_globE (int_LEAST_RULE T)) (pv 1) (pe_globE (int_END_OF_RULES T)))) (pw_or1 (pt_cmpR n_eq (pe_op n_mod (pv 1) (pe_nat 2)) (pe_nat 0) (nomark _))))) (pss_one ps_never) pss_nil)
    (pss_cons (ps_fld (pv 0) (pv 1) rfl)
    (pss_cons (ps_fld (pv 0) (pe_op n_sub (pe_bits (pv 1)) (pe_nat 1)) rfl)
    (pss_cons (ps_fld (pv 0) (pe_op n_sub (pe_op n_shl (pe_nat 1) (pe_fld (pv 0) rfl)) (pe_nat 1)) rfl)
    (pss_cons (ps_fld (pv 0) (pe_f c_walk_of (glo_walk_of T) hr (by decide) (takes_of rfl rfl rfl rfl) (pa_cons (pv 1) (pa_cons (pe_fld (pv 0) rfl) pa_nil))) rfl)
    (pss_cons (ps_if (pt_cmpR n_lt (pe_callB call_lenL (by rfl) (free_len T) PySem.boot_len (pa_cons (pe_fld (pv 0) rfl) pa_nil)) (pe_fld (pv 0) rfl) (nomark _)) (pss_one ps_never) pss_nil)
    (pss_cons (ps_fld (pv 0) (pe_op op_rep (pe_lst (pa_cons (pe_nat 0) pa_nil)) (pe_op n_add (pe_fld (pv 0) rfl) (pe_nat 1))) rfl)
    (pss_one (ps_for (passes_of rfl) rfl (pi_enum (by rfl) (free_enumerate T) (pa_cons (pe_fld (pv 0) rfl) pa_nil)) (pg_tup rfl (pgs_cons (pg_name (i := 2) sc_Field___init__.nd rfl (by first | exact Or.inl rfl | exact Or.inr rfl)) (pgs_cons (pg_name (i := 3) sc_Field___init__.nd rfl (by first | exact Or.inl rfl | exact Or.inr rfl)) pgs_nil))) (pss_one (ps_asg (pv 2) (pg_sub (pe_fld (pv 0) rfl) (pv 3) set_list)))))))))))), ?_⟩), F.bindsN (fun _ _ _ _ _ _ us hl => match us, hl with | [_, _], _ => rfl)⟩, F.kp⟩
  try dsimp only [cxOf_K]
  obtain ⟨a, dx, rule, width, last, rfl, G, ha, k⟩ := h
  refine w_start (σ := [some (.ref a), some (nV rule), none, none]) rfl ?_
  have g1 := G.lo
  have g2 := G.hi
  have g3 := G.odd
  have g4 := G.wid
  have g5 : 1 <<< (width + 1 - 1) = last + 1 := by rw [Nat.add_sub_cancel]; rw [Nat.shiftLeft_eq, Nat.one_mul, G.top]
  have g6 : last + 1 ≤ 256 := by rw [G.top]; exact Nat.pow_le_pow_right (n := 2) (by decide) g4
  walk_at "w"
  rw [G.bits]
  walk_at "w"
  rw [g5]
  walk_at "w"
  refine ⟨rule, last, last, rfl, G.back, fun j hj => by have := G.lows j hj; have := G.top; have h8 : 2 ^ width ≤ 2 ^ 8 := Nat.pow_le_pow_right (by decide) g4; omega, ?_⟩
  intro p H4 fr4 ex4 at4
  have z1 : ((orbL rule last last).map nV).length = last := by rw [List.length_map, orbL_len]
  walk_at "w"
  rename_i Hr b1 o1 H1 a1 o2 H2 a2 o3 H3 a3 o5 p6 f6 H6 e6 a6 n6 l f7 H7 e7 a7 n7 H8 a8 o8
  have o67 : Off a H H6 := o1.trans (o2.trans (o3.trans (Off.trans ex4.off (o5.trans e6.off))))
  have eL : 1 <<< (width + 1 - 1) - 1 = last := by omega
  rw [eL] at a7
  have a9 : H8 a = some (.ins (He.ga K "Field") dx [("rule", nV rule), ("width", nV width), ("last", nV last), ("powers", .ref p), ("logs", .ref l)]) := by
    rw [a8, eL]
    rfl
  have h7 : H7 a = some (.ins (He.ga K "Field") dx (putF (Str.ofString "powers") (V.ref p) (putF (Str.ofString "last") (nV (1 <<< (width + 1 - 1) - 1)) (putF (Str.ofString "width") (nV (width + 1 - 1)) (putF (Str.ofString "rule") (nV rule) []))))) := e7 _ _ (e6 _ _ a3)
  have fl : H l = none := o67.free f7 (e6 _ _ a3)
  have la : l ≠ a := fun z => by rw [z, e6 _ _ a3] at f7; cases f7
  have hp8 : H8 p = some (.lst ((orbL rule last last).map nV)) := (o8.goL h7 (e7 _ _ (e6 _ _ (o5.goL (ex4 _ _ a2) at4))))
  have lp : l ≠ p := fun z => by
    rw [z, e6 _ _ (o5.goL (ex4 _ _ a2) at4)] at f7
    cases f7
  refine w_loop (fun i σ H' => (∃ x y, σ = [some (.ref a), some (nV rule), x, y]) ∧ Off a H H' ∧ H' p = some (.lst ((orbL rule last last).map nV)) ∧ H' l = some (.lst ((logL rule last i).map nV)) ∧
    H' a = some (.ins (He.ga K "Field") dx [("rule", nV rule), ("width", nV width), ("last", nV last), ("powers", .ref p), ("logs", .ref l)])) (it_enum (.of (oneH_at (o := .lst ((orbL rule last last).map nV)))))
    ⟨⟨_, _, rfl⟩, o67.trans (Off.trans e7.off o8), hp8, ?_, a9⟩ (fun i σ H' h => Ex.one h.2.2.1) ?_ ?_
  · rw [o8.goL h7 a7]
    unfold logL
    simp
  · rintro i v σ H9 H10 hi ⟨⟨x, y, rfl⟩, p1, p2, p3, p4⟩ e ⟨T, v, rfl, hv, hT⟩
    rw [z1] at hi
    have hj := G.lows i hi
    have hv' : v = nV (orb rule last i) := by
      rw [orbL, List.getElem?_map, List.getElem?_map, List.getElem?_range hi] at hv
      exact (Option.some.inj hv).symm
    subst hv'
    refine w_gtup (.of hT) rfl ?_
    walk_at "w"
    refine w_setL (e _ _ p3) (ixN_nat (by rw [List.length_map, logL_len]; omega)) ?_
    walk_at "w"
    refine ⟨⟨_, _, rfl⟩, ?_, ?_, ?_, ?_⟩
    · exact (p1.trans e.off).mut fl
    · rw [upd_ne (fun z => lp z.symm)]
      exact e _ _ p2
    · rw [upd_same, logL_succ, List.map_set]
    · rw [upd_ne (fun z => la z.symm)]
      exact e _ _ p4
  · rw [z1]
    rintro σ H' ⟨_, p1, p2, p3, p4⟩
    exact k H' p1 ⟨dx, p, l, p4, p2, p3⟩
end
end Prog


namespace Prog
open PySem PySem.Spec PyProof.Rows L2 Plk
local macro_rules | `(tactic| walk_at "cls") => `(tactic| first | exact cls_Blocks (by assumption) | exact cls_Field (by assumption))
local macro_rules | `(tactic| walk_at "noat") => `(tactic| with_reducible first | exact noat_Blocks_field (by assumption) | exact noat_Blocks_many (by assumption) | exact noat_Blocks_limit (by assumption) | exact noat_Blocks_ones (by assumption) | exact noat_Field_rule (by assumption) | exact noat_Field_width (by assumption) | exact noat_Field_last (by assumption) | exact noat_Field_powers (by assumption) | exact noat_Field_logs (by assumption))
local macro_rules | `(tactic| walk_at "fact") => `(tactic| first
  | assumption
  | (refine' Ex.go ?w_e ?w_f; (case w_e => assumption); (case w_f => walk_at "fact"))
  | (refine' Off.go ?w_e ?w_n ?w_f; (case w_e => assumption); (case w_n => assumption); (case w_f => walk_at "fact"))
  | (refine' Off.goL ?w_e ?w_i ?w_f; (case w_e => assumption); (case w_i => walk_at "fact"); (case w_f => walk_at "fact"))
  | (refine' Off.goT ?w_e ?w_i ?w_f; (case w_e => assumption); (case w_i => walk_at "fact"); (case w_f => walk_at "fact")))
local macro_rules | `(tactic| walk_at "seq") => `(tactic| first | assumption | (refine' SqL.of ?w_f; (case w_f => walk_at "fact")) | (refine' Ex.sl ?w_e ?w_f; (case w_e => assumption); (case w_f => walk_at "seq")))
local macro_rules | `(tactic| walk_at "w1") => `(tactic| with_reducible first
  | refine w_seq ?_ | refine w_tYes ?_ | refine w_try ?_ | refine w_raise ?_ | refine w_asg ?_ | refine w_op ?_ | refine w_cons ?_ | refine w_nil ?_ | refine w_c ?_ | refine w_n0 ?_ | refine w_i0 ?_ | refine w_u ?_
  | refine w_ret ?_ | refine w_retN ?_ | refine w_drop ?_ | refine w_ifs ?_ | refine w_test ?_ | refine w_B ?_ | refine w_bl ?_ | refine w_and ?_ | refine w_or ?_ | refine w_not ?_ | refine w_cb ?_ | refine w_call ?_ | refine w_meth ?_ | refine w_make ?_
  | refine w_nx ?_ | refine w_rt ?_ | refine w_bk ?_ | refine w_ct ?_ | refine w_next ?_ | refine w_brk ?_ | refine w_cont ?_
  | refine w_lst ?_ | refine w_tup ?_ | refine w_bm ?_ | refine w_bm0 ?_ | refine w_m1 ?_ | refine w_m0 ?_ | refine w_sl ?_ | refine w_part ?_ | refine w_nopart ?_ | refine w_int ?_ | refine w_ifE ?_ | refine w_bits ?_
  | refine w_for ?_ | refine w_lc ?_ | refine w_iList ?_ | refine w_iStr ?_ | refine w_iStr' ?_ | refine w_iRng1 ?_ | refine w_iRng2 ?_ | refine w_iEnum ?_ | refine w_iZip ?_ | refine w_gcons ?_ | refine w_gnil ?_ | refine w_gsub ?_
  | refine w_isN ?_ | refine w_notN ?_ | refine w_inS ?_ | refine w_notInS ?_ | refine w_find ?_ | refine w_max2 ?_ | refine w_min2 ?_ | refine w_un ?_ | refine w_sfld ?_ | refine w_fld1 ?_ | refine w_unop ?_ | refine w_chain ?_ | refine w_andV ?_ | refine w_orV ?_ | refine w_notV ?_
  | refine w_iteNF ?_ | refine w_iteNT ?_ | refine w_iteT ?_ | refine w_iteF ?_)
local macro_rules | `(tactic| walk_at "w2") => `(tactic| first
  | ((with_reducible refine' w_var ?w_h ?w_k); (case w_h => exact rfl))
  | ((with_reducible refine' w_gname' ?w_h ?w_k); (case w_h => first | (dsimp only [List.set]; done) | (dsimp only [List.set]; exact rfl)))
  | ((with_reducible refine' w_aug ?w_h ?w_k); (case w_h => exact rfl))
  | ((with_reducible refine' w_eq ?w_h ?w_k); (case w_h => exact rfl))
  | ((with_reducible refine' w_ne ?w_h ?w_k); (case w_h => exact rfl))
  | ((with_reducible refine' w_n ?w_h ?w_k); (case w_h => first | trivial | omega | assumption | decide))
  | ((with_reducible refine' w_i ?w_h ?w_k); (case w_h => first | trivial | omega | assumption | decide))
  | ((with_reducible refine' w_imod ?w_h ?w_k); (case w_h => first | omega | assumption | decide))
  | ((with_reducible refine' w_lenS ?w_h ?w_k); (case w_h => (refine sz_of ?_; omega)))
  | ((with_reducible refine' w_lenL ?w_h ?w_k); (case w_h => walk_at "seq"))
  | ((with_reducible refine' w_addS ?w_h ?w_k); (case w_h => (refine sz_of ?_; omega)))
  | ((with_reducible refine' w_slS ?w_h ?w_k); (case w_h => (refine sz_of ?_; omega)))
  | ((with_reducible refine' w_iList' ?w_h ?w_k); (case w_h => walk_at "seq"))
  | ((with_reducible refine' w_iEnum' ?w_h ?w_k); (case w_h => walk_at "seq"))
  | ((with_reducible refine' w_iRng1' ?w_h ?w_k); (case w_h => omega))
  | ((with_reducible refine' w_fldG ?w_h ?w_c ?w_n ?w_l ?w_k); (case w_h => walk_at "fact"); (case w_c => walk_at "cls"); (case w_n => walk_at "noat"); (case w_l => exact rfl))
  | ((with_reducible refine' w_methG ?w_h ?w_c ?w_l ?w_k); (case w_h => walk_at "fact"); (case w_c => exact rfl); (case w_l => exact rfl))
  | ((with_reducible refine' w_fldS ?w_h ?w_c ?w_n ?w_l ?w_k); (case w_h => walk_at "fact"); (case w_c => walk_at "cls"); (case w_n => walk_at "noat"); (case w_l => exact Nat.le_of_ble_eq_true rfl); (generalize w_hq : upd _ _ _ = w_H; have w_at := new_at w_hq; have w_off := new_off w_hq; clear w_hq))
  | ((with_reducible refine' ⟨_, _, _, _, rfl, ?w_h, ?w_c, ?w_n, ?w_l, ?w_k⟩); (case w_h => walk_at "fact"); (case w_c => walk_at "cls"); (case w_n => walk_at "noat"); (case w_l => exact Nat.le_of_ble_eq_true rfl); (generalize w_hq : upd _ _ _ = w_H; have w_at := new_at w_hq; have w_off := new_off w_hq; clear w_hq))
  | ((with_reducible refine' w_yes ?w_h ?w_k); (case w_h => first | assumption | omega))
  | ((with_reducible refine' w_no ?w_h ?w_k); (case w_h => first | assumption | omega))
  | ((with_reducible refine' w_yesN ?w_h ?w_k); (case w_h => first | assumption | omega))
  | ((with_reducible refine' w_noN ?w_h ?w_k); (case w_h => first | assumption | omega))
  | ((with_reducible refine' w_ixLn ?w_h ?w_e ?w_k); (case w_h => walk_at "seq"); (case w_e => first | assumption | exact rfl))
  | ((with_reducible refine' w_ixTn ?w_h ?w_e ?w_k); (case w_h => (refine' SqT.of ?w_f; (case w_f => walk_at "fact"))); (case w_e => exact rfl))
  | ((with_reducible refine' w_rep1 ?w_h ?w_n ?w_k); (case w_h => walk_at "fact"); (case w_n => omega))
  | ((with_reducible refine' w_divN ?w_n ?w_k); (case w_n => omega))
  | ((with_reducible refine' w_isiI (u := true) ?w_n ?w_k); (case w_n => exact rfl))
  | ((with_reducible refine' w_isiI (u := false) ?w_n ?w_k); (case w_n => exact rfl))
  | ((with_reducible refine' w_isiS (u := true) ?w_n ?w_k); (case w_n => exact rfl))
  | ((with_reducible refine' w_isiS (u := false) ?w_n ?w_k); (case w_n => exact rfl))
  | ((with_reducible refine' w_gtup ?w_h ?w_n ?w_k); (case w_h => (refine' SqT.of ?w_f; (case w_f => walk_at "fact"))); (case w_n => exact rfl))
  | ((with_reducible refine' w_zfillN ?w_n ?w_k); (case w_n => omega))
  | ((with_reducible refine' w_strOk ?w_k))
  | ((with_reducible refine' w_lstOk ?w_h ?w_k); (case w_h => (refine' SqL.of ?w_f; (case w_f => walk_at "fact"))))
  | ((with_reducible refine' w_sz ?w_h ?w_k); (case w_h => exact (by decide)))
  | ((with_reducible refine w_newI ?_); (intro w_p w_fr; generalize w_hq : upd _ w_p _ = w_H; have w_ex := new_ex w_hq w_fr; have w_at := new_at w_hq; have w_of := new_of w_hq; clear w_hq)))
local macro_rules | `(tactic| walk_at "w") => `(tactic| repeat (first | walk_at "w1" | walk_at "w2"))

section
variable {P : Program} {w : World} {K : PySem.W.Frag} {mg : Str → Option Value} {base : Heap}
/-! ### blocks -/
def BlocksAt (K : PySem.W.Frag) (H : Hp) (a f : Addr) (rule width last many : Nat) : Prop := ∃ dx, H a = some (.ins (He.ga K "Blocks") dx [("field", .ref f), ("many", nV many), ("limit", nV (1 <<< (width * many))), ("ones", nV ((1 <<< (width * many) - 1) / last))]) ∧
  FieldAt K H f rule width last ∧ Good rule width last ∧ 1 ≤ many ∧ many ≤ 16
theorem BlocksAt.mono {H H' : Hp} {a f : Addr} {rule width last many : Nat} (e : Ex H H') (h : BlocksAt K H a f rule width last many) : BlocksAt K H' a f rule width last many := by
  obtain ⟨dx, h1, h2⟩ := h
  exact ⟨dx, e _ _ h1, h2.1.mono e, h2.2⟩
theorem FieldAt.off {H H' : Hp} {a f C dx : Addr} {rule width last : Nat} (e : Off a H H') (ha : H a = some (.ins C dx [])) (h : FieldAt K H f rule width last) : FieldAt K H' f rule width last := by
  obtain ⟨d, p, l, h1, h2, h3⟩ := h
  exact ⟨d, p, l, e f _ (ne_of h1 ha (by intro z; cases ins_fs z)) h1, e.goL ha h2, e.goL ha h3⟩
def sp_Blocks_init (K : PySem.W.Frag) : Sp := fun vs H Q _ => ∃ (a dx f : Addr) (rule width last many : Nat), vs = [.ref a, .ref f, nV many] ∧ Good rule width last ∧ FieldAt K H f rule width last ∧ 1 ≤ many ∧ many ≤ 16 ∧ H a = some (.ins (He.ga K "Blocks") dx []) ∧
  ∀ H', Off a H H' → BlocksAt K H' a f rule width last many → Q .non H'
theorem c_Blocks___init__ (T : Tx K mg) : Callee P w K mg base 1 (He.fAd K ("Blocks", some "__init__")) ["self", "field", "many"] (sp_Blocks_init K) := by
  obtain ⟨fd, F⟩ := F_Blocks___init__ T
  refine ⟨⟨fd, F.ok sc_Blocks___init__ (fun vs H Q E h => by first | (obtain ⟨rfl, _⟩ := h; rfl) | (obtain ⟨_, rfl, _⟩ := h; rfl) | (obtain ⟨_, _, rfl, _⟩ := h; rfl) | (obtain ⟨_, _, _, rfl, _⟩ := h; rfl) | (obtain ⟨_, _, _, _, rfl, _⟩ := h; rfl) | (obtain ⟨_, _, _, _, _, rfl, _⟩ := h; rfl) | (obtain ⟨_, _, _, _, _, _, rfl, _⟩ := h; rfl) | (obtain ⟨_, _, _, _, _, _, _, rfl, _⟩ := h; rfl) | (obtain ⟨_, _, _, _, _, _, _, _, rfl, _⟩ := h; rfl) | (obtain ⟨_, _, _, _, _, _, _, _, _, rfl, _⟩ := h; rfl) | (obtain ⟨_, _, _, _, _, _, _, _, _, _, rfl, _⟩ := h; rfl) | (obtain ⟨_, _, _, _, _, _, _, _, _, _, _, rfl, _⟩ := h; rfl) | (obtain ⟨_, _, _, _, _, _, _, _, _, _, _, _, rfl, _⟩ := h; rfl) | (obtain ⟨_, _, _, _, _, _, _, _, _, _, _, _, _, rfl, _⟩ := h; rfl)) (fun cdv A outer s H vs Q E hr h => ⟨_, (pss_cons (ps_if (pt_not (pt_chain n_le n_le (pe_nat 1) (pv 2) (pe_globE (int_MOST_SYMBOLS T)))) (pss_one ps_never) pss_nil)
    (pss_cons (ps_fld (pv 0) (pv 1) rfl)
    (pss_cons (ps_fld (pv 0) (pv 2) rfl)
    (pss_cons (ps_fld (pv 0) (pe_op n_shl (pe_nat 1) (pe_op n_mul (pe_fld (pv 1) rfl) (pv 2))) rfl)
    (pss_one (ps_fld (pv 0) (pe_op n_fdiv (pe_op n_sub (pe_fld (pv 0) rfl) (pe_nat 1)) (pe_fld (pv 1) rfl)) rfl)))))), ?_⟩), F.bindsN (fun _ _ _ _ _ _ us hl => match us, hl with | [_, _, _], _ => rfl)⟩, F.kp⟩
  try dsimp only [cxOf_K]
  obtain ⟨a, dx, f, rule, width, last, many, rfl, G, hf, m1, m2, ha, k⟩ := h
  refine w_start (σ := [some (.ref a), some (.ref f), some (nV many)]) rfl ?_
  obtain ⟨df, p, l, h1, h2, h3⟩ := id hf
  have g0 := G.back.pos
  have g1 := G.back.small
  have g2 := G.wid
  have h4 : width * many ≤ 8 * 16 := Nat.mul_le_mul g2 m2
  have h6 := G.back.pos
  have h5 : 0 < 1 <<< (width * many) := by rw [Nat.shiftLeft_eq, Nat.one_mul]; exact Nat.pow_pos (by decide)
  have nf : f ≠ a := ne_of h1 ha (by intro z; cases ins_fs z)
  walk_at "w"
  rename_i H1 a1 o1 H2 a2 o2 H3 a3 o3 H4 a4 o4
  have o := ((o1.trans o2).trans o3).trans o4
  exact k _ o ⟨dx, a4, hf.off o ha, G, m1, m2⟩
def sp_good (K : PySem.W.Frag) : Sp := fun vs H Q _ => ∃ (a f : Addr) (rule width last many b : Nat), vs = [.ref a, nV b] ∧ BlocksAt K H a f rule width last many ∧ Q (.bl (decide (b < 1 <<< (width * many)))) H
theorem c_Blocks_good (T : Tx K mg) : Callee P w K mg base 1 (He.fAd K ("Blocks", some "good")) ["self", "block"] (sp_good K) := by
  obtain ⟨fd, F⟩ := F_Blocks_good T
  refine ⟨⟨fd, F.ok sc_Blocks_good (fun vs H Q E h => by first | (obtain ⟨rfl, _⟩ := h; rfl) | (obtain ⟨_, rfl, _⟩ := h; rfl) | (obtain ⟨_, _, rfl, _⟩ := h; rfl) | (obtain ⟨_, _, _, rfl, _⟩ := h; rfl) | (obtain ⟨_, _, _, _, rfl, _⟩ := h; rfl) | (obtain ⟨_, _, _, _, _, rfl, _⟩ := h; rfl) | (obtain ⟨_, _, _, _, _, _, rfl, _⟩ := h; rfl) | (obtain ⟨_, _, _, _, _, _, _, rfl, _⟩ := h; rfl) | (obtain ⟨_, _, _, _, _, _, _, _, rfl, _⟩ := h; rfl) | (obtain ⟨_, _, _, _, _, _, _, _, _, rfl, _⟩ := h; rfl) | (obtain ⟨_, _, _, _, _, _, _, _, _, _, rfl, _⟩ := h; rfl) | (obtain ⟨_, _, _, _, _, _, _, _, _, _, _, rfl, _⟩ := h; rfl) | (obtain ⟨_, _, _, _, _, _, _, _, _, _, _, _, rfl, _⟩ := h; rfl) | (obtain ⟨_, _, _, _, _, _, _, _, _, _, _, _, _, rfl, _⟩ := h; rfl)) (fun cdv A outer s H vs Q E hr h => ⟨_, (pss_one (ps_ret (pe_chain n_le n_lt (pe_nat 0) (pv 1) (pe_fld (pv 0) rfl)))), ?_⟩), F.bindsN (fun _ _ _ _ _ _ us hl => match us, hl with | [_, _], _ => rfl)⟩, F.kp⟩
  try dsimp only [cxOf_K]
  obtain ⟨a, f, rule, width, last, many, b, rfl, ⟨dx, h1, h2⟩, k⟩ := h
  refine w_start (σ := [some (.ref a), some (nV b)]) rfl ?_
  walk_at "w"
  exact k
def sp_figures_of (K : PySem.W.Frag) : Sp := fun vs H Q _ => ∃ (a f : Addr) (rule width last many : Nat), vs = [.ref a] ∧ BlocksAt K H a f rule width last many ∧ Q (nV ((width * many + 3) / 4)) H
theorem c_figures_of (T : Tx K mg) : Callee P w K mg base 1 (He.fAd K ("figures_of", none)) ["blocks"] (sp_figures_of K) := by
  obtain ⟨fd, F⟩ := F_figures_of T
  refine ⟨⟨fd, F.ok sc_figures_of (fun vs H Q E h => by first | (obtain ⟨rfl, _⟩ := h; rfl) | (obtain ⟨_, rfl, _⟩ := h; rfl) | (obtain ⟨_, _, rfl, _⟩ := h; rfl) | (obtain ⟨_, _, _, rfl, _⟩ := h; rfl) | (obtain ⟨_, _, _, _, rfl, _⟩ := h; rfl) | (obtain ⟨_, _, _, _, _, rfl, _⟩ := h; rfl) | (obtain ⟨_, _, _, _, _, _, rfl, _⟩ := h; rfl) | (obtain ⟨_, _, _, _, _, _, _, rfl, _⟩ := h; rfl) | (obtain ⟨_, _, _, _, _, _, _, _, rfl, _⟩ := h; rfl) | (obtain ⟨_, _, _, _, _, _, _, _, _, rfl, _⟩ := h; rfl) | (obtain ⟨_, _, _, _, _, _, _, _, _, _, rfl, _⟩ := h; rfl) | (obtain ⟨_, _, _, _, _, _, _, _, _, _, _, rfl, _⟩ := h; rfl) | (obtain ⟨_, _, _, _, _, _, _, _, _, _, _, _, rfl, _⟩ := h; rfl) | (obtain ⟨_, _, _, _, _, _, _, _, _, _, _, _, _, rfl, _⟩ := h; rfl)) (fun cdv A outer s H vs Q E hr h => ⟨_, (pss_one (ps_ret (pe_op n_fdiv (pe_op n_add (pe_op n_mul (pe_fld (pe_fld (pv 0) rfl) rfl) (pe_fld (pv 0) rfl)) (pe_nat 3)) (pe_nat 4)))), ?_⟩), F.bindsN (fun _ _ _ _ _ _ us hl => match us, hl with | [_], _ => rfl)⟩, F.kp⟩
  try dsimp only [cxOf_K]
  obtain ⟨a, f, rule, width, last, many, rfl, ⟨dx, h1, ⟨df, p, l, h2, h3, h4⟩, G, m1, m2⟩, k⟩ := h
  have g2 := G.wid
  have g3 : width * many ≤ 8 * 16 := Nat.mul_le_mul g2 m2
  refine w_start (σ := [some (.ref a)]) rfl ?_
  walk_at "w"
  exact k
def sp_shown_block (K : PySem.W.Frag) : Sp := fun vs H Q _ => ∃ (a f : Addr) (rule width last many b : Nat), vs = [.ref a, nV b] ∧ BlocksAt K H a f rule width last many ∧ (width * many + 3) / 4 ≤ 100 ∧ b < 16 ^ ((width * many + 3) / 4) ∧
  ∀ H', Ex H H' → Q (.str (sS (hexN b ((width * many + 3) / 4)))) H'
theorem c_shown_block (T : Tx K mg) : Callee P w K mg base 2 (He.fAd K ("shown_block", none)) ["blocks", "block"] (sp_shown_block K) := by
  obtain ⟨fd, F⟩ := F_shown_block T
  have c_figures_of := c_figures_of (P := P) (w := w) (base := base) T
  refine ⟨⟨fd, F.ok sc_shown_block (fun vs H Q E h => by first | (obtain ⟨rfl, _⟩ := h; rfl) | (obtain ⟨_, rfl, _⟩ := h; rfl) | (obtain ⟨_, _, rfl, _⟩ := h; rfl) | (obtain ⟨_, _, _, rfl, _⟩ := h; rfl) | (obtain ⟨_, _, _, _, rfl, _⟩ := h; rfl) | (obtain ⟨_, _, _, _, _, rfl, _⟩ := h; rfl) | (obtain ⟨_, _, _, _, _, _, rfl, _⟩ := h; rfl) | (obtain ⟨_, _, _, _, _, _, _, rfl, _⟩ := h; rfl) | (obtain ⟨_, _, _, _, _, _, _, _, rfl, _⟩ := h; rfl) | (obtain ⟨_, _, _, _, _, _, _, _, _, rfl, _⟩ := h; rfl) | (obtain ⟨_, _, _, _, _, _, _, _, _, _, rfl, _⟩ := h; rfl) | (obtain ⟨_, _, _, _, _, _, _, _, _, _, _, rfl, _⟩ := h; rfl) | (obtain ⟨_, _, _, _, _, _, _, _, _, _, _, _, rfl, _⟩ := h; rfl) | (obtain ⟨_, _, _, _, _, _, _, _, _, _, _, _, _, rfl, _⟩ := h; rfl)) (fun cdv A outer s H vs Q E hr h => ⟨_, (pss_cons (ps_set (i := 2) sc_shown_block.nd rfl (by first | exact Or.inl rfl | exact Or.inr rfl) pe_str)
    (pss_cons (ps_while (passes_of rfl) (pt_cmpR n_gt (pv 1) (pe_nat 0) (nomark _)) (pss_cons (ps_asg (pe_callB call_divN (by rfl) (free_divmod T) (by decide +kernel) (pa_cons (pv 1) (pa_cons (pe_nat 16) pa_nil))) (pg_tup rfl (pgs_cons (pg_name (i := 1) sc_shown_block.nd rfl (by first | exact Or.inl rfl | exact Or.inr rfl)) (pgs_cons (pg_name (i := 3) sc_shown_block.nd rfl (by first | exact Or.inl rfl | exact Or.inr rfl)) pgs_nil))))
    (pss_one (ps_set (i := 2) sc_shown_block.nd rfl (by first | exact Or.inl rfl | exact Or.inr rfl) (pe_op op_addS (pe_ix ix_str (pe_globE (str_FIGURES T)) (pv 3) (fun _ _ => rfl)) (pv 2))))))
    (pss_one (ps_ret (pe_m1 PySem.F.slot_str_zfill PySem.F.type_str_zfill mt_zfillR (pv 2) (pe_f c_figures_of (glo_figures_of T) hr (by decide) (takes_of rfl rfl rfl rfl) (pa_cons (pv 0) pa_nil))))))), ?_⟩), F.bindsN (fun _ _ _ _ _ _ us hl => match us, hl with | [_, _], _ => rfl)⟩, F.kp⟩
  try dsimp only [cxOf_K]
  obtain ⟨a, f, rule, width, last, many, b, rfl, hb, hw, hlt, k⟩ := h
  refine w_start (σ := [some (.ref a), some (nV b), none, none]) rfl ?_
  walk_at "w"
  refine w_while (fun m σ H' => ∃ j x, m = (width * many + 3) / 4 - j ∧ j ≤ (width * many + 3) / 4 ∧ σ = [some (.ref a), some (nV (b / 16 ^ j)), some (.str (sS (hexN b j))), x] ∧ Ex H H') ((width * many + 3) / 4)
    ⟨0, none, rfl, Nat.zero_le _, by rw [Nat.pow_zero, Nat.div_one]; rfl, Ex.refl _⟩ ?_
  rintro m σ H1 ⟨j, x, rfl, hj, rfl, e⟩
  walk_at "w"
  refine w_ite (fun c => ?_) (fun c => ?_)
  · have hj2 : j < (width * many + 3) / 4 := by
      refine Nat.lt_of_le_of_ne hj fun z => ?_
      rw [z, Nat.div_eq_of_lt hlt] at c
      exact Nat.lt_irrefl _ c
    refine ⟨fun σ' H' => (∃ x, σ' = [some (.ref a), some (nV (b / 16 ^ (j + 1))), some (.str (sS (hexN b (j + 1)))), x]) ∧ Ex H H', fun σ' H' ⟨⟨x, z⟩, e⟩ => ⟨(width * many + 3) / 4 - (j + 1), by omega, j + 1, x, rfl, hj2, z, e⟩, ?_⟩
    walk_at "w"
    have hm : b / 16 ^ j % 16 < 16 := Nat.mod_lt _ (by decide)
    refine w_ixSn (by decide +kernel) (by rw [figs_eq]; exact figs_at _ hm) ?_
    walk_at "w"
    refine w_addS (sz_of (by rw [sS_len, hexN_len]; show 1 + j ≤ _; omega)) ?_
    walk_at "w"
    rename_i w_p w_H w_ex w_at w_of
    refine ⟨⟨some (nV (b / 16 ^ j % 16)), ?_⟩, e.trans w_ex⟩
    rw [sS_cons, Nat.div_div_eq_div_mul, ← Nat.pow_succ]
    rfl
  · walk_at "w"
    refine ⟨a, f, rule, width, last, many, rfl, hb.mono e, ?_⟩
    walk_at "w"
    rw [zfill_hex (Nat.eq_zero_of_not_pos c) hj]
    exact k H1 e
def sp_read_block (K : PySem.W.Frag) : Sp := fun vs H Q E => ∃ (a f : Addr) (rule width last many : Nat) (z : List Nat), vs = [.ref a, .str (sS z)] ∧ BlocksAt K H a f rule width last many ∧ z.length ≤ 1000 ∧ width * many ≤ 1000 ∧
  (∀ n, z.length = (width * many + 3) / 4 → rd z 0 = some n → n < 1 <<< (width * many) → ∀ H', Ex H H' → Q (nV n) H') ∧
  ((z.length ≠ (width * many + 3) / 4 ∨ rd z 0 = none ∨ ∃ n, rd z 0 = some n ∧ ¬ n < 1 <<< (width * many)) → ∀ H', Ex H H' → E (.ref (He.ga K "NoLine")) none H')
theorem c_read_block (T : Tx K mg) : Callee P w K mg base 2 (He.fAd K ("read_block", none)) ["blocks", "text"] (sp_read_block K) := by
  obtain ⟨fd, F⟩ := F_read_block T
  have c_figures_of := c_figures_of (P := P) (w := w) (base := base) T
  have c_Blocks_good := c_Blocks_good (P := P) (w := w) (base := base) T
  refine ⟨⟨fd, F.ok sc_read_block (fun vs H Q E h => by first | (obtain ⟨rfl, _⟩ := h; rfl) | (obtain ⟨_, rfl, _⟩ := h; rfl) | (obtain ⟨_, _, rfl, _⟩ := h; rfl) | (obtain ⟨_, _, _, rfl, _⟩ := h; rfl) | (obtain ⟨_, _, _, _, rfl, _⟩ := h; rfl) | (obtain ⟨_, _, _, _, _, rfl, _⟩ := h; rfl) | (obtain ⟨_, _, _, _, _, _, rfl, _⟩ := h; rfl) | (obtain ⟨_, _, _, _, _, _, _, rfl, _⟩ := h; rfl) | (obtain ⟨_, _, _, _, _, _, _, _, rfl, _⟩ := h; rfl) | (obtain ⟨_, _, _, _, _, _, _, _, _, rfl, _⟩ := h; rfl) | (obtain ⟨_, _, _, _, _, _, _, _, _, _, rfl, _⟩ := h; rfl) | (obtain ⟨_, _, _, _, _, _, _, _, _, _, _, rfl, _⟩ := h; rfl) | (obtain ⟨_, _, _, _, _, _, _, _, _, _, _, _, rfl, _⟩ := h; rfl) | (obtain ⟨_, _, _, _, _, _, _, _, _, _, _, _, _, rfl, _⟩ := h; rfl)) (fun cdv A outer s H vs Q E hr h => ⟨_, (pss_cons (ps_if (pt_cmpR n_ne (pe_callB call_lenS (by rfl) (free_len T) PySem.boot_len (pa_cons (pv 1) pa_nil)) (pe_f c_figures_of (glo_figures_of T) hr (by decide) (takes_of rfl rfl rfl rfl) (pa_cons (pv 0) pa_nil)) (nomark _)) (pss_one (ps_raiseC rfl (takes_of rfl rfl rfl rfl) PySem.F.excBase_ValueError (exc_NoLine T).1 (glo_NoLine T) (exc_NoLine T).2.1 (raises_own (exc_NoLine T).2.2.1 (exc_NoLine T).2.2.2) rfl)) pss_nil)
    (pss_cons (ps_set (i := 2) sc_read_block.nd rfl (by first | exact Or.inl rfl | exact Or.inr rfl) (pe_nat 0))
    (pss_cons (ps_for (passes_of rfl) rfl (pi_str (pv 1)) (pg_name (i := 3) sc_read_block.nd rfl (by first | exact Or.inl rfl | exact Or.inr rfl)) (pss_cons (ps_if (pt_cmpR op_notInS (pv 3) (pe_globE (str_FIGURES T)) rfl) (pss_one (ps_raiseC rfl (takes_of rfl rfl rfl rfl) PySem.F.excBase_ValueError (exc_NoLine T).1 (glo_NoLine T) (exc_NoLine T).2.1 (raises_own (exc_NoLine T).2.2.1 (exc_NoLine T).2.2.2) rfl)) pss_nil)
    (pss_one (ps_set (i := 2) sc_read_block.nd rfl (by first | exact Or.inl rfl | exact Or.inr rfl) (pe_op n_or (pe_op n_shlW (pv 2) (pe_nat 4)) (pe_m1 PySem.F.slot_str_find PySem.F.type_str_find mt_findR (pe_globE (str_FIGURES T)) (pv 3)))))))
    (pss_cons (ps_if (pt_not (pt_val (pe_m (one_cls (cls_Blocks T) (meth_Blocks_good T) c_Blocks_good) (pv 0) hr (by decide) (takes_of rfl rfl rfl rfl) (pa_cons (pv 2) pa_nil)))) (pss_one (ps_raiseC rfl (takes_of rfl rfl rfl rfl) PySem.F.excBase_ValueError (exc_NoLine T).1 (glo_NoLine T) (exc_NoLine T).2.1 (raises_own (exc_NoLine T).2.2.1 (exc_NoLine T).2.2.2) rfl)) pss_nil)
    (pss_one (ps_ret (pv 2))))))), ?_⟩), F.bindsN (fun _ _ _ _ _ _ us hl => match us, hl with | [_, _], _ => rfl)⟩, F.kp⟩
  try dsimp only [cxOf_K]
  obtain ⟨a, f, rule, width, last, many, z, rfl, hb, hz, hw, k1, k2⟩ := h
  refine w_start (σ := [some (.ref a), some (.str (sS z)), none, none]) rfl ?_
  have hl := sS_len z
  obtain ⟨bx, ba, _⟩ := id hb
  walk_at "w"
  refine ⟨a, f, rule, width, last, many, rfl, hb, ?_⟩
  walk_at "w"
  rw [hl]
  refine w_ite (fun c => ?_) (fun c => ?_)
  · walk_at "w"
    exact k2 (.inl c) H (Ex.refl H)
  walk_at "w"
  have ln : (sS z).cps.toList.length = z.length := by rw [sS_list]
  refine w_loop (fun i σ H' => ∃ n x, rd (z.drop i) n = rd z 0 ∧ n < 16 ^ i ∧ σ = [some (.ref a), some (.str (sS z)), some (nV n), x] ∧ Ex H H') (it_str (H := H)) ⟨0, none, rfl, by decide, rfl, Ex.refl H⟩ (fun i σ H' ⟨_, _, _, _, _, q⟩ => q) ?_ ?_
  · rintro i v σ H1 H2 hi ⟨n, x, r1, r2, rfl, e1⟩ e ⟨ch, hc, rfl⟩
    rw [sS_list] at hc hi
    have hd : z.drop i = ch :: z.drop (i + 1) := by
      rw [List.drop_eq_getElem_cons hi]
      rw [List.getElem?_eq_getElem hi] at hc
      rw [Option.some.inj hc]
    rw [hd] at r1
    have r3 : (if ch ∈ figs then rd (z.drop (i + 1)) (16 * n + fv ch) else none) = rd z 0 := r1
    walk_at "w"
    rw [figs_eq]
    refine w_iteN (fun c2 => ?_) (fun c2 => ?_)
    · rw [if_neg c2] at r3
      walk_at "w"
      exact k2 (.inr (.inl r3.symm)) _ (e1.trans e)
    · rw [if_pos c2] at r3
      have h1 := fv_lt ch c2
      have h2 : n < 2 ^ 4000 := Nat.lt_of_lt_of_le r2 (by
        rw [show (16 : Nat) = 2 ^ 4 from rfl, ← Nat.pow_mul]
        exact Nat.pow_le_pow_right (by decide) (by omega))
      walk_at "w"
      rw [find_fig ch c2]
      walk_at "w"
      rw [shl4_or h1]
      exact ⟨16 * n + fv ch, some (.str ⟨#[ch]⟩), r3, by rw [Nat.pow_succ]; omega, rfl, e1.trans e⟩
  · rintro σ H1 ⟨n, x, r1, r2, rfl, e1⟩
    rw [ln, List.drop_length] at r1
    walk_at "w"
    refine ⟨a, f, rule, width, last, many, n, rfl, hb.mono e1, ?_⟩
    walk_at "w"
    refine w_iteN (fun c2 => ?_) (fun c2 => ?_)
    · walk_at "w"
      exact k2 (.inr (.inr ⟨n, r1.symm, c2⟩)) _ e1
    · walk_at "w"
      exact k1 n (Classical.byContradiction c) r1.symm c2 _ e1
end
end Prog


namespace Prog
open PySem PySem.Spec PyProof.Rows L2 Plk
local macro_rules | `(tactic| walk_at "cls") => `(tactic| first | exact cls_Blocks (by assumption) | exact cls_Field (by assumption))
local macro_rules | `(tactic| walk_at "noat") => `(tactic| with_reducible first | exact noat_Blocks_field (by assumption) | exact noat_Blocks_many (by assumption) | exact noat_Blocks_limit (by assumption) | exact noat_Blocks_ones (by assumption) | exact noat_Field_rule (by assumption) | exact noat_Field_width (by assumption) | exact noat_Field_last (by assumption) | exact noat_Field_powers (by assumption) | exact noat_Field_logs (by assumption))
local macro_rules | `(tactic| walk_at "fact") => `(tactic| first
  | assumption
  | (refine' Ex.go ?w_e ?w_f; (case w_e => assumption); (case w_f => walk_at "fact"))
  | (refine' Off.go ?w_e ?w_n ?w_f; (case w_e => assumption); (case w_n => assumption); (case w_f => walk_at "fact"))
  | (refine' Off.goL ?w_e ?w_i ?w_f; (case w_e => assumption); (case w_i => walk_at "fact"); (case w_f => walk_at "fact"))
  | (refine' Off.goT ?w_e ?w_i ?w_f; (case w_e => assumption); (case w_i => walk_at "fact"); (case w_f => walk_at "fact")))
local macro_rules | `(tactic| walk_at "seq") => `(tactic| first | assumption | (refine' SqL.of ?w_f; (case w_f => walk_at "fact")) | (refine' Ex.sl ?w_e ?w_f; (case w_e => assumption); (case w_f => walk_at "seq")))
local macro_rules | `(tactic| walk_at "w1") => `(tactic| with_reducible first
  | refine w_seq ?_ | refine w_tYes ?_ | refine w_try ?_ | refine w_raise ?_ | refine w_asg ?_ | refine w_op ?_ | refine w_cons ?_ | refine w_nil ?_ | refine w_c ?_ | refine w_n0 ?_ | refine w_i0 ?_ | refine w_u ?_
  | refine w_ret ?_ | refine w_retN ?_ | refine w_drop ?_ | refine w_ifs ?_ | refine w_test ?_ | refine w_B ?_ | refine w_bl ?_ | refine w_and ?_ | refine w_or ?_ | refine w_not ?_ | refine w_cb ?_ | refine w_call ?_ | refine w_meth ?_ | refine w_make ?_
  | refine w_nx ?_ | refine w_rt ?_ | refine w_bk ?_ | refine w_ct ?_ | refine w_next ?_ | refine w_brk ?_ | refine w_cont ?_
  | refine w_lst ?_ | refine w_tup ?_ | refine w_bm ?_ | refine w_bm0 ?_ | refine w_m1 ?_ | refine w_m0 ?_ | refine w_sl ?_ | refine w_part ?_ | refine w_nopart ?_ | refine w_int ?_ | refine w_ifE ?_ | refine w_bits ?_
  | refine w_for ?_ | refine w_lc ?_ | refine w_iList ?_ | refine w_iStr ?_ | refine w_iStr' ?_ | refine w_iRng1 ?_ | refine w_iRng2 ?_ | refine w_iEnum ?_ | refine w_iZip ?_ | refine w_gcons ?_ | refine w_gnil ?_ | refine w_gsub ?_
  | refine w_isN ?_ | refine w_notN ?_ | refine w_inS ?_ | refine w_notInS ?_ | refine w_find ?_ | refine w_max2 ?_ | refine w_min2 ?_ | refine w_un ?_ | refine w_sfld ?_ | refine w_fld1 ?_ | refine w_unop ?_ | refine w_chain ?_ | refine w_andV ?_ | refine w_orV ?_ | refine w_notV ?_
  | refine w_iteNF ?_ | refine w_iteNT ?_ | refine w_iteT ?_ | refine w_iteF ?_)
local macro_rules | `(tactic| walk_at "w2") => `(tactic| first
  | ((with_reducible refine' w_var ?w_h ?w_k); (case w_h => exact rfl))
  | ((with_reducible refine' w_gname' ?w_h ?w_k); (case w_h => first | (dsimp only [List.set]; done) | (dsimp only [List.set]; exact rfl)))
  | ((with_reducible refine' w_aug ?w_h ?w_k); (case w_h => exact rfl))
  | ((with_reducible refine' w_eq ?w_h ?w_k); (case w_h => exact rfl))
  | ((with_reducible refine' w_ne ?w_h ?w_k); (case w_h => exact rfl))
  | ((with_reducible refine' w_n ?w_h ?w_k); (case w_h => first | trivial | omega | assumption | decide))
  | ((with_reducible refine' w_i ?w_h ?w_k); (case w_h => first | trivial | omega | assumption | decide))
  | ((with_reducible refine' w_imod ?w_h ?w_k); (case w_h => first | omega | assumption | decide))
  | ((with_reducible refine' w_lenS ?w_h ?w_k); (case w_h => (refine sz_of ?_; omega)))
  | ((with_reducible refine' w_lenL ?w_h ?w_k); (case w_h => walk_at "seq"))
  | ((with_reducible refine' w_addS ?w_h ?w_k); (case w_h => (refine sz_of ?_; omega)))
  | ((with_reducible refine' w_slS ?w_h ?w_k); (case w_h => (refine sz_of ?_; omega)))
  | ((with_reducible refine' w_iList' ?w_h ?w_k); (case w_h => walk_at "seq"))
  | ((with_reducible refine' w_iEnum' ?w_h ?w_k); (case w_h => walk_at "seq"))
  | ((with_reducible refine' w_iRng1' ?w_h ?w_k); (case w_h => omega))
  | ((with_reducible refine' w_fldG ?w_h ?w_c ?w_n ?w_l ?w_k); (case w_h => walk_at "fact"); (case w_c => walk_at "cls"); (case w_n => walk_at "noat"); (case w_l => exact rfl))
  | ((with_reducible refine' w_methG ?w_h ?w_c ?w_l ?w_k); (case w_h => walk_at "fact"); (case w_c => exact rfl); (case w_l => exact rfl))
  | ((with_reducible refine' w_fldS ?w_h ?w_c ?w_n ?w_l ?w_k); (case w_h => walk_at "fact"); (case w_c => walk_at "cls"); (case w_n => walk_at "noat"); (case w_l => exact Nat.le_of_ble_eq_true rfl); (generalize w_hq : upd _ _ _ = w_H; have w_at := new_at w_hq; have w_off := new_off w_hq; clear w_hq))
  | ((with_reducible refine' ⟨_, _, _, _, rfl, ?w_h, ?w_c, ?w_n, ?w_l, ?w_k⟩); (case w_h => walk_at "fact"); (case w_c => walk_at "cls"); (case w_n => walk_at "noat"); (case w_l => exact Nat.le_of_ble_eq_true rfl); (generalize w_hq : upd _ _ _ = w_H; have w_at := new_at w_hq; have w_off := new_off w_hq; clear w_hq))
  | ((with_reducible refine' w_yes ?w_h ?w_k); (case w_h => first | assumption | omega))
  | ((with_reducible refine' w_no ?w_h ?w_k); (case w_h => first | assumption | omega))
  | ((with_reducible refine' w_yesN ?w_h ?w_k); (case w_h => first | assumption | omega))
  | ((with_reducible refine' w_noN ?w_h ?w_k); (case w_h => first | assumption | omega))
  | ((with_reducible refine' w_ixLn ?w_h ?w_e ?w_k); (case w_h => walk_at "seq"); (case w_e => first | assumption | exact rfl))
  | ((with_reducible refine' w_ixTn ?w_h ?w_e ?w_k); (case w_h => (refine' SqT.of ?w_f; (case w_f => walk_at "fact"))); (case w_e => exact rfl))
  | ((with_reducible refine' w_rep1 ?w_h ?w_n ?w_k); (case w_h => walk_at "fact"); (case w_n => omega))
  | ((with_reducible refine' w_divN ?w_n ?w_k); (case w_n => omega))
  | ((with_reducible refine' w_isiI (u := true) ?w_n ?w_k); (case w_n => exact rfl))
  | ((with_reducible refine' w_isiI (u := false) ?w_n ?w_k); (case w_n => exact rfl))
  | ((with_reducible refine' w_isiS (u := true) ?w_n ?w_k); (case w_n => exact rfl))
  | ((with_reducible refine' w_isiS (u := false) ?w_n ?w_k); (case w_n => exact rfl))
  | ((with_reducible refine' w_gtup ?w_h ?w_n ?w_k); (case w_h => (refine' SqT.of ?w_f; (case w_f => walk_at "fact"))); (case w_n => exact rfl))
  | ((with_reducible refine' w_zfillN ?w_n ?w_k); (case w_n => omega))
  | ((with_reducible refine' w_strOk ?w_k))
  | ((with_reducible refine' w_lstOk ?w_h ?w_k); (case w_h => (refine' SqL.of ?w_f; (case w_f => walk_at "fact"))))
  | ((with_reducible refine' w_sz ?w_h ?w_k); (case w_h => exact (by decide)))
  | ((with_reducible refine w_newI ?_); (intro w_p w_fr; generalize w_hq : upd _ w_p _ = w_H; have w_ex := new_ex w_hq w_fr; have w_at := new_at w_hq; have w_of := new_of w_hq; clear w_hq)))
local macro_rules | `(tactic| walk_at "w") => `(tactic| repeat (first | walk_at "w1" | walk_at "w2"))

section
variable {P : Program} {w : World} {K : PySem.W.Frag} {mg : Str → Option Value} {base : Heap}
/-! ### the law -/
def sp_cell (K : PySem.W.Frag) : Sp := fun vs H Q _ => ∃ (a : Addr) (ns : List Int) (k : Nat), vs = [.ref a, nV k] ∧ SqL K H a (ns.map V.int) ∧ ns.length ≤ 63 ∧ k ≤ 1000 ∧ Q (.int (cell ns k)) H
theorem c__law_cell (T : Tx K mg) : Callee P w K mg base 1 (He.fAd K ("_law_cell", none)) ["_law_script", "_law_k"] (sp_cell K) := by
  obtain ⟨fd, F⟩ := F__law_cell T
  refine ⟨⟨fd, F.ok sc__law_cell (fun vs H Q E h => by first | (obtain ⟨rfl, _⟩ := h; rfl) | (obtain ⟨_, rfl, _⟩ := h; rfl) | (obtain ⟨_, _, rfl, _⟩ := h; rfl) | (obtain ⟨_, _, _, rfl, _⟩ := h; rfl) | (obtain ⟨_, _, _, _, rfl, _⟩ := h; rfl) | (obtain ⟨_, _, _, _, _, rfl, _⟩ := h; rfl) | (obtain ⟨_, _, _, _, _, _, rfl, _⟩ := h; rfl) | (obtain ⟨_, _, _, _, _, _, _, rfl, _⟩ := h; rfl) | (obtain ⟨_, _, _, _, _, _, _, _, rfl, _⟩ := h; rfl) | (obtain ⟨_, _, _, _, _, _, _, _, _, rfl, _⟩ := h; rfl) | (obtain ⟨_, _, _, _, _, _, _, _, _, _, rfl, _⟩ := h; rfl) | (obtain ⟨_, _, _, _, _, _, _, _, _, _, _, rfl, _⟩ := h; rfl) | (obtain ⟨_, _, _, _, _, _, _, _, _, _, _, _, rfl, _⟩ := h; rfl) | (obtain ⟨_, _, _, _, _, _, _, _, _, _, _, _, _, rfl, _⟩ := h; rfl)) (fun cdv A outer s H vs Q E hr h => ⟨_, (pss_cons (ps_if (pt_cmpR n_lt (pv 1) (pe_callB call_lenL (by rfl) (free_len T) PySem.boot_len (pa_cons (pv 0) pa_nil)) (nomark _)) (pss_one (ps_ret (pe_ix ix_list (pv 0) (pv 1) (fun _ _ => rfl)))) pss_nil)
    (pss_cons (ps_set (i := 2) sc__law_cell.nd rfl (by first | exact Or.inl rfl | exact Or.inr rfl) (pe_op n_add (pe_op n_mul (pe_nat 7919) (pv 1)) (pe_nat 101)))
    (pss_cons (ps_if (pt_cmpR n_gt (pe_callB call_lenL (by rfl) (free_len T) PySem.boot_len (pa_cons (pv 0) pa_nil)) (pe_nat 0) (nomark _)) (pss_one (ps_set (i := 2) sc__law_cell.nd rfl (by first | exact Or.inl rfl | exact Or.inr rfl) (pe_op n_add (pv 2) (pe_op n_mul (pe_op i_mod (pe_ix ix_list (pv 0) (pe_op n_mod (pe_op n_mul (pe_nat 7) (pv 1)) (pe_callB call_lenL (by rfl) (free_len T) PySem.boot_len (pa_cons (pv 0) pa_nil))) (fun _ _ => rfl)) (pe_nat 1000003)) (pe_op n_add (pv 1) (pe_nat 3)))))) pss_nil)
    (pss_one (ps_ret (pe_op n_mod (pe_op n_mul (pv 2) (pv 2)) (pe_nat 1000003))))))), ?_⟩), F.bindsN (fun _ _ _ _ _ _ us hl => match us, hl with | [_, _], _ => rfl)⟩, F.kp⟩
  try dsimp only [cxOf_K]
  obtain ⟨a, ns, k, rfl, ha, hl, hk, q⟩ := h
  refine w_start (σ := [some (.ref a), some (nV k), none]) rfl ?_
  have ln : (ns.map V.int).length = ns.length := List.length_map ..
  unfold cell cellX at q
  walk_at "w"
  rw [ln]
  refine w_ite (fun c => ?_) (fun c => ?_)
  · have hx := ns_at c
    rw [if_pos c] at q
    walk_at "w"
    exact q
  rw [if_neg c] at q
  walk_at "w"
  rw [ln]
  refine w_ite (fun c2 => ?_) (fun c2 => ?_)
  · rw [if_pos c2] at q
    have hx := ns_at (ns := ns) (k := 7 * k % ns.length) (Nat.mod_lt _ c2)
    have hb : (ns.getD (7 * k % ns.length) 0 % (1000003 : Nat)).toNat < 1000003 := by omega
    have hm : (ns.getD (7 * k % ns.length) 0 % (1000003 : Nat)).toNat * (k + 3) ≤ 1000003 * 1003 := Nat.mul_le_mul (by omega) (by omega)
    walk_at "w"
    rw [ln]
    walk_at "w"
    exact q
  · rw [if_neg c2] at q
    walk_at "w"
    exact q
abbrev rules : List Nat := [19, 25, 37, 41, 67, 97, 131, 193, 285, 369]
theorem rules_at : ∀ j, j < 10 → ([nV 19, nV 25, nV 37, nV 41, nV 67, nV 97, nV 131, nV 193, nV 285, nV 369] : List V)[j]? = some (nV (rules.getD j 0)) := fun j h => by
  match j, h with
  | 0, _ => rfl
  | 1, _ => rfl
  | 2, _ => rfl
  | 3, _ => rfl
  | 4, _ => rfl
  | 5, _ => rfl
  | 6, _ => rfl
  | 7, _ => rfl
  | 8, _ => rfl
  | 9, _ => rfl
def sp_rule : Sp := fun vs H Q _ => ∃ i : Int, vs = [.int i] ∧ ∀ H', Ex H H' → Q (nV (rules.getD (i % (10 : Nat)).toNat 0)) H'
theorem c__law_rule (T : Tx K mg) : Callee P w K mg base 1 (He.fAd K ("_law_rule", none)) ["_law_cell_here"] sp_rule := by
  obtain ⟨fd, F⟩ := F__law_rule T
  refine ⟨⟨fd, F.ok sc__law_rule (fun vs H Q E h => by first | (obtain ⟨rfl, _⟩ := h; rfl) | (obtain ⟨_, rfl, _⟩ := h; rfl) | (obtain ⟨_, _, rfl, _⟩ := h; rfl) | (obtain ⟨_, _, _, rfl, _⟩ := h; rfl) | (obtain ⟨_, _, _, _, rfl, _⟩ := h; rfl) | (obtain ⟨_, _, _, _, _, rfl, _⟩ := h; rfl) | (obtain ⟨_, _, _, _, _, _, rfl, _⟩ := h; rfl) | (obtain ⟨_, _, _, _, _, _, _, rfl, _⟩ := h; rfl) | (obtain ⟨_, _, _, _, _, _, _, _, rfl, _⟩ := h; rfl) | (obtain ⟨_, _, _, _, _, _, _, _, _, rfl, _⟩ := h; rfl) | (obtain ⟨_, _, _, _, _, _, _, _, _, _, rfl, _⟩ := h; rfl) | (obtain ⟨_, _, _, _, _, _, _, _, _, _, _, rfl, _⟩ := h; rfl) | (obtain ⟨_, _, _, _, _, _, _, _, _, _, _, _, rfl, _⟩ := h; rfl) | (obtain ⟨_, _, _, _, _, _, _, _, _, _, _, _, _, rfl, _⟩ := h; rfl)) (fun cdv A outer s H vs Q E hr h => ⟨_, (pss_one (ps_ret (pe_ix ix_list (pe_lst (pa_cons (pe_nat 19) (pa_cons (pe_nat 25) (pa_cons (pe_nat 37) (pa_cons (pe_nat 41) (pa_cons (pe_nat 67) (pa_cons (pe_nat 97) (pa_cons (pe_nat 131) (pa_cons (pe_nat 193) (pa_cons (pe_nat 285) (pa_cons (pe_nat 369) pa_nil))))))))))) (pe_op i_mod (pv 0) (pe_nat 10)) (fun _ _ => rfl)))), ?_⟩), F.bindsN (fun _ _ _ _ _ _ us hl => match us, hl with | [_], _ => rfl)⟩, F.kp⟩
  try dsimp only [cxOf_K]
  obtain ⟨i, rfl, q⟩ := h
  refine w_start (σ := [some (.int i)]) rfl ?_
  have hx := rules_at (i % (10 : Nat)).toNat (by omega)
  walk_at "w"
  exact q _ (by assumption)
def sp_hex : Sp := fun vs H Q _ => ∃ b m : Nat, vs = [nV b, nV m] ∧ m ≤ 1000 ∧ ∀ H', Ex H H' → Q (.str (sS (hexN b m))) H'
theorem c__law_hex (T : Tx K mg) : Callee P w K mg base 1 (He.fAd K ("_law_hex", none)) ["_law_block", "_law_many"] sp_hex := by
  obtain ⟨fd, F⟩ := F__law_hex T
  refine ⟨⟨fd, F.ok sc__law_hex (fun vs H Q E h => by first | (obtain ⟨rfl, _⟩ := h; rfl) | (obtain ⟨_, rfl, _⟩ := h; rfl) | (obtain ⟨_, _, rfl, _⟩ := h; rfl) | (obtain ⟨_, _, _, rfl, _⟩ := h; rfl) | (obtain ⟨_, _, _, _, rfl, _⟩ := h; rfl) | (obtain ⟨_, _, _, _, _, rfl, _⟩ := h; rfl) | (obtain ⟨_, _, _, _, _, _, rfl, _⟩ := h; rfl) | (obtain ⟨_, _, _, _, _, _, _, rfl, _⟩ := h; rfl) | (obtain ⟨_, _, _, _, _, _, _, _, rfl, _⟩ := h; rfl) | (obtain ⟨_, _, _, _, _, _, _, _, _, rfl, _⟩ := h; rfl) | (obtain ⟨_, _, _, _, _, _, _, _, _, _, rfl, _⟩ := h; rfl) | (obtain ⟨_, _, _, _, _, _, _, _, _, _, _, rfl, _⟩ := h; rfl) | (obtain ⟨_, _, _, _, _, _, _, _, _, _, _, _, rfl, _⟩ := h; rfl) | (obtain ⟨_, _, _, _, _, _, _, _, _, _, _, _, _, rfl, _⟩ := h; rfl)) (fun cdv A outer s H vs Q E hr h => ⟨_, (pss_one (ps_ret (pe_m1 PySem.F.slot_str_join PySem.F.type_str_join mt_joinR pe_str (pe_lc (own := [("_law_k", 2)]) rfl sc__law_hex.nd (pi_range1 (by rfl) (free_range T) (pa_cons (pv 1) pa_nil)) (blkOk_by (own := [("_law_k", 2)]) (N := ["_law_block", "_law_many", "_law_k"]) (sc := defScope s__law_hex) (by decide +kernel)) (fun _ _ _ _ _ => (pg_name (i := 2) sc__law_hex.nd rfl (by first | exact Or.inl rfl | exact Or.inr rfl))) (fun _ _ _ _ _ => pts_nil) (fun _ _ _ _ _ => (pe_ix ix_str pe_str (pe_op n_and (pe_op n_shr (pv 0) (pe_op n_mul (pe_nat 4) (pe_op n_sub (pe_op n_sub (pv 1) (pe_nat 1)) (pv 2)))) (pe_nat 15)) (fun _ _ => rfl))))))), ?_⟩), F.bindsN (fun _ _ _ _ _ _ us hl => match us, hl with | [_, _], _ => rfl)⟩, F.kp⟩
  try dsimp only [cxOf_K]
  obtain ⟨b, m, rfl, hm, q⟩ := h
  refine w_start (σ := [some (nV b), some (nV m), none]) rfl ?_
  walk_at "w"
  have hacc : ∀ i, i < m → ((hexN b m).take (i + 1)).map (fun c => V.str ⟨#[c]⟩) = ((hexN b m).take i).map (fun c => V.str ⟨#[c]⟩) ++ [V.str ⟨#[sg (b / 16 ^ (m - 1 - i) % 16)]⟩] := fun i hi => by
    rw [List.take_succ, hexN_get b m i hi, List.map_append]
    rfl
  refine w_lcV (fun i => ((hexN b m).take i).map (fun c => V.str ⟨#[c]⟩)) (it_rng0 (H := H)) (Ex.refl H) rfl (by omega) ?_ (fun i hi => by rw [List.length_map, List.length_take]; omega) ?_
  · rintro i v H1 hi e rfl Y N hY hN
    walk_at "w"
    refine ⟨rfl, ?_⟩
    walk_at "w"
    rw [shr4]
    have hd : b / 16 ^ (m - 1 - i) % 16 < 16 := Nat.mod_lt _ (by decide)
    refine w_ixSn (by decide +kernel) (by rw [figs_eq]; exact figs_at _ hd) ?_
    exact hY _ _ (Ex.refl _) (hacc i hi)
  · intro p H1 hp e hat
    have e2 : (hexN b m).take m = hexN b m := by
      rw [List.take_of_length_le]
      rw [hexN_len]
      exact Nat.le_refl _
    rw [e2] at hat
    have e3 : (hexN b m).map (fun c => V.str ⟨#[c]⟩) = ((hexN b m).map fun c => (⟨#[c]⟩ : Str)).map V.str := by rw [List.map_map]; rfl
    rw [e3] at hat
    refine ⟨_, p, _, rfl, rfl, .inl (.of hat), ?_, ?_⟩
    · have : ∀ l : List Nat, ((l.map fun c => (⟨#[c]⟩ : Str)).map (·.length)).sum = l.length := by
        intro l
        induction l with
        | nil => rfl
        | cons c l ih =>
          rw [List.map_cons, List.map_cons, List.sum_cons, ih]
          show 1 + l.length = l.length + 1
          omega
      rw [this, List.length_map, hexN_len]
      have : (Str.ofString "").length = 0 := by decide +kernel
      rw [this]
      omega
    · rw [join_c]
      exact q H1 e
def sp_sign : Sp := fun vs H Q _ => ∃ i : Int, vs = [.int i] ∧ ∀ c : Nat, Q (.str (sS [c])) H
theorem c__law_sign (T : Tx K mg) : Callee P w K mg base 1 (He.fAd K ("_law_sign", none)) ["_law_cell_here"] sp_sign := by
  obtain ⟨fd, F⟩ := F__law_sign T
  refine ⟨⟨fd, F.ok sc__law_sign (fun vs H Q E h => by first | (obtain ⟨rfl, _⟩ := h; rfl) | (obtain ⟨_, rfl, _⟩ := h; rfl) | (obtain ⟨_, _, rfl, _⟩ := h; rfl) | (obtain ⟨_, _, _, rfl, _⟩ := h; rfl) | (obtain ⟨_, _, _, _, rfl, _⟩ := h; rfl) | (obtain ⟨_, _, _, _, _, rfl, _⟩ := h; rfl) | (obtain ⟨_, _, _, _, _, _, rfl, _⟩ := h; rfl) | (obtain ⟨_, _, _, _, _, _, _, rfl, _⟩ := h; rfl) | (obtain ⟨_, _, _, _, _, _, _, _, rfl, _⟩ := h; rfl) | (obtain ⟨_, _, _, _, _, _, _, _, _, rfl, _⟩ := h; rfl) | (obtain ⟨_, _, _, _, _, _, _, _, _, _, rfl, _⟩ := h; rfl) | (obtain ⟨_, _, _, _, _, _, _, _, _, _, _, rfl, _⟩ := h; rfl) | (obtain ⟨_, _, _, _, _, _, _, _, _, _, _, _, rfl, _⟩ := h; rfl) | (obtain ⟨_, _, _, _, _, _, _, _, _, _, _, _, _, rfl, _⟩ := h; rfl)) (fun cdv A outer s H vs Q E hr h => ⟨_, (pss_cons (ps_set (i := 1) sc__law_sign.nd rfl (by first | exact Or.inl rfl | exact Or.inr rfl) pe_str)
    (pss_cons (ps_set (i := 1) sc__law_sign.nd rfl (by first | exact Or.inl rfl | exact Or.inr rfl) (pe_op op_addS (pv 1) pe_str))
    (pss_one (ps_ret (pe_ix ix_str (pv 1) (pe_op i_mod (pv 0) (pe_nat 96)) (fun _ _ => rfl)))))), ?_⟩), F.bindsN (fun _ _ _ _ _ _ us hl => match us, hl with | [_], _ => rfl)⟩, F.kp⟩
  try dsimp only [cxOf_K]
  obtain ⟨i, rfl, q⟩ := h
  refine w_start (σ := [some (.int i), none]) rfl ?_
  walk_at "w"
  refine w_addS (by decide +kernel) ?_
  walk_at "w"
  have hj : (i % (96 : Nat)).toNat < 96 := by omega
  have hs : (Str.ofString " !\"#$&'()*+,-./0123456789:;<=>?@ABCDEFGHIJKLMNOPQRSTUVWXYZ[\\]^_`" ++ Str.ofString "abcdefghijklmnopqrstuvwxyz{|}~\n\t").cps.toList.length = 96 := by decide +kernel
  have hx := List.getElem?_eq_getElem (hs ▸ hj)
  refine w_ixSn (by decide +kernel) hx ?_
  exact q _
def sp_number : Sp := fun vs H Q _ => ∃ (z : List Nat) (many limit : Nat), vs = [.str (sS z), nV many, nV limit] ∧ z.length ≤ 1000 ∧ ∀ H', Ex H H' → Q (optV (numR z many limit)) H'
theorem c__law_number (T : Tx K mg) : Callee P w K mg base 1 (He.fAd K ("_law_number", none)) ["_law_line", "_law_many", "_law_limit"] sp_number := by
  obtain ⟨fd, F⟩ := F__law_number T
  refine ⟨⟨fd, F.ok sc__law_number (fun vs H Q E h => by first | (obtain ⟨rfl, _⟩ := h; rfl) | (obtain ⟨_, rfl, _⟩ := h; rfl) | (obtain ⟨_, _, rfl, _⟩ := h; rfl) | (obtain ⟨_, _, _, rfl, _⟩ := h; rfl) | (obtain ⟨_, _, _, _, rfl, _⟩ := h; rfl) | (obtain ⟨_, _, _, _, _, rfl, _⟩ := h; rfl) | (obtain ⟨_, _, _, _, _, _, rfl, _⟩ := h; rfl) | (obtain ⟨_, _, _, _, _, _, _, rfl, _⟩ := h; rfl) | (obtain ⟨_, _, _, _, _, _, _, _, rfl, _⟩ := h; rfl) | (obtain ⟨_, _, _, _, _, _, _, _, _, rfl, _⟩ := h; rfl) | (obtain ⟨_, _, _, _, _, _, _, _, _, _, rfl, _⟩ := h; rfl) | (obtain ⟨_, _, _, _, _, _, _, _, _, _, _, rfl, _⟩ := h; rfl) | (obtain ⟨_, _, _, _, _, _, _, _, _, _, _, _, rfl, _⟩ := h; rfl) | (obtain ⟨_, _, _, _, _, _, _, _, _, _, _, _, _, rfl, _⟩ := h; rfl)) (fun cdv A outer s H vs Q E hr h => ⟨_, (pss_cons (ps_if (pt_cmpR n_ne (pe_callB call_lenS (by rfl) (free_len T) PySem.boot_len (pa_cons (pv 0) pa_nil)) (pv 1) (nomark _)) (pss_one (ps_ret pe_non)) pss_nil)
    (pss_cons (ps_set (i := 3) sc__law_number.nd rfl (by first | exact Or.inl rfl | exact Or.inr rfl) (pe_nat 0))
    (pss_cons (ps_for (passes_of rfl) rfl (pi_str (pv 0)) (pg_name (i := 4) sc__law_number.nd rfl (by first | exact Or.inl rfl | exact Or.inr rfl)) (pss_cons (ps_if (pt_cmpR op_notInS (pv 4) pe_str rfl) (pss_one (ps_ret pe_non)) pss_nil)
    (pss_one (ps_set (i := 3) sc__law_number.nd rfl (by first | exact Or.inl rfl | exact Or.inr rfl) (pe_op op_add (pe_op n_mul (pe_nat 16) (pv 3)) (pe_m1 PySem.F.slot_str_find PySem.F.type_str_find mt_findR pe_str (pv 4)))))))
    (pss_cons (ps_if (pt_cmpR n_ge (pv 3) (pv 2) (nomark _)) (pss_one (ps_ret pe_non)) pss_nil)
    (pss_one (ps_ret (pv 3))))))), ?_⟩), F.bindsN (fun _ _ _ _ _ _ us hl => match us, hl with | [_, _, _], _ => rfl)⟩, F.kp⟩
  try dsimp only [cxOf_K]
  obtain ⟨z, many, limit, rfl, hz, q⟩ := h
  refine w_start (σ := [some (.str (sS z)), some (nV many), some (nV limit), none, none]) rfl ?_
  have hl := sS_len z
  walk_at "w"
  rw [hl]
  unfold numR at q
  refine w_ite (fun c => ?_) (fun c => ?_)
  · walk_at "w"
    rw [if_pos c] at q
    exact q H (Ex.refl H)
  rw [if_neg c] at q
  walk_at "w"
  have ln : (sS z).cps.toList.length = z.length := by rw [sS_list]
  refine w_loop (fun i σ H' => ∃ n x, rd (z.drop i) n = rd z 0 ∧ σ = [some (.str (sS z)), some (nV many), some (nV limit), some (nV n), x] ∧ Ex H H') (it_str (H := H)) ⟨0, none, rfl, rfl, Ex.refl H⟩ (fun i σ H' ⟨_, _, _, _, q⟩ => q) ?_ ?_
  · rintro i v σ H1 H2 hi ⟨n, x, r1, rfl, e1⟩ e ⟨ch, hc, rfl⟩
    rw [sS_list] at hc hi
    have hd : z.drop i = ch :: z.drop (i + 1) := by
      rw [List.drop_eq_getElem_cons hi]
      rw [List.getElem?_eq_getElem hi] at hc
      rw [Option.some.inj hc]
    rw [hd] at r1
    have r3 : (if ch ∈ figs then rd (z.drop (i + 1)) (16 * n + fv ch) else none) = rd z 0 := r1
    walk_at "w"
    rw [figs_eq]
    refine w_iteN (fun c2 => ?_) (fun c2 => ?_)
    · rw [if_neg c2] at r3
      walk_at "w"
      rw [← r3] at q
      exact q _ (e1.trans e)
    · rw [if_pos c2] at r3
      walk_at "w"
      rw [find_fig ch c2]
      walk_at "w"
      exact ⟨16 * n + fv ch, some (.str ⟨#[ch]⟩), r3, rfl, e1.trans e⟩
  · rintro σ H1 ⟨n, x, r1, rfl, e1⟩
    rw [ln, List.drop_length] at r1
    rw [← r1] at q
    have q' : ∀ H', Ex H H' → Q (optV (if limit ≤ n then none else some n)) H' := q
    walk_at "w"
    refine w_ite (fun c2 => ?_) (fun c2 => ?_)
    · rw [if_pos c2] at q'
      walk_at "w"
      exact q' _ e1
    · rw [if_neg c2] at q'
      walk_at "w"
      exact q' _ e1
end
end Prog


namespace Prog
open PySem PySem.Spec PyProof.Rows L2 Plk
local macro_rules | `(tactic| walk_at "cls") => `(tactic| first | exact cls_Blocks (by assumption) | exact cls_Field (by assumption))
local macro_rules | `(tactic| walk_at "noat") => `(tactic| with_reducible first | exact noat_Blocks_field (by assumption) | exact noat_Blocks_many (by assumption) | exact noat_Blocks_limit (by assumption) | exact noat_Blocks_ones (by assumption) | exact noat_Field_rule (by assumption) | exact noat_Field_width (by assumption) | exact noat_Field_last (by assumption) | exact noat_Field_powers (by assumption) | exact noat_Field_logs (by assumption))
local macro_rules | `(tactic| walk_at "fact") => `(tactic| first
  | assumption
  | (refine' Ex.go ?w_e ?w_f; (case w_e => assumption); (case w_f => walk_at "fact"))
  | (refine' Off.go ?w_e ?w_n ?w_f; (case w_e => assumption); (case w_n => assumption); (case w_f => walk_at "fact"))
  | (refine' Off.goL ?w_e ?w_i ?w_f; (case w_e => assumption); (case w_i => walk_at "fact"); (case w_f => walk_at "fact"))
  | (refine' Off.goT ?w_e ?w_i ?w_f; (case w_e => assumption); (case w_i => walk_at "fact"); (case w_f => walk_at "fact")))
local macro_rules | `(tactic| walk_at "seq") => `(tactic| first | assumption | (refine' SqL.of ?w_f; (case w_f => walk_at "fact")) | (refine' Ex.sl ?w_e ?w_f; (case w_e => assumption); (case w_f => walk_at "seq")))
local macro_rules | `(tactic| walk_at "w1") => `(tactic| with_reducible first
  | refine w_seq ?_ | refine w_tYes ?_ | refine w_try ?_ | refine w_raise ?_ | refine w_asg ?_ | refine w_op ?_ | refine w_cons ?_ | refine w_nil ?_ | refine w_c ?_ | refine w_n0 ?_ | refine w_i0 ?_ | refine w_u ?_
  | refine w_ret ?_ | refine w_retN ?_ | refine w_drop ?_ | refine w_ifs ?_ | refine w_test ?_ | refine w_B ?_ | refine w_bl ?_ | refine w_and ?_ | refine w_or ?_ | refine w_not ?_ | refine w_cb ?_ | refine w_call ?_ | refine w_meth ?_ | refine w_make ?_
  | refine w_nx ?_ | refine w_rt ?_ | refine w_bk ?_ | refine w_ct ?_ | refine w_next ?_ | refine w_brk ?_ | refine w_cont ?_
  | refine w_lst ?_ | refine w_tup ?_ | refine w_bm ?_ | refine w_bm0 ?_ | refine w_m1 ?_ | refine w_m0 ?_ | refine w_sl ?_ | refine w_part ?_ | refine w_nopart ?_ | refine w_int ?_ | refine w_ifE ?_ | refine w_bits ?_
  | refine w_for ?_ | refine w_lc ?_ | refine w_iList ?_ | refine w_iStr ?_ | refine w_iStr' ?_ | refine w_iRng1 ?_ | refine w_iRng2 ?_ | refine w_iEnum ?_ | refine w_iZip ?_ | refine w_gcons ?_ | refine w_gnil ?_ | refine w_gsub ?_
  | refine w_isN ?_ | refine w_notN ?_ | refine w_inS ?_ | refine w_notInS ?_ | refine w_find ?_ | refine w_max2 ?_ | refine w_min2 ?_ | refine w_un ?_ | refine w_sfld ?_ | refine w_fld1 ?_ | refine w_unop ?_ | refine w_chain ?_ | refine w_andV ?_ | refine w_orV ?_ | refine w_notV ?_
  | refine w_iteNF ?_ | refine w_iteNT ?_ | refine w_iteT ?_ | refine w_iteF ?_)
local macro_rules | `(tactic| walk_at "w2") => `(tactic| first
  | ((with_reducible refine' w_var ?w_h ?w_k); (case w_h => exact rfl))
  | ((with_reducible refine' w_gname' ?w_h ?w_k); (case w_h => first | (dsimp only [List.set]; done) | (dsimp only [List.set]; exact rfl)))
  | ((with_reducible refine' w_aug ?w_h ?w_k); (case w_h => exact rfl))
  | ((with_reducible refine' w_eq ?w_h ?w_k); (case w_h => exact rfl))
  | ((with_reducible refine' w_ne ?w_h ?w_k); (case w_h => exact rfl))
  | ((with_reducible refine' w_n ?w_h ?w_k); (case w_h => first | trivial | omega | assumption | decide))
  | ((with_reducible refine' w_i ?w_h ?w_k); (case w_h => first | trivial | omega | assumption | decide))
  | ((with_reducible refine' w_imod ?w_h ?w_k); (case w_h => first | omega | assumption | decide))
  | ((with_reducible refine' w_lenS ?w_h ?w_k); (case w_h => (refine sz_of ?_; omega)))
  | ((with_reducible refine' w_lenL ?w_h ?w_k); (case w_h => walk_at "seq"))
  | ((with_reducible refine' w_addS ?w_h ?w_k); (case w_h => (refine sz_of ?_; omega)))
  | ((with_reducible refine' w_slS ?w_h ?w_k); (case w_h => (refine sz_of ?_; omega)))
  | ((with_reducible refine' w_iList' ?w_h ?w_k); (case w_h => walk_at "seq"))
  | ((with_reducible refine' w_iEnum' ?w_h ?w_k); (case w_h => walk_at "seq"))
  | ((with_reducible refine' w_iRng1' ?w_h ?w_k); (case w_h => omega))
  | ((with_reducible refine' w_fldG ?w_h ?w_c ?w_n ?w_l ?w_k); (case w_h => walk_at "fact"); (case w_c => walk_at "cls"); (case w_n => walk_at "noat"); (case w_l => exact rfl))
  | ((with_reducible refine' w_methG ?w_h ?w_c ?w_l ?w_k); (case w_h => walk_at "fact"); (case w_c => exact rfl); (case w_l => exact rfl))
  | ((with_reducible refine' w_fldS ?w_h ?w_c ?w_n ?w_l ?w_k); (case w_h => walk_at "fact"); (case w_c => walk_at "cls"); (case w_n => walk_at "noat"); (case w_l => exact Nat.le_of_ble_eq_true rfl); (generalize w_hq : upd _ _ _ = w_H; have w_at := new_at w_hq; have w_off := new_off w_hq; clear w_hq))
  | ((with_reducible refine' ⟨_, _, _, _, rfl, ?w_h, ?w_c, ?w_n, ?w_l, ?w_k⟩); (case w_h => walk_at "fact"); (case w_c => walk_at "cls"); (case w_n => walk_at "noat"); (case w_l => exact Nat.le_of_ble_eq_true rfl); (generalize w_hq : upd _ _ _ = w_H; have w_at := new_at w_hq; have w_off := new_off w_hq; clear w_hq))
  | ((with_reducible refine' w_yes ?w_h ?w_k); (case w_h => first | assumption | omega))
  | ((with_reducible refine' w_no ?w_h ?w_k); (case w_h => first | assumption | omega))
  | ((with_reducible refine' w_yesN ?w_h ?w_k); (case w_h => first | assumption | omega))
  | ((with_reducible refine' w_noN ?w_h ?w_k); (case w_h => first | assumption | omega))
  | ((with_reducible refine' w_ixLn ?w_h ?w_e ?w_k); (case w_h => walk_at "seq"); (case w_e => first | assumption | exact rfl))
  | ((with_reducible refine' w_ixTn ?w_h ?w_e ?w_k); (case w_h => (refine' SqT.of ?w_f; (case w_f => walk_at "fact"))); (case w_e => exact rfl))
  | ((with_reducible refine' w_rep1 ?w_h ?w_n ?w_k); (case w_h => walk_at "fact"); (case w_n => omega))
  | ((with_reducible refine' w_divN ?w_n ?w_k); (case w_n => omega))
  | ((with_reducible refine' w_isiI (u := true) ?w_n ?w_k); (case w_n => exact rfl))
  | ((with_reducible refine' w_isiI (u := false) ?w_n ?w_k); (case w_n => exact rfl))
  | ((with_reducible refine' w_isiS (u := true) ?w_n ?w_k); (case w_n => exact rfl))
  | ((with_reducible refine' w_isiS (u := false) ?w_n ?w_k); (case w_n => exact rfl))
  | ((with_reducible refine' w_gtup ?w_h ?w_n ?w_k); (case w_h => (refine' SqT.of ?w_f; (case w_f => walk_at "fact"))); (case w_n => exact rfl))
  | ((with_reducible refine' w_zfillN ?w_n ?w_k); (case w_n => omega))
  | ((with_reducible refine' w_strOk ?w_k))
  | ((with_reducible refine' w_lstOk ?w_h ?w_k); (case w_h => (refine' SqL.of ?w_f; (case w_f => walk_at "fact"))))
  | ((with_reducible refine' w_sz ?w_h ?w_k); (case w_h => exact (by decide)))
  | ((with_reducible refine w_newI ?_); (intro w_p w_fr; generalize w_hq : upd _ w_p _ = w_H; have w_ex := new_ex w_hq w_fr; have w_at := new_at w_hq; have w_of := new_of w_hq; clear w_hq)))
local macro_rules | `(tactic| walk_at "w") => `(tactic| repeat (first | walk_at "w1" | walk_at "w2"))

section
variable {P : Program} {w : World} {K : PySem.W.Frag} {mg : Str → Option Value} {base : Heap}
/-! ### the law's last defs -/
def sp_spoiled : Sp := fun vs H Q _ => ∃ (z y : List Nat) (way : Nat) (i : Int), vs = [.str (sS z), nV way, .int i, .str (sS y)] ∧ 0 < z.length ∧ z.length ≤ 100 ∧ y.length ≤ 100 ∧ ∀ x : List Nat, x.length ≤ 400 → Q (.str (sS x)) H
theorem str_S (z : Str) : z = sS z.cps.toList := (sS_of z).symm
theorem c__law_spoiled (T : Tx K mg) : Callee P w K mg base 1 (He.fAd K ("_law_spoiled", none)) ["_law_line", "_law_way", "_law_cell_here", "_law_sign_here"] sp_spoiled := by
  obtain ⟨fd, F⟩ := F__law_spoiled T
  refine ⟨⟨fd, F.ok sc__law_spoiled (fun vs H Q E h => by first | (obtain ⟨rfl, _⟩ := h; rfl) | (obtain ⟨_, rfl, _⟩ := h; rfl) | (obtain ⟨_, _, rfl, _⟩ := h; rfl) | (obtain ⟨_, _, _, rfl, _⟩ := h; rfl) | (obtain ⟨_, _, _, _, rfl, _⟩ := h; rfl) | (obtain ⟨_, _, _, _, _, rfl, _⟩ := h; rfl) | (obtain ⟨_, _, _, _, _, _, rfl, _⟩ := h; rfl) | (obtain ⟨_, _, _, _, _, _, _, rfl, _⟩ := h; rfl) | (obtain ⟨_, _, _, _, _, _, _, _, rfl, _⟩ := h; rfl) | (obtain ⟨_, _, _, _, _, _, _, _, _, rfl, _⟩ := h; rfl) | (obtain ⟨_, _, _, _, _, _, _, _, _, _, rfl, _⟩ := h; rfl) | (obtain ⟨_, _, _, _, _, _, _, _, _, _, _, rfl, _⟩ := h; rfl) | (obtain ⟨_, _, _, _, _, _, _, _, _, _, _, _, rfl, _⟩ := h; rfl) | (obtain ⟨_, _, _, _, _, _, _, _, _, _, _, _, _, rfl, _⟩ := h; rfl)) (fun cdv A outer s H vs Q E hr h => ⟨_, (pss_cons (ps_set (i := 4) sc__law_spoiled.nd rfl (by first | exact Or.inl rfl | exact Or.inr rfl) (pe_op i_mod (pv 2) (pe_callB call_lenS (by rfl) (free_len T) PySem.boot_len (pa_cons (pv 0) pa_nil))))
    (pss_cons (ps_if (pt_cmpR n_eq (pv 1) (pe_nat 1) (nomark _)) (pss_one (ps_ret (pe_op op_addS (pe_op op_addS (pe_slice sl_str (pv 0) po_none (po_some (pv 4))) (pv 3)) (pe_slice sl_str (pv 0) (po_some (pe_op n_add (pv 4) (pe_nat 1))) po_none)))) pss_nil)
    (pss_cons (ps_if (pt_cmpR n_eq (pv 1) (pe_nat 2) (nomark _)) (pss_one (ps_ret (pe_op op_addS (pe_slice sl_str (pv 0) po_none (po_some (pv 4))) (pe_slice sl_str (pv 0) (po_some (pe_op n_add (pv 4) (pe_nat 1))) po_none)))) pss_nil)
    (pss_cons (ps_if (pt_cmpR n_eq (pv 1) (pe_nat 3) (nomark _)) (pss_cons (ps_set (i := 4) sc__law_spoiled.nd rfl (by first | exact Or.inl rfl | exact Or.inr rfl) (pe_op i_mod (pv 2) (pe_op n_add (pe_callB call_lenS (by rfl) (free_len T) PySem.boot_len (pa_cons (pv 0) pa_nil)) (pe_nat 1))))
    (pss_one (ps_ret (pe_op op_addS (pe_op op_addS (pe_slice sl_str (pv 0) po_none (po_some (pv 4))) (pv 3)) (pe_slice sl_str (pv 0) (po_some (pv 4)) po_none))))) pss_nil)
    (pss_cons (ps_if (pt_cmpR n_eq (pv 1) (pe_nat 4) (nomark _)) (pss_one (ps_ret (pe_m0 PySem.F.slot_str_upper PySem.F.type_str_upper mt_upperR (pv 0)))) pss_nil)
    (pss_cons (ps_if (pt_cmpR n_eq (pv 1) (pe_nat 5) (nomark _)) (pss_one (ps_ret (pe_op op_addS (pe_ix ix_str pe_str (pe_op i_mod (pv 2) (pe_nat 16)) (fun _ _ => rfl)) (pe_slice sl_str (pv 0) (po_some (pe_nat 1)) po_none)))) pss_nil)
    (pss_cons (ps_if (pt_cmpR n_eq (pv 1) (pe_nat 6) (nomark _)) (pss_one (ps_ret pe_str)) pss_nil)
    (pss_one (ps_ret (pv 0)))))))))), ?_⟩), F.bindsN (fun _ _ _ _ _ _ us hl => match us, hl with | [_, _, _, _], _ => rfl)⟩, F.kp⟩
  try dsimp only [cxOf_K]
  obtain ⟨z, y, way, i, rfl, hz0, hz, hy, q⟩ := h
  refine w_start (σ := [some (.str (sS z)), some (nV way), some (.int i), some (.str (sS y)), none]) rfl ?_
  have lz := sS_len z
  have ly := sS_len y
  have lc : ∀ lo hi, (cutS (sS z) lo hi).length ≤ z.length := fun lo hi => lz ▸ cutS_length (sS z) lo hi
  have q' : ∀ x : Str, x.length ≤ 400 → Q (.str x) H := fun x h => by
    rw [str_S x]
    exact q _ (by rw [Array.length_toList]; exact h)
  have la : ∀ k x : Str, (k ++ x).length = k.length + x.length := fun k x => Str.length_append ..
  have l1 : ∀ c : Nat, (⟨#[c]⟩ : Str).length = 1 := fun _ => rfl
  walk_at "w"
  refine w_ite (fun c => ?_) (fun _ => ?_)
  · walk_at "w"
    refine w_addS (sz_of (by have := lc none (some (Nat.cast (i % ((sS z).length : Nat)).toNat)); omega)) ?_
    walk_at "w"
    refine w_addS (sz_of (by rw [la]; have := lc none (some (Nat.cast (i % ((sS z).length : Nat)).toNat)); have := lc (some (Nat.cast ((i % ((sS z).length : Nat)).toNat + 1))) none; omega)) ?_
    walk_at "w"
    refine q' _ ?_
    rw [la, la]
    have := lc none (some (Nat.cast (i % ((sS z).length : Nat)).toNat)); have := lc (some (Nat.cast ((i % ((sS z).length : Nat)).toNat + 1))) none; omega
  walk_at "w"
  refine w_ite (fun c => ?_) (fun _ => ?_)
  · walk_at "w"
    refine w_addS (sz_of (by have := lc none (some (Nat.cast (i % ((sS z).length : Nat)).toNat)); have := lc (some (Nat.cast ((i % ((sS z).length : Nat)).toNat + 1))) none; omega)) ?_
    walk_at "w"
    refine q' _ ?_
    rw [la]
    have := lc none (some (Nat.cast (i % ((sS z).length : Nat)).toNat)); have := lc (some (Nat.cast ((i % ((sS z).length : Nat)).toNat + 1))) none; omega
  walk_at "w"
  refine w_ite (fun c => ?_) (fun _ => ?_)
  · walk_at "w"
    refine w_addS (sz_of (by have := lc none (some (Nat.cast (i % ((sS z).length + 1 : Nat)).toNat)); omega)) ?_
    walk_at "w"
    refine w_addS (sz_of (by rw [la]; have := lc none (some (Nat.cast (i % ((sS z).length + 1 : Nat)).toNat)); have := lc (some (Nat.cast (i % ((sS z).length + 1 : Nat)).toNat)) none; omega)) ?_
    walk_at "w"
    refine q' _ ?_
    rw [la, la]
    have := lc none (some (Nat.cast (i % ((sS z).length + 1 : Nat)).toNat)); have := lc (some (Nat.cast (i % ((sS z).length + 1 : Nat)).toNat)) none; omega
  walk_at "w"
  refine w_ite (fun c => ?_) (fun _ => ?_)
  · walk_at "w"
    refine w_upper (by omega) ?_
    walk_at "w"
    refine q' _ ?_
    have := PyProof.Rows.len_upper (sS z)
    omega
  walk_at "w"
  refine w_ite (fun c => ?_) (fun _ => ?_)
  · walk_at "w"
    have hd : (i % (16 : Nat)).toNat < 16 := by omega
    refine w_ixSn (by decide +kernel) (by rw [figs_eq]; exact figs_at _ hd) ?_
    walk_at "w"
    refine w_addS (sz_of (by rw [l1]; have := lc (some ((1 : Nat) : Int)) none; omega)) ?_
    walk_at "w"
    refine q' _ ?_
    rw [la, l1]
    have := lc (some ((1 : Nat) : Int)) none; omega
  walk_at "w"
  refine w_ite (fun c => ?_) (fun _ => ?_)
  · walk_at "w"
    exact q' _ (by decide +kernel)
  walk_at "w"
  exact q z (by omega)
/-- what reading a line comes to -/
def sp_read (K : PySem.W.Frag) : Sp := fun vs H Q _ => ∃ (a f : Addr) (rule width last many : Nat) (z : List Nat) (due : Option Nat), vs = [.ref a, .str (sS z), optV due] ∧ BlocksAt K H a f rule width last many ∧ z.length ≤ 1000 ∧
  ∀ H', Ex H H' → Q (.bl (decide (numR z ((width * many + 3) / 4) (1 <<< (width * many)) = due))) H'
theorem c__law_read (T : Tx K mg) : Callee P w K mg base 3 (He.fAd K ("_law_read", none)) ["_law_blocks", "_law_line", "_law_due"] (sp_read K) := by
  obtain ⟨fd, F⟩ := F__law_read T
  have c_read_block := c_read_block (P := P) (w := w) (base := base) T
  refine ⟨⟨fd, F.ok sc__law_read (fun vs H Q E h => by first | (obtain ⟨rfl, _⟩ := h; rfl) | (obtain ⟨_, rfl, _⟩ := h; rfl) | (obtain ⟨_, _, rfl, _⟩ := h; rfl) | (obtain ⟨_, _, _, rfl, _⟩ := h; rfl) | (obtain ⟨_, _, _, _, rfl, _⟩ := h; rfl) | (obtain ⟨_, _, _, _, _, rfl, _⟩ := h; rfl) | (obtain ⟨_, _, _, _, _, _, rfl, _⟩ := h; rfl) | (obtain ⟨_, _, _, _, _, _, _, rfl, _⟩ := h; rfl) | (obtain ⟨_, _, _, _, _, _, _, _, rfl, _⟩ := h; rfl) | (obtain ⟨_, _, _, _, _, _, _, _, _, rfl, _⟩ := h; rfl) | (obtain ⟨_, _, _, _, _, _, _, _, _, _, rfl, _⟩ := h; rfl) | (obtain ⟨_, _, _, _, _, _, _, _, _, _, _, rfl, _⟩ := h; rfl) | (obtain ⟨_, _, _, _, _, _, _, _, _, _, _, _, rfl, _⟩ := h; rfl) | (obtain ⟨_, _, _, _, _, _, _, _, _, _, _, _, _, rfl, _⟩ := h; rfl)) (fun cdv A outer s H vs Q E hr h => ⟨_, (pss_cons (ps_try (i := 4) rfl rfl sc__law_read.nd rfl rfl ⟨rfl, by decide, Or.inl (glo_PlankError T)⟩ (takes_of rfl rfl rfl rfl) (fun W pn xe tk ps => (pss_one (ps_set (i := 3) sc__law_read.nd rfl (by first | exact Or.inl rfl | exact Or.inr rfl) (pe_f c_read_block (glo_read_block T) hr (by decide) tk (pa_cons (pv 0) (pa_cons (pv 1) pa_nil)))))) (fun a oe cls d pn hz hf => (pss_one (ps_ret (pe_and (pe_cmpR op_isN1 (pv 2) pe_non (nomark _)) (pe_and (pe_callB (call_isX hz hf) (by rfl) (free_isinstance T) (by decide +kernel) (pa_cons (pv 4) (pa_cons (pe_glob (v := .ref (He.ga K "NoLine")) rfl (glo_NoLine T) rfl) pa_nil))) (pe_and (pe_callB (call_isX hz hf) (by rfl) (free_isinstance T) (by decide +kernel) (pa_cons (pv 4) (pa_cons (pe_bltn (v := .ty "ValueError") rfl (free_ValueError T) (by decide +kernel) rfl) pa_nil))) (pe_one (pe_not (pe_callB (call_isX hz hf) (by rfl) (free_isinstance T) (by decide +kernel) (pa_cons (pv 4) (pa_cons (pe_glob (v := .ref (He.ga K "NoBlock")) rfl (glo_NoBlock T) rfl) pa_nil))))))))))))
    (pss_one (ps_ret (pe_and (pe_callB call_isi (by rfl) (free_isinstance T) (by decide +kernel) (pa_cons (pv 3) (pa_cons (pe_bltn (v := .ty "int") rfl (free_int T) (by decide +kernel) rfl) pa_nil))) (pe_and (pe_not (pe_callB call_isi (by rfl) (free_isinstance T) (by decide +kernel) (pa_cons (pv 3) (pa_cons (pe_bltn (v := .ty "bool") rfl (free_bool T) (by decide +kernel) rfl) pa_nil)))) (pe_one (pe_cmpR op_eq (pv 3) (pv 2) (nomark _)))))))), ?_⟩), F.bindsN (fun _ _ _ _ _ _ us hl => match us, hl with | [_, _, _], _ => rfl)⟩, F.kp⟩
  try dsimp only [cxOf_K]
  obtain ⟨a, f, rule, width, last, many, z, due, rfl, hb, hz, q⟩ := h
  refine w_start (σ := [some (.ref a), some (.str (sS z)), some (optV due), none, none]) rfl ?_
  have hl := sS_len z
  obtain ⟨bx, ba, _, G, m1, m2⟩ := id hb
  have g2 := G.wid
  have g3 : width * many ≤ 8 * 16 := Nat.mul_le_mul g2 m2
  walk_at "w"
  refine ⟨a, f, rule, width, last, many, z, rfl, hb, hz, by omega, ?_, ?_⟩
  · intro n h1 h2 h3 H1 e1
    have e2 : numR z ((width * many + 3) / 4) (1 <<< (width * many)) = some n := by
      unfold numR
      rw [if_neg (fun z => z h1), h2]
      show (if _ then _ else _) = _
      rw [if_neg (by omega)]
    rw [e2] at q
    walk_at "w"
    refine w_eq (optV_scal n due) ?_
    have e3 : decide (nV n = optV due) = decide (some n = due) := by
      by_cases h : some n = due
      · rw [decide_eq_true h, ← h]
        exact decide_eq_true rfl
      · rw [decide_eq_false h]
        exact decide_eq_false fun z => h (optV_inj (x := some n) z)
    rw [e3]
    exact q H1 e1
  · intro hh H1 e1
    have e2 : numR z ((width * many + 3) / 4) (1 <<< (width * many)) = none := by
      unfold numR
      rcases hh with h | h | ⟨n, h, h2⟩
      · rw [if_pos h]
      · rw [h]
        by_cases c : z.length ≠ (width * many + 3) / 4
        · rw [if_pos c]
        · rw [if_neg c]
          rfl
      · rw [h]
        by_cases c : z.length ≠ (width * many + 3) / 4
        · rw [if_pos c]
        · rw [if_neg c]
          show (if _ then _ else _) = _
          rw [if_pos (by omega)]
    rw [e2] at q
    show wAs _ _ _ _ _ _ _ _ _ _
    refine w_catch (exm_NoLine_PlankError T) ?_
    intro a2 ha2
    walk_at "w"
    rw [optV_non]
    refine w_ite (fun c => ?_) (fun c => ?_)
    · rw [decide_eq_true c.symm] at q
      walk_at "w"
      refine w_isXo (excC_NoLine T) (kit_NoLine_NoLine T) ?_
      walk_at "w"
      refine w_isXt (excC_NoLine T) (kit_NoLine_TValueError T) ?_
      walk_at "w"
      refine w_isXo (excC_NoLine T) (kit_NoLine_NoBlock T) ?_
      walk_at "w"
      exact q H1 e1
    · rw [decide_eq_false (fun z => c z.symm)] at q
      exact q H1 e1
end
end Prog


namespace Prog
open PySem PySem.Spec PyProof.Rows L2 Plk
local macro_rules | `(tactic| walk_at "cls") => `(tactic| first | exact cls_Blocks (by assumption) | exact cls_Field (by assumption))
local macro_rules | `(tactic| walk_at "noat") => `(tactic| with_reducible first | exact noat_Blocks_field (by assumption) | exact noat_Blocks_many (by assumption) | exact noat_Blocks_limit (by assumption) | exact noat_Blocks_ones (by assumption) | exact noat_Field_rule (by assumption) | exact noat_Field_width (by assumption) | exact noat_Field_last (by assumption) | exact noat_Field_powers (by assumption) | exact noat_Field_logs (by assumption))
local macro_rules | `(tactic| walk_at "fact") => `(tactic| first
  | assumption
  | (refine' Ex.go ?w_e ?w_f; (case w_e => assumption); (case w_f => walk_at "fact"))
  | (refine' Off.go ?w_e ?w_n ?w_f; (case w_e => assumption); (case w_n => assumption); (case w_f => walk_at "fact"))
  | (refine' Off.goL ?w_e ?w_i ?w_f; (case w_e => assumption); (case w_i => walk_at "fact"); (case w_f => walk_at "fact"))
  | (refine' Off.goT ?w_e ?w_i ?w_f; (case w_e => assumption); (case w_i => walk_at "fact"); (case w_f => walk_at "fact")))
local macro_rules | `(tactic| walk_at "seq") => `(tactic| first | assumption | (refine' SqL.of ?w_f; (case w_f => walk_at "fact")) | (refine' Ex.sl ?w_e ?w_f; (case w_e => assumption); (case w_f => walk_at "seq")))
local macro_rules | `(tactic| walk_at "w1") => `(tactic| with_reducible first
  | refine w_seq ?_ | refine w_tYes ?_ | refine w_try ?_ | refine w_raise ?_ | refine w_asg ?_ | refine w_op ?_ | refine w_cons ?_ | refine w_nil ?_ | refine w_c ?_ | refine w_n0 ?_ | refine w_i0 ?_ | refine w_u ?_
  | refine w_ret ?_ | refine w_retN ?_ | refine w_drop ?_ | refine w_ifs ?_ | refine w_test ?_ | refine w_B ?_ | refine w_bl ?_ | refine w_and ?_ | refine w_or ?_ | refine w_not ?_ | refine w_cb ?_ | refine w_call ?_ | refine w_meth ?_ | refine w_make ?_
  | refine w_nx ?_ | refine w_rt ?_ | refine w_bk ?_ | refine w_ct ?_ | refine w_next ?_ | refine w_brk ?_ | refine w_cont ?_
  | refine w_lst ?_ | refine w_tup ?_ | refine w_bm ?_ | refine w_bm0 ?_ | refine w_m1 ?_ | refine w_m0 ?_ | refine w_sl ?_ | refine w_part ?_ | refine w_nopart ?_ | refine w_int ?_ | refine w_ifE ?_ | refine w_bits ?_
  | refine w_for ?_ | refine w_lc ?_ | refine w_iList ?_ | refine w_iStr ?_ | refine w_iStr' ?_ | refine w_iRng1 ?_ | refine w_iRng2 ?_ | refine w_iEnum ?_ | refine w_iZip ?_ | refine w_gcons ?_ | refine w_gnil ?_ | refine w_gsub ?_
  | refine w_isN ?_ | refine w_notN ?_ | refine w_inS ?_ | refine w_notInS ?_ | refine w_find ?_ | refine w_max2 ?_ | refine w_min2 ?_ | refine w_un ?_ | refine w_sfld ?_ | refine w_fld1 ?_ | refine w_unop ?_ | refine w_chain ?_ | refine w_andV ?_ | refine w_orV ?_ | refine w_notV ?_
  | refine w_iteNF ?_ | refine w_iteNT ?_ | refine w_iteT ?_ | refine w_iteF ?_)
local macro_rules | `(tactic| walk_at "w2") => `(tactic| first
  | ((with_reducible refine' w_var ?w_h ?w_k); (case w_h => exact rfl))
  | ((with_reducible refine' w_gname' ?w_h ?w_k); (case w_h => first | (dsimp only [List.set]; done) | (dsimp only [List.set]; exact rfl)))
  | ((with_reducible refine' w_aug ?w_h ?w_k); (case w_h => exact rfl))
  | ((with_reducible refine' w_eq ?w_h ?w_k); (case w_h => exact rfl))
  | ((with_reducible refine' w_ne ?w_h ?w_k); (case w_h => exact rfl))
  | ((with_reducible refine' w_n ?w_h ?w_k); (case w_h => first | trivial | omega | assumption | decide))
  | ((with_reducible refine' w_i ?w_h ?w_k); (case w_h => first | trivial | omega | assumption | decide))
  | ((with_reducible refine' w_imod ?w_h ?w_k); (case w_h => first | omega | assumption | decide))
  | ((with_reducible refine' w_lenS ?w_h ?w_k); (case w_h => (refine sz_of ?_; omega)))
  | ((with_reducible refine' w_lenL ?w_h ?w_k); (case w_h => walk_at "seq"))
  | ((with_reducible refine' w_addS ?w_h ?w_k); (case w_h => (refine sz_of ?_; omega)))
  | ((with_reducible refine' w_slS ?w_h ?w_k); (case w_h => (refine sz_of ?_; omega)))
  | ((with_reducible refine' w_iList' ?w_h ?w_k); (case w_h => walk_at "seq"))
  | ((with_reducible refine' w_iEnum' ?w_h ?w_k); (case w_h => walk_at "seq"))
  | ((with_reducible refine' w_iRng1' ?w_h ?w_k); (case w_h => omega))
  | ((with_reducible refine' w_fldG ?w_h ?w_c ?w_n ?w_l ?w_k); (case w_h => walk_at "fact"); (case w_c => walk_at "cls"); (case w_n => walk_at "noat"); (case w_l => exact rfl))
  | ((with_reducible refine' w_methG ?w_h ?w_c ?w_l ?w_k); (case w_h => walk_at "fact"); (case w_c => exact rfl); (case w_l => exact rfl))
  | ((with_reducible refine' w_fldS ?w_h ?w_c ?w_n ?w_l ?w_k); (case w_h => walk_at "fact"); (case w_c => walk_at "cls"); (case w_n => walk_at "noat"); (case w_l => exact Nat.le_of_ble_eq_true rfl); (generalize w_hq : upd _ _ _ = w_H; have w_at := new_at w_hq; have w_off := new_off w_hq; clear w_hq))
  | ((with_reducible refine' ⟨_, _, _, _, rfl, ?w_h, ?w_c, ?w_n, ?w_l, ?w_k⟩); (case w_h => walk_at "fact"); (case w_c => walk_at "cls"); (case w_n => walk_at "noat"); (case w_l => exact Nat.le_of_ble_eq_true rfl); (generalize w_hq : upd _ _ _ = w_H; have w_at := new_at w_hq; have w_off := new_off w_hq; clear w_hq))
  | ((with_reducible refine' w_yes ?w_h ?w_k); (case w_h => first | assumption | omega))
  | ((with_reducible refine' w_no ?w_h ?w_k); (case w_h => first | assumption | omega))
  | ((with_reducible refine' w_yesN ?w_h ?w_k); (case w_h => first | assumption | omega))
  | ((with_reducible refine' w_noN ?w_h ?w_k); (case w_h => first | assumption | omega))
  | ((with_reducible refine' w_ixLn ?w_h ?w_e ?w_k); (case w_h => walk_at "seq"); (case w_e => first | assumption | exact rfl))
  | ((with_reducible refine' w_ixTn ?w_h ?w_e ?w_k); (case w_h => (refine' SqT.of ?w_f; (case w_f => walk_at "fact"))); (case w_e => exact rfl))
  | ((with_reducible refine' w_rep1 ?w_h ?w_n ?w_k); (case w_h => walk_at "fact"); (case w_n => omega))
  | ((with_reducible refine' w_divN ?w_n ?w_k); (case w_n => omega))
  | ((with_reducible refine' w_isiI (u := true) ?w_n ?w_k); (case w_n => exact rfl))
  | ((with_reducible refine' w_isiI (u := false) ?w_n ?w_k); (case w_n => exact rfl))
  | ((with_reducible refine' w_isiS (u := true) ?w_n ?w_k); (case w_n => exact rfl))
  | ((with_reducible refine' w_isiS (u := false) ?w_n ?w_k); (case w_n => exact rfl))
  | ((with_reducible refine' w_gtup ?w_h ?w_n ?w_k); (case w_h => (refine' SqT.of ?w_f; (case w_f => walk_at "fact"))); (case w_n => exact rfl))
  | ((with_reducible refine' w_zfillN ?w_n ?w_k); (case w_n => omega))
  | ((with_reducible refine' w_strOk ?w_k))
  | ((with_reducible refine' w_lstOk ?w_h ?w_k); (case w_h => (refine' SqL.of ?w_f; (case w_f => walk_at "fact"))))
  | ((with_reducible refine' w_sz ?w_h ?w_k); (case w_h => exact (by decide)))
  | ((with_reducible refine w_newI ?_); (intro w_p w_fr; generalize w_hq : upd _ w_p _ = w_H; have w_ex := new_ex w_hq w_fr; have w_at := new_at w_hq; have w_of := new_of w_hq; clear w_hq)))
local macro_rules | `(tactic| walk_at "w") => `(tactic| repeat (first | walk_at "w1" | walk_at "w2"))

section
variable {P : Program} {w : World} {K : PySem.W.Frag} {mg : Str → Option Value} {base : Heap}
/-! ### the law -/
def widthT : List Nat := [4, 4, 5, 5, 6, 6, 7, 7, 8, 8]
def lastT : List Nat := [15, 15, 31, 31, 63, 63, 127, 127, 255, 255]
theorem good_rules : ∀ j, j < 10 → Good (rules.getD j 0) (widthT.getD j 0) (lastT.getD j 0) := fun j h => by
  match j, h with
  | 0, _ => exact ⟨by decide, by decide, by decide, by decide +kernel, by decide, Back.of (by decide) (by decide +kernel), by decide, by decide +kernel⟩
  | 1, _ => exact ⟨by decide, by decide, by decide, by decide +kernel, by decide, Back.of (by decide) (by decide +kernel), by decide, by decide +kernel⟩
  | 2, _ => exact ⟨by decide, by decide, by decide, by decide +kernel, by decide, Back.of (by decide) (by decide +kernel), by decide, by decide +kernel⟩
  | 3, _ => exact ⟨by decide, by decide, by decide, by decide +kernel, by decide, Back.of (by decide) (by decide +kernel), by decide, by decide +kernel⟩
  | 4, _ => exact ⟨by decide, by decide, by decide, by decide +kernel, by decide, Back.of (by decide) (by decide +kernel), by decide, by decide +kernel⟩
  | 5, _ => exact ⟨by decide, by decide, by decide, by decide +kernel, by decide, Back.of (by decide) (by decide +kernel), by decide, by decide +kernel⟩
  | 6, _ => exact ⟨by decide, by decide, by decide, by decide +kernel, by decide, Back.of (by decide) (by decide +kernel), by decide, by decide +kernel⟩
  | 7, _ => exact ⟨by decide, by decide, by decide, by decide +kernel, by decide, Back.of (by decide) (by decide +kernel), by decide, by decide +kernel⟩
  | 8, _ => exact ⟨by decide, by decide, by decide, by decide +kernel, by decide, Back.of (by decide) (by decide +kernel), by decide, by decide +kernel⟩
  | 9, _ => exact ⟨by decide, by decide, by decide, by decide +kernel, by decide, Back.of (by decide) (by decide +kernel), by decide, by decide +kernel⟩
theorem width_lo : ∀ j, j < 10 → 4 ≤ widthT.getD j 0 := by decide
def sp_law (K : PySem.W.Frag) : Sp := fun vs H Q _ => ∃ (a : Addr) (ns : List Int), vs = [.ref a] ∧ SqL K H a (ns.map V.int) ∧ ns.length ≤ 63 ∧ ∀ H', Q (.bl true) H'
theorem o_law (T : Tx K mg) {fd : FuncData} (F : FunD K "law" "law" (defArgs s_law) (defBody s_law) (defScope s_law) [] [] (He.fAd K ("law", none)) fd) : FnOk P w K mg base (L2.CX P w) 8 (He.fAd K ("law", none)) fd ["_law_script"] (sp_law K) := by
  have c__law_rule := c__law_rule (P := P) (w := w) (base := base) T
  have c__law_cell := c__law_cell (P := P) (w := w) (base := base) T
  have c_Blocks___init__ := c_Blocks___init__ (P := P) (w := w) (base := base) T
  have c_Field___init__ := c_Field___init__ (P := P) (w := w) (base := base) T
  have c__law_hex := c__law_hex (P := P) (w := w) (base := base) T
  have c_shown_block := c_shown_block (P := P) (w := w) (base := base) T
  have c__law_read := c__law_read (P := P) (w := w) (base := base) T
  have c__law_spoiled := c__law_spoiled (P := P) (w := w) (base := base) T
  have c__law_sign := c__law_sign (P := P) (w := w) (base := base) T
  have c__law_number := c__law_number (P := P) (w := w) (base := base) T
  refine F.ok sc_law (fun vs H Q E h => by first | (obtain ⟨rfl, _⟩ := h; rfl) | (obtain ⟨_, rfl, _⟩ := h; rfl) | (obtain ⟨_, _, rfl, _⟩ := h; rfl) | (obtain ⟨_, _, _, rfl, _⟩ := h; rfl) | (obtain ⟨_, _, _, _, rfl, _⟩ := h; rfl) | (obtain ⟨_, _, _, _, _, rfl, _⟩ := h; rfl) | (obtain ⟨_, _, _, _, _, _, rfl, _⟩ := h; rfl) | (obtain ⟨_, _, _, _, _, _, _, rfl, _⟩ := h; rfl) | (obtain ⟨_, _, _, _, _, _, _, _, rfl, _⟩ := h; rfl) | (obtain ⟨_, _, _, _, _, _, _, _, _, rfl, _⟩ := h; rfl) | (obtain ⟨_, _, _, _, _, _, _, _, _, _, rfl, _⟩ := h; rfl) | (obtain ⟨_, _, _, _, _, _, _, _, _, _, _, rfl, _⟩ := h; rfl) | (obtain ⟨_, _, _, _, _, _, _, _, _, _, _, _, rfl, _⟩ := h; rfl) | (obtain ⟨_, _, _, _, _, _, _, _, _, _, _, _, _, rfl, _⟩ := h; rfl)) (fun cdv A outer s H vs Q E hr h => ⟨_, (pss_cons (ps_set (i := 1) sc_law.nd rfl (by first | exact Or.inl rfl | exact Or.inr rfl) (pe_f c__law_rule (glo__law_rule T) hr (by decide) (takes_of rfl rfl rfl rfl) (pa_cons (pe_f c__law_cell (glo__law_cell T) hr (by decide) (takes_of rfl rfl rfl rfl) (pa_cons (pv 0) (pa_cons (pe_nat 0) pa_nil))) pa_nil)))
    (pss_cons (ps_set (i := 2) sc_law.nd rfl (by first | exact Or.inl rfl | exact Or.inr rfl) (pe_op n_add (pe_nat 1) (pe_op i_mod (pe_f c__law_cell (glo__law_cell T) hr (by decide) (takes_of rfl rfl rfl rfl) (pa_cons (pv 0) (pa_cons (pe_nat 1) pa_nil))) (pe_nat 16))))
    (pss_cons (ps_set (i := 3) sc_law.nd rfl (by first | exact Or.inl rfl | exact Or.inr rfl) (pe_op n_sub (pe_bits (pv 1)) (pe_nat 1)))
    (pss_cons (ps_set (i := 4) sc_law.nd rfl (by first | exact Or.inl rfl | exact Or.inr rfl) (pe_op n_shl (pe_nat 1) (pe_op n_mul (pv 3) (pv 2))))
    (pss_cons (ps_set (i := 5) sc_law.nd rfl (by first | exact Or.inl rfl | exact Or.inr rfl) (pe_op n_fdiv (pe_op n_add (pe_op n_mul (pv 3) (pv 2)) (pe_nat 3)) (pe_nat 4)))
    (pss_cons (ps_set (i := 6) sc_law.nd rfl (by first | exact Or.inl rfl | exact Or.inr rfl) (pe_op n_mod (pe_op n_mulW (pe_op i_mod (pe_f c__law_cell (glo__law_cell T) hr (by decide) (takes_of rfl rfl rfl rfl) (pa_cons (pv 0) (pa_cons (pe_nat 2) pa_nil))) (pv 4)) (pe_op n_add (pe_op n_pow (pe_nat 10) (pe_nat 39)) (pe_nat 7))) (pv 4)))
    (pss_cons (ps_set (i := 7) sc_law.nd rfl (by first | exact Or.inl rfl | exact Or.inr rfl) (pe_f c__law_cell (glo__law_cell T) hr (by decide) (takes_of rfl rfl rfl rfl) (pa_cons (pv 0) (pa_cons (pe_nat 3) pa_nil))))
    (pss_cons (ps_if (pt_cmpR n_eq (pe_op i_mod (pv 7) (pe_nat 5)) (pe_nat 1) (nomark _)) (pss_one (ps_set (i := 6) sc_law.nd rfl (by first | exact Or.inl rfl | exact Or.inr rfl) (pe_nat 0))) pss_nil)
    (pss_cons (ps_if (pt_cmpR n_eq (pe_op i_mod (pv 7) (pe_nat 5)) (pe_nat 2) (nomark _)) (pss_one (ps_set (i := 6) sc_law.nd rfl (by first | exact Or.inl rfl | exact Or.inr rfl) (pe_op n_sub (pv 4) (pe_nat 1)))) pss_nil)
    (pss_cons (ps_set (i := 8) sc_law.nd rfl (by first | exact Or.inl rfl | exact Or.inr rfl) (pe_new (mkr_Blocks T) c_Blocks___init__ (glo_Blocks T) hr (by decide) (takes_of rfl rfl rfl rfl) (pa_cons (pe_new (mkr_Field T) c_Field___init__ (glo_Field T) hr (by decide) (takes_of rfl rfl rfl rfl) (pa_cons (pv 1) pa_nil)) (pa_cons (pv 2) pa_nil))))
    (pss_cons (ps_set (i := 9) sc_law.nd rfl (by first | exact Or.inl rfl | exact Or.inr rfl) (pe_f c__law_hex (glo__law_hex T) hr (by decide) (takes_of rfl rfl rfl rfl) (pa_cons (pv 6) (pa_cons (pv 5) pa_nil))))
    (pss_cons (ps_set (i := 10) sc_law.nd rfl (by first | exact Or.inl rfl | exact Or.inr rfl) (pe_f c_shown_block (glo_shown_block T) hr (by decide) (takes_of rfl rfl rfl rfl) (pa_cons (pv 8) (pa_cons (pv 6) pa_nil))))
    (pss_cons (ps_if (PW.pt (pw_or (pt_not (pt_val (pe_callB call_isi (by rfl) (free_isinstance T) (by decide +kernel) (pa_cons (pv 10) (pa_cons (pe_bltn (v := .ty "str") rfl (free_str T) (by decide +kernel) rfl) pa_nil))))) (pw_or (pt_cmpR op_ne (pv 10) (pv 9) (nomark _)) (pw_or1 (pt_not (pt_val (pe_f c__law_read (glo__law_read T) hr (by decide) (takes_of rfl rfl rfl rfl) (pa_cons (pv 8) (pa_cons (pv 10) (pa_cons (pv 6) pa_nil)))))))))) (pss_one (ps_ret pe_bl)) pss_nil)
    (pss_cons (ps_set (i := 11) sc_law.nd rfl (by first | exact Or.inl rfl | exact Or.inr rfl) (pe_f c__law_spoiled (glo__law_spoiled T) hr (by decide) (takes_of rfl rfl rfl rfl) (pa_cons (pv 9) (pa_cons (pe_op i_mod (pe_op op_fdiv (pv 7) pe_int) (pe_nat 8)) (pa_cons (pe_f c__law_cell (glo__law_cell T) hr (by decide) (takes_of rfl rfl rfl rfl) (pa_cons (pv 0) (pa_cons (pe_nat 4) pa_nil))) (pa_cons (pe_f c__law_sign (glo__law_sign T) hr (by decide) (takes_of rfl rfl rfl rfl) (pa_cons (pe_f c__law_cell (glo__law_cell T) hr (by decide) (takes_of rfl rfl rfl rfl) (pa_cons (pv 0) (pa_cons (pe_nat 5) pa_nil))) pa_nil)) pa_nil))))))
    (pss_one (ps_ret (pe_f c__law_read (glo__law_read T) hr (by decide) (takes_of rfl rfl rfl rfl) (pa_cons (pv 8) (pa_cons (pv 11) (pa_cons (pe_f c__law_number (glo__law_number T) hr (by decide) (takes_of rfl rfl rfl rfl) (pa_cons (pv 11) (pa_cons (pv 5) (pa_cons (pv 4) pa_nil)))) pa_nil)))))))))))))))))))), ?_⟩)
  try dsimp only [cxOf_K]
  obtain ⟨a, ns, rfl, ha, hl, q⟩ := h
  refine w_start (σ := [some (.ref a), none, none, none, none, none, none, none, none, none, none, none]) rfl ?_
  walk_at "w"
  refine ⟨a, ns, 0, rfl, ha, hl, by decide, ?_⟩
  walk_at "w"
  have G := good_rules (cell ns 0 % (10 : Nat)).toNat (by omega)
  have wl := width_lo (cell ns 0 % (10 : Nat)).toNat (by omega)
  refine ⟨cell ns 0, rfl, ?_⟩
  generalize rules.getD (cell ns 0 % (10 : Nat)).toNat 0 = rule at G
  generalize widthT.getD (cell ns 0 % (10 : Nat)).toNat 0 = width at G wl
  generalize lastT.getD (cell ns 0 % (10 : Nat)).toNat 0 = last at G
  intro H1 e1
  replace ha := e1.sl ha
  walk_at "w"
  refine ⟨a, ns, 1, rfl, ha, hl, by decide, ?_⟩
  walk_at "w"
  rw [G.bits]
  obtain ⟨many, hm⟩ : ∃ m, m = 1 + (cell ns 1 % (16 : Nat)).toNat := ⟨_, rfl⟩
  have m1 : 1 ≤ many := by omega
  have m2 : many ≤ 16 := by omega
  rw [← hm]
  have g2 := G.wid
  have g3 : width * many ≤ 8 * 16 := Nat.mul_le_mul g2 m2
  have g4 : 4 * 1 ≤ width * many := Nat.mul_le_mul wl m1
  obtain ⟨lim, hlim⟩ : ∃ l, l = 1 <<< (width * many) := ⟨_, rfl⟩
  have g5 : 0 < lim := by rw [hlim, Nat.shiftLeft_eq, Nat.one_mul]; exact Nat.pow_pos (by decide)
  have g6 : lim ≤ 2 ^ 128 := by rw [hlim, Nat.shiftLeft_eq, Nat.one_mul]; exact Nat.pow_le_pow_right (by decide) (by omega)
  walk_at "w"
  rw [Nat.add_sub_cancel]
  walk_at "w"
  rw [← hlim]
  refine ⟨a, ns, 2, rfl, ha, hl, by decide, ?_⟩
  walk_at "w"
  have g7 : (cell ns 2 % (lim : Nat)).toNat < lim := imod_lt _ g5
  generalize (cell ns 2 % (lim : Nat)).toNat = c2 at g7
  have g8 : (10 : Nat) ^ 39 + 7 < 2 ^ 2000 := by decide +kernel
  have g9 : c2 < 2 ^ 2000 := Nat.lt_trans (Nat.lt_of_lt_of_le g7 g6) (by decide +kernel)
  walk_at "w"
  refine ⟨a, ns, 3, rfl, ha, hl, by decide, ?_⟩
  have g10 : c2 * (10 ^ 39 + 7) % lim < lim := Nat.mod_lt _ g5
  generalize c2 * (10 ^ 39 + 7) % lim = b at g10
  generalize cell ns 3 = edge
  walk_at "w"
  have p16 : ∀ b, b < lim → b < 16 ^ ((width * many + 3) / 4) := fun b h => Nat.lt_of_lt_of_le h (by
    rw [hlim, Nat.shiftLeft_eq, Nat.one_mul, show (16 : Nat) = 2 ^ 4 from rfl, ← Nat.pow_mul]
    exact Nat.pow_le_pow_right (by decide) (by omega))
  have rn : ∀ b, b < lim → numR (hexN b ((width * many + 3) / 4)) ((width * many + 3) / 4) lim = some b := fun b h => by
    unfold numR
    rw [hexN_len, if_neg (fun z => z rfl), rd_hexN, Nat.zero_mul, Nat.zero_add, Nat.mod_eq_of_lt (p16 b h)]
    show (if _ then _ else _) = _
    rw [if_neg (by omega)]
  refine w_ite (fun d1 => ?z1) (fun d1 => ?z2)
  case' z2 =>
    walk_at "w"
    refine w_ite (fun d2 => ?z3) (fun d2 => ?z4)
  case' z1 => have hb := g5
  case' z3 => have hb : lim - 1 < lim := by omega
  case' z4 => have hb := g10
  all_goals
    walk_at "w"
    intro x dx hx hdx hne
    refine ⟨x, dx, rule, width, last, rfl, G, upd_same, fun H2 off2 at2 => ⟨rfl, ?_⟩⟩
    have e2 := made_ex hx hdx off2
    walk_at "w"
    intro y dy hy hdy hne2
    refine ⟨y, dy, x, rule, width, last, many, rfl, G, at2.mono (Ex.new2 hy hdy hne2), m1, m2, upd_same, fun H3 off3 at3 => ⟨rfl, ?_⟩⟩
    have e3 := made_ex hy hdy off3
    walk_at "w"
    refine ⟨_, _, rfl, by omega, fun H4 e4 => ?_⟩
    walk_at "w"
    refine ⟨y, x, rule, width, last, many, _, rfl, at3.mono e4, by omega, p16 _ hb, fun H5 e5 => ?_⟩
    walk_at "w"
    refine w_noN rfl ?_
    walk_at "w"
    refine ⟨y, x, rule, width, last, many, _, some _, rfl, (at3.mono e4).mono e5, by rw [hexN_len]; omega, fun H6 e6 => ?_⟩
    rw [← hlim, rn _ hb, decide_eq_true rfl]
    have ha6 := e6.sl (e5.sl (e4.sl (e3.sl (e2.sl ha))))
    walk_at "w"
    refine ⟨a, ns, 4, rfl, ha6, hl, by decide, ?_⟩
    walk_at "w"
    refine ⟨a, ns, 5, rfl, ha6, hl, by decide, ?_⟩
    walk_at "w"
    refine ⟨_, rfl, fun c => ?_⟩
    walk_at "w"
    refine ⟨_, _, _, _, rfl, by rw [hexN_len]; omega, by rw [hexN_len]; omega, Nat.le_of_ble_eq_true rfl, fun z hz => ?_⟩
    walk_at "w"
    refine ⟨z, _, _, rfl, by omega, fun H7 e7 => ?_⟩
    walk_at "w"
    refine ⟨y, x, rule, width, last, many, z, _, rfl, (((at3.mono e4).mono e5).mono e6).mono e7, by omega, fun H8 e8 => ?_⟩
    rw [← hlim, decide_eq_true rfl]
    exact q H8
end
end Prog

namespace Prog
open PySem PySem.Spec PyProof.Rows L2 Plk
/-! ### the head: the top's run -/
def adr0 : List Addr := [3, 31, 30, 51, 50, 63, 62, 82, 81, 94, 93, 176, 175, 246, 245, 48, 79, 103, 110, 117, 131, 138, 145, 152, 159, 166, 173, 187, 194, 208]
def adr1 : List Addr := [215, 222, 229, 236, 243, 257, 264, 269, 276, 283, 290, 297, 304, 47, 78, 102, 109, 116, 130, 137, 144, 151, 158, 165, 172, 186, 193, 207, 214, 221]
def adr2 : List Addr := [228, 235, 242, 256, 263, 268, 275, 282, 289, 296, 303]
def adrs : List Addr := adr0 ++ adr1 ++ adr2
def obsH (g : Addr → Option Obj) : He.AlD × Bool := (He.obsD fa fn (He.frG g adrs), exB.all fun f => f (He.frG g adrs))
def hookH : PySem.W.Hook where
  α := He.AlD × Bool
  obs := fun s => obsH s.heap.get?
  val := fun _ => (He.valD fn, true)
  says := fun _ h => ∃ K : PySem.W.Frag, K.In h ∧ He.SaysD fa fn K ∧ exB.all (fun f => f K) = true
  of := fun _ _ e => ⟨_, He.frG_in, (Prod.mk.inj e).1, (Prod.mk.inj e).2⟩
  keeps := fun _ _ _ ⟨K, hK, c, x⟩ k => ⟨K, PySem.W.Frag.In.keeps hK k, c, x⟩
def ob (s : PySem.W.SharedT) : He.AlD × Bool := obsH (HandSHeadRun.getT s)
theorem ob_eq (s : PySem.W.SharedT) : ob s = hookH.obs s.abs := by
  have e : HandSHeadRun.getT s = s.abs.heap.get? := funext (HandSHeadRun.getT_eq s)
  unfold ob
  rw [e]
  rfl
def names0 : List Str := ["_wall", "figures_of", "shown_block", "read_block", "doubled", "walk_of", "_law_cell", "_law_rule", "_law_hex", "_law_sign", "_law_number", "_law_spoiled", "_law_read", "PlankError", "NoField", "NoShape", "NoBlock", "NoLine", "Blocks", "Field", "FIGURES", "MOST_SYMBOLS", "LEAST_RULE", "END_OF_RULES"]
abbrev names : List Str := names0
abbrev R : PySem.W.OpenRow := PySem.W.OpenLaw.row PySem.Challenge.rw_spareplank_k81_blocks_as_texts
abbrev qv := PySem.W.view R.prog [29]
open PySem PySem.W PySem.Calls PyProof.Rows HandSHeadRun in
theorem run1 (w : World) (os : OsState) : (endF (stepQ (denQ tabQ) R.prog w) 4000 R.prog w os).map (fun s => looksF R.prog (boot_heap w.params) s.abs) = some true := by kernel_rfl
open PySem PySem.W PySem.Calls PyProof.Rows HandSHeadRun in
theorem run2 (w : World) (os : OsState) : (endF (stepQ (denQ tabQ) R.prog w) 4000 R.prog w os).map (fun s => seenQ qv names (importedModules R.prog.main.body) (fun s => xlAt qv [] s && recOk R.toRowW.records s) s.abs) = some (openGood qv names) := by kernel_rfl
open PySem PySem.W PySem.Calls PyProof.Rows HandSHeadRun in
theorem run3 (w : World) (os : OsState) : (endF (stepQ (denQ tabQ) R.prog w) 4000 R.prog w os).map (fun s => ob s) = some (hookH.val w) := by kernel_rfl
end Prog

namespace Prog
open PySem PySem.Spec PyProof.Rows L2 Plk
/-! ### the law holds -/
theorem facts {P : Program} {w : World} {K : PySem.W.Frag} {h : Heap} {mg : Str → Option Value} {f : Addr} (X : K.In h) (G : h.Ns mainGlobals mg) (hfa : mg ("law" : Str) = some (.ref f)) (c : He.SaysD fa fn K) (x : exB.all (fun f => f K) = true) :
    ∃ fd : FuncData, (∀ (s : Shared) (v : Value), BindsTo s fd ⟨[v], []⟩ [("_law_script", v)]) ∧ ∀ base : Heap, K.In base → base.Ns mainGlobals mg → FnOk P w K mg base (L2.CX P w) 8 f fd ["_law_script"] (sp_law K) := by
  have T : Tx K mg := ⟨⟨h, X, G⟩, c, x⟩
  obtain ⟨fd0, F⟩ := F_law T
  have e := hfa.symm.trans (glo_law T)
  cases e
  have b := FunD.bindsA (ps := ["_law_script"]) F fun _ _ _ _ _ _ us hl => match us, hl with | [_], _ => rfl
  exact ⟨fd0, fun s v => b s [v] rfl, fun base _ _ => o_law (base := base) T F⟩
end Prog
open PySem PySem.W PySem.Calls PyProof.Rows HandSHeadRun
theorem PySem.Challenge.cw_spareplank_k81_blocks_as_texts_holds : PySem.Challenge.rw_spareplank_k81_blocks_as_texts.Holds := by
  w_on; o_law
  refine Plk.head3 (r := OpenLaw.row PySem.Challenge.rw_spareplank_k81_blocks_as_texts) (q := view (OpenLaw.row PySem.Challenge.rw_spareplank_k81_blocks_as_texts).prog [29]) (H := Prog.hookH) (ob := Prog.ob) (M := 4000) (loose := Prog.names) (d := HandSHeadRun.topDef (OpenLaw.row PySem.Challenge.rw_spareplank_k81_blocks_as_texts).prog 29) (kwd := []) Prog.ob_eq
    (by kernel_rfl) (fun s => by kernel_rfl) Prog.run1 Prog.run2 Prog.run3 (by kernel_rfl) (by kernel_rfl) (by kernel_rfl) (by rfl) (by first | assumption | decide +kernel) (by decide +kernel) ⟨rfl, rfl, rfl, rfl, rfl, by decide +kernel⟩ ?hw ?hc
  case hw => w_witness2
  case hc =>
    refine Plk.walk_law (l := PySem.Challenge.rw_spareplank_k81_blocks_as_texts) (n := 63) (k := 8) (x := "_law_script") rfl (by decide) (by kernel_rfl) ⟨rfl, by decide, by decide⟩ ?F
    intro w mg fa h Y G hmg0
    obtain ⟨K, KX, c, x⟩ := Y
    have hmg : mg ("law" : PySem.Str) = some (.ref fa) := by
      have e : (HandSHeadRun.topDef (OpenLaw.row PySem.Challenge.rw_spareplank_k81_blocks_as_texts).prog 29).name = ("law" : PySem.Str) := by kernel_rfl
      rw [← e]
      exact hmg0
    obtain ⟨fd, hb, hF⟩ := Prog.facts (P := (PySem.Challenge.rw_spareplank_k81_blocks_as_texts).prog) (w := w) KX G hmg c x
    exact ⟨K, fd, Prog.sp_law K, KX, hb, fun H a ns hl hS => ⟨a, ns, rfl, hS, hl, fun _ => rfl⟩, hF⟩
