import PyProof.Rows.All
import Wide.All
import OpenK.AllK
import Wide.FinOn
import HandS.ForMost
import HandS.ForExc
import HandS.Style
import HandS.StrMore
import HandS.Replace
import HandS.WideBits
import HandS.IsInst
import HandS.Codes
import HandS.MakeKwOnly
import HandS.Walk
import HandS.TupAny
import HandS.Deep
import KE.GoesEnum
import KE.IntTextLaws
import KE.KIntText
import PySem.Challenge.RW_gateseasons_k28_whole_frames_by_lengths
import HandS.Lambda
import HandS.EndTab
set_option Elab.async false
set_option linter.all false
set_option maxRecDepth 100000
set_option maxHeartbeats 2000000
/-! Xr: rules that the layer lacks: f(k = v) by keywords alone, text * n, text[::-1], enumerate over a text (from a start). -/
namespace Xr
open PySem PySem.Spec PyProof.Rows L2
open PySem.Builtin.Str (tooLong)

theorem hu64 {A : Around} {k : Nat} (hr : Room k A) : A.units + 64 < cLine := by have := hr.un; omega
theorem hu65 {A : Around} {k : Nat} (hr : Room k A) : A.units + 65 < cLine := by have := hr.un; omega

/-! ### f(k = v, ..) -/
/-- how a call with n positional values and keywords named ks binds -/
structure KBi (K : PySem.W.Frag) (fd : FuncData) (ps : List Str) (n : Nat) (ks : List Str) (g : List Value → List Value → List Value) (gV : List V → List V → List V) : Prop where
  to : ∀ (s : Shared) (us ws : List Value), us.length = n → ws.length = ks.length → BindsTo s fd ⟨us, ks.zip ws⟩ (ps.zip (g us ws))
  rel : ∀ {vs : List V} {us : List Value} {zs : List V} {ws : List Value}, Vals vs us → Vals zs ws → Vals (gV vs zs) (g us ws)
def tCallW (n m : Nat) (sp : Sp) (gV : List V → List V → List V) (E : XK) (t tk : TA) : TE := fun σ H Q => t σ H fun vs H1 => tk σ H1 fun zs H2 => vs.length = n ∧ zs.length = m ∧ sp (gV vs zs) H2 Q E
section
variable {X : Cx} {CX : CXT} {k n : Nat} {f : Addr} {fd : FuncData} {ps ks : List Str} {sp : Sp} {E : XK} {x : Str} {p pos : Pos} {e : Expr} {es : List Expr} {kws : List Keyword} {t tk : TA} {g : List Value → List Value → List Value} {gV : List V → List V → List V}
theorem run_kw {pins : List (Addr × Obj)} {σ : L2.St} {H : Hp} {s : Shared} {Q : VK} {us ws : List Value} {vs zs : List V} (F : FnOk X.prog X.w X.K X.mg X.base CX k f fd ps sp) (hr : Room k X.A) (hb : KBi X.K fd ps n ks g gV) (hx : Passes CX X E)
    (I : Inv X pins σ H s) (r : Vals vs us) (rz : Vals zs ws) (l1 : vs.length = n) (l2 : zs.length = ks.length) (h : sp (gV vs zs) H Q E) : wpAny (model X.prog X.w) X.A (call (.ref f) us (ks.zip ws)) (EP X pins σ Q) X.xe s := by
  refine wpAny_call (codeAny_mono (F.run X.A X.stack s H ⟨us, ks.zip ws⟩ (g us ws) (gV vs zs) Q E hr I.env0 (hb.to s us ws (r.length.symm.trans l1) (rz.length.symm.trans l2)) (hb.rel r rz) h) fun r s' hq => ?_)
  cases r with
  | error e => exact hx pins σ H s e s' I hq
  | ok fl =>
    cases fl with
    | ret u => exact I.after hq
    | next => exact False.elim hq
    | brk => exact False.elim hq
    | cont => exact False.elim hq
theorem pe_callW0 (F : FnOk X.prog X.w X.K X.mg X.base CX k f fd ps sp) (hr : Room k X.A) (hg : Gl X x) (hm : X.mg x = some (.ref f)) (hk : PySem.W.keepIn X.K (.ref f) = true) (hb : KBi X.K fd ps 0 ks g gV) (hx : Passes CX X E) (hkw : PK X kws tk)
    (hall : (backToKw pos (keywordEach kws X.env)).all (·.1.isSome) = true := by rfl) (hks : (backToKw pos (keywordEach kws X.env)).filterMap (·.1) = ks := by rfl) (hdb : (x == ("__debug__" : Str)) = false := by decide)
    (hpl : ((backTo pos (starEach [] X.env)).any (·.1) || (backToKw pos (keywordEach kws X.env)).any (·.1.isNone)) = false := by rfl) :
    PE X (.Call (.Name x p) [] kws pos) (tCallW 0 ks.length sp gV E tNil tk) := by
  refine ⟨fun pins s σ H Q I h => ?_⟩
  refine wpAny_Call_Name_kw (ld_glob I hg hm ?_ hdb)
  refine PySem.W.callWith_KW0 (h₀ := X.base) I.ok.mod.kin hk hall ?_ hpl
  refine thn (hkw.run pos pins s σ H _ I h) fun ws s2 ⟨zs, H2, I2, rz, l1, l2, q2⟩ => ⟨I2.kIn, ?_⟩
  rw [hks]
  exact run_kw (us := []) (vs := []) F hr hb hx I2 .nil rz rfl l2 q2
theorem pe_callW (F : FnOk X.prog X.w X.K X.mg X.base CX k f fd ps sp) (hr : Room k X.A) (hg : Gl X x) (hm : X.mg x = some (.ref f)) (hk : PySem.W.keepIn X.K (.ref f) = true) (hb : KBi X.K fd ps n ks g gV) (hx : Passes CX X E) (ha : PA X (e :: es) t) (hkw : PK X kws tk)
    (hall : (backToKw pos (keywordEach kws X.env)).all (·.1.isSome) = true := by rfl) (hks : (backToKw pos (keywordEach kws X.env)).filterMap (·.1) = ks := by rfl) (hdb : (x == ("__debug__" : Str)) = false := by decide)
    (he : starEach (e :: es) X.env = (false, eval e X.env) :: starEach es X.env := by rfl) (hpl : ((backTo pos (starEach (e :: es) X.env)).any (·.1) || (backToKw pos (keywordEach kws X.env)).any (·.1.isNone)) = false := by rfl) :
    PE X (.Call (.Name x p) (e :: es) kws pos) (tCallW n ks.length sp gV E t tk) := by
  refine ⟨fun pins s σ H Q I h => ?_⟩
  refine wpAny_Call_Name_kw (ld_glob I hg hm ?_ hdb)
  refine PySem.W.callWith_KW (h₀ := X.base) I.ok.mod.kin hk hall (thn (ha.run pos pins s σ H _ I h) fun us s1 ⟨vs, H1, I1, r, q⟩ => ?_) hpl he
  refine thn (hkw.run pos pins s1 σ H1 _ I1 q) fun ws s2 ⟨zs, H2, I2, rz, l1, l2, q2⟩ => ⟨I2.kIn, ?_⟩
  rw [hks]
  exact run_kw F hr hb hx I2 r rz l1 l2 q2
end

/-! ### text * n -/
def rMulS : R2 := fun x y H Q => ∃ (z : Str) (n : Int), x = .str z ∧ y = .int n ∧ MulOk z n ∧ Q (.str (Txt.mul z n)) H
theorem op_mul_strI {X : Cx} : OpR X (binaryOp .Mult) rMulS := by
  intro pins s σ H x y v u Q I rx ry h
  obtain ⟨z, n, rfl, rfl, ok, q⟩ := h
  obtain ⟨t, rfl⟩ := rx
  obtain ⟨t', rfl⟩ := ry
  exact PySem.SB.mul ok fun t'' k => ⟨.str _, H, I.tok _, ⟨_, rfl⟩, q⟩
theorem tooLong_of {n : Nat} (h : n ≤ 16777216) : tooLong n = false := by
  unfold tooLong
  rw [decide_eq_false]
  rw [sizeLine_eq]
  omega
theorem foldl_app (c : Array Nat) : ∀ (n : Nat) (b : Array Nat), ((List.replicate n c).foldl (· ++ ·) b).toList = b.toList ++ (List.replicate n c.toList).flatten
  | 0, b => by simp
  | n + 1, b => by
    rw [List.replicate_succ, List.foldl_cons, foldl_app c n (b ++ c), Array.toList_append, List.replicate_succ, List.flatten_cons, List.append_assoc]
theorem mul_list (z : Str) (n : Nat) : (Txt.mul z (n : Int)).cps.toList = (List.replicate n z.cps.toList).flatten := by
  unfold Txt.mul
  by_cases h1 : (n : Int) < 1
  · rw [if_pos h1]
    have : n = 0 := by omega
    subst this
    rfl
  · rw [if_neg h1]
    by_cases h2 : ((n : Int) == 1 || z.length == 0) = true
    · rw [if_pos h2]
      rw [Bool.or_eq_true, beq_iff_eq, beq_iff_eq] at h2
      rcases h2 with h2 | h2
      · have : n = 1 := by omega
        subst this
        simp
      · have e : z.cps.toList = [] := by
          have : z.cps.toList.length = 0 := h2
          exact List.eq_nil_of_length_eq_zero this
        rw [e]
        induction n with
        | zero => rfl
        | succ n ih => simp
    · rw [if_neg h2]
      show ((List.replicate (n : Int).toNat z.cps).foldl (· ++ ·) #[]).toList = _
      rw [foldl_app]
      simp
theorem mul_ok {z : Str} {n : Nat} (h : z.length * n ≤ 16777216) (hn : n ≤ 100000000) : MulOk z (n : Int) := by
  refine ⟨?_, fun h1 h2 => ?_, fun _ _ => tooLong_of (show z.length * (n : Int).toNat ≤ 16777216 by rw [Int.toNat_natCast]; exact h)⟩
  · rw [Bool.or_eq_false_iff]
    exact ⟨decide_eq_false (show ¬ (n : Int) < -9223372036854775808 by omega), decide_eq_false (show ¬ (n : Int) ≥ 9223372036854775808 by omega)⟩
  · intro q
    have hn0 : 0 < n := by omega
    have e1 : (z.length : Int) * n ≤ 16777216 := by
      have := Int.ofNat_le.mpr h
      rw [Int.natCast_mul] at this
      exact this
    have e2 : ((z.length : Int)) ≤ (9223372036854775807 : Int) / (n : Int) := Int.le_ediv_of_mul_le (by omega) (by omega)
    have q' : (z.length : Int) > (9223372036854775807 : Int) / (n : Int) := q
    omega

/-! ### text[::-1] -/
def tRevS (te : TE) : TE := fun σ H Q => te σ H fun x H1 => ∃ z : Str, x = .str z ∧ z.length ≤ sizeLine ∧ Q (.str ⟨z.cps.toList.reverse.toArray⟩) H1
theorem rev_list (x : Str) (u : Tok) : (Txt.sliceBy x none none (-1, u)).cps.toList = x.cps.toList.reverse := by
  rw [step_rev_list]
  refine List.ext_getElem (by rw [List.length_map, List.length_range, List.length_reverse, Array.length_toList]; rfl) fun i h1 h2 => ?_
  simp only [List.getElem_map, List.getElem_range, List.getElem_reverse, Array.length_toList]
  simp only [List.length_map, List.length_range] at h1
  have h3 : x.cps.size - 1 - i < x.cps.size := by
    have : i < x.cps.size := h1
    omega
  show x.cps.getD (x.cps.size - 1 - i) 0 = _
  rw [Array.getD, dif_pos h3]
  rfl
theorem pe_revS {X : Cx} {e : Expr} {te : TE} {k : Nat} {p1 p2 p3 pos : Pos} (he : PE X e te) : PE X (.Subscript e (.Slice none none (some (.UnaryOp .USub (.Constant (.int 1) k p1) p2)) p3) pos) (tRevS te) := by
  refine ⟨fun pins s σ H Q I h => ?_⟩
  refine Subscript_ (thn (he.run pins s σ H _ I h) fun v s1 ⟨x, H1, I1, r1, q1⟩ => ?_)
  obtain ⟨z, ex, hz, q⟩ := q1
  subst ex
  obtain ⟨t, rfl⟩ := r1
  have hst : PO X (some (.UnaryOp .USub (.Constant (.int 1) k p1) p2)) (tPart (tUn (rU fun i => .int (-i)) (tC (.int 1)))) := po_some (pe_un un_neg pe_int)
  refine wpAny_Slice (thn (po_none.run pins s1 σ H1 (fun o H2 => o = none ∧ H2 = H1) I1 ⟨rfl, rfl⟩) fun vl s2 ⟨l, H2, I2, pl, el, e2⟩ => ?_)
  subst el e2
  refine thn (po_none.run pins s2 σ H2 (fun o H3 => o = none ∧ H3 = H2) I2 ⟨rfl, rfl⟩) fun vu s3 ⟨u, H3, I3, pu, eu, e3⟩ => ?_
  subst eu e3
  refine thn (hst.run pins s3 σ H3 (fun o H4 => o = some (-1) ∧ H4 = H3) I3 ⟨1, rfl, -1, rfl, rfl, rfl⟩) fun vs s4 ⟨o, H4, I4, ps, eo, e4⟩ => ?_
  subst eo e4
  have I5 : Inv X pins σ H4 { s4 with heap := s4.heap.push { cls := .type "slice", data := .fields #[vl, vu, vs] } } := I4.kept (t' := s4.toks) fun b ob q => Heap.get?_push_of_some _ q
  obtain ⟨l', rfl, e5⟩ := IsPart.raw pl
  obtain ⟨u', rfl, e6⟩ := IsPart.raw pu
  obtain ⟨w', rfl, e7⟩ := IsPart.raw ps
  cases l' with
  | some a => simp at e5
  | none =>
  cases u' with
  | some a => simp at e6
  | none =>
  cases w' with
  | none => simp at e7
  | some a =>
  obtain ⟨a1, a2⟩ := a
  have e8 : a1 = -1 := by
    have := e7
    simp at this
    exact this
  subst e8
  show wpAny (model X.prog X.w) X.A (subscriptTail e (.Slice none none (some (.UnaryOp .USub (.Constant (.int 1) k p1) p2)) p3) (.str z t) (.ref s4.heap.objs.size)) (EP X pins σ Q) X.xe _
  refine tail_any (ops := [.str z t, .ref s4.heap.objs.size]) (typeIs_str _ _ _) (F.slot_str_getitem.lookup) ?_ (by with_unfolding_all rfl)
  refine wpAny_getItem_str_slice (l := none) (u := none) (st := some (-1, a2)) ⟨_, Heap.get?_push_size _ rfl, rfl, rfl⟩ rfl ?_
  have fin : ∀ t' c, EP X pins σ Q (.str (Txt.sliceBy z none none (-1, a2)) t') { s4 with heap := s4.heap.push { cls := .type "slice", data := .fields #[_, _, _] }, toks := c } := fun t' c => by
    refine ⟨.str ⟨z.cps.toList.reverse.toArray⟩, H4, I5.tok c, ⟨t', ?_⟩, q⟩
    have : Txt.sliceBy z none none (-1, a2) = ⟨z.cps.toList.reverse.toArray⟩ := by
      have h := rev_list z a2
      cases hq : Txt.sliceBy z none none (-1, a2) with
      | mk c =>
        rw [hq] at h
        have h' : c.toList = z.cps.toList.reverse := h
        rw [← h', Array.toArray_toList]
    rw [this]
  exact post_val_or_str ⟨Nat.le_trans (Txt.sliceBy_le z _ _ (-1, a2) (show (-1 : Int) ≠ 0 by decide)) hz, fun t' c => fin t' c⟩

/-! ### enumerate(text), enumerate(text, k) -/
def Ites (z : Str) (k : Int) : It :=
  ⟨fun i _ => i < z.cps.size, fun i H v H' => ∃ (T : Addr) (c : Nat), v = .ref T ∧ H T = none ∧ H' = upd H T (.tup [.int (k + (i : Nat)), .str ⟨#[c]⟩]) ∧ z.cps[i]? = some c, fun i _ => z.cps.size ≤ i⟩
theorem turn_enumS {P : Program} {w : World} {K : PySem.W.Frag} {elts : List Expr} {kk : Nat} {tpos : Pos} (z : Str) (t : Tok) (k : Int) (e it : Addr) :
    Turn P w K (.Tuple elts kk tpos) (Ites z k) [e, it] e (fun i h => (∃ old, IsEnum h e it (k + ((i : Nat) : Int)) old) ∧ h.IsStrIter it (strIterType z) z t i ∧ e ≠ it ∧ i ≤ z.cps.size) where
  mem := by simp
  obj := fun i h st b hb => by
    obtain ⟨⟨old, he⟩, hit, _⟩ := st
    obtain ⟨o, ho, hc, hd⟩ := hit
    have e' : b = e ∨ b = it := by simpa using hb
    rcases e' with z | z
    · rw [z]; exact ⟨_, he, fun v q => nomatch q⟩
    · rw [z]; exact ⟨o, ho, fun v q => by rw [hd] at q; cases q⟩
  keep := fun i h h' st kp => by
    obtain ⟨⟨old, he⟩, hit, hne, hl⟩ := st
    exact ⟨⟨old, kp e (by simp) _ he⟩, (Draws.text (prog := P) (w := w) (A := callerA) rfl it z t).frame i h h' hit fun b hb o q => kp b (by simp at hb; subst hb; simp) o q, hne, hl⟩
  item := by
    intro X hP hw hK hc i pins s σ H E I hf st hg
    subst hP hw hK
    obtain ⟨⟨old, he⟩, hit, hne, hl⟩ := st
    have hel : e < s.heap.objs.size := Heap.lt_size he
    have hil : it < s.heap.objs.size := by obtain ⟨_, q, _⟩ := hit; exact Heap.lt_size q
    have hlt : i < z.cps.size := hg
    refine wpAny_pyNext_enum_itemC (Draws.text (A := X.A.in1) (I.ok.hd hc) it z t) he hit hlt hne (by simpa using hne) fun x h' tk hx ho hit' hT hsz hk => ?_
    obtain ⟨c, u, hcx, rfl⟩ := hx
    refine ⟨_, rfl, wpAny_letOwnedTupleGo_enum (s := { s with heap := h', toks := tk + 1 }) ho fun h'' he' sb => ?_⟩
    have hT2 := (sb.2 _ (Nat.ne_of_gt hel)).trans hT
    have new : ObjOk X.prog X.w (upd H s.heap.objs.size (.tup [.int (k + (i : Nat)), .str ⟨#[c]⟩])) h'' s.heap.objs.size (.tup [.int (k + (i : Nat)), .str ⟨#[c]⟩]) :=
      ⟨by show 2 ≤ sizeLine; decide, _, .cons ⟨_, rfl⟩ (.cons ⟨_, rfl⟩ .nil), ⟨_, hT2, rfl, _, rfl⟩⟩
    have I1 : Inv X pins σ (upd H s.heap.objs.size (.tup [.int (k + (i : Nat)), .str ⟨#[c]⟩])) { s with heap := h'', toks := tk + 1 } :=
      I.turnedNew (ch := [e, it]) (fun b ob hb q => (sb.2 b (fun z => hb (by simp [z]))).trans (hk b ob (fun z => hb (by simp [z])) (fun z => hb (by simp [z])) q)) hf (Nat.le_refl _) new
    refine ⟨.ref s.heap.objs.size, _, I1, rfl, ⟨_, c, rfl, I.hok.fresh (Nat.le_refl _), rfl, hcx⟩, ⟨⟨.str ⟨#[c]⟩ u, ?_⟩, ?_, hne, hlt⟩, fun b hb => ?_⟩
    · have e1 : k + ((i + 1 : Nat) : Int) = k + (i : Int) + 1 := by omega
      rw [e1]; exact he'
    · exact (Draws.text (prog := X.prog) (w := X.w) (A := callerA) rfl it z t).frame (i + 1) h' h'' hit' fun b hb o q => (sb.2 b (by simp at hb; subst hb; exact Ne.symm hne)).trans q
    · have hb' : b < s.heap.objs.size := by
        have e' : b = e ∨ b = it := by simpa using hb
        rcases e' with z | z
        · rw [z]; exact hel
        · rw [z]; exact hil
      rw [upd_ne (Nat.ne_of_lt hb')]
      exact (hf b hb).1
  done := by
    intro X hP hw hK hc i pins s σ H E I hf st hg
    subst hP hw hK
    obtain ⟨⟨old, he⟩, hit, hne, hl⟩ := st
    have hi : i = z.cps.size := Nat.le_antisymm hl hg
    subst hi
    obtain ⟨f0, f1, f2, f3, f4, f5⟩ := hf it (by simp)
    exact wpAny_pyNext_enum_endD (Draws.text (A := X.A.in1) (I.ok.hd hc) it z t) he hit fun h' eb => ⟨rfl, I.turned (t' := s.toks) (fun b o hb q => eb b o hb q) f0 f1 f3 f4 f5⟩
  self := fun A i s Q E st h => let ⟨⟨_, he⟩, _⟩ := st; wpAny_pyIter_enum he h
def iEnumS (ta : TA) : TI := fun σ H R => ta σ H fun vs H1 => ∃ z : Str, vs = [.str z] ∧ R (Ites z 0) H1
def iEnumS1 (ta : TA) : TI := fun σ H R => ta σ H fun vs H1 => ∃ (z : Str) (k : Int), vs = [.str z, .int k] ∧ (-(2 ^ 62) ≤ k ∧ k < 2 ^ 62) ∧ R (Ites z k) H1
theorem pie_enumS {X : Cx} {pins : List (Addr × Obj)} {σ : L2.St} {H1 : Hp} {R : It → Hp → Prop} {s1 : Shared} {elts : List Expr} {kk : Nat} {tpos : Pos} {z : Str} {t : Tok} {k : Int} {h' : Heap} (I1 : Inv X pins σ H1 s1)
    (he : IsEnum h' (s1.heap.objs.size + 1) s1.heap.objs.size k .none) (hit : h'.IsStrIter s1.heap.objs.size (strIterType z) z t 0) (hk : ∀ b o, s1.heap.get? b = some o → h'.get? b = some o) (q : R (Ites z k) H1) :
    wpAny (model X.prog X.w) X.A (pyIter (.ref (s1.heap.objs.size + 1))) (PIE X pins σ (.Tuple elts kk tpos) R) X.xe { s1 with heap := h' } := by
  refine wpAny_pyIter_enum he ?_
  have I2 : Inv X pins σ H1 { s1 with heap := h' } := I1.kept (t' := s1.toks) hk
  have he0 : IsEnum h' (s1.heap.objs.size + 1) s1.heap.objs.size (k + ((0 : Nat) : Int)) .none := by
    have e : k + ((0 : Nat) : Int) = k := by omega
    rw [e]; exact he
  refine ⟨s1.heap.objs.size + 1, [s1.heap.objs.size + 1, s1.heap.objs.size], _, _, H1, rfl, I2, turn_enumS z t k (s1.heap.objs.size + 1) s1.heap.objs.size, ⟨⟨.none, he0⟩, hit, Nat.succ_ne_self _, Nat.zero_le _⟩, fun b hb => ?_, q⟩
  have e' : b = s1.heap.objs.size + 1 ∨ b = s1.heap.objs.size := by simpa using hb
  have hle : s1.heap.objs.size ≤ b := by
    rcases e' with z | z
    · rw [z]; exact Nat.le_add_right _ _
    · rw [z]; exact Nat.le_refl _
  exact I1.fpOk hle (I1.hok.fresh hle)
theorem pi_enumS {X : Cx} {e : Expr} {ta : TA} {p pos tpos : Pos} {elts : List Expr} {kk : Nat} (hg : Gl X "enumerate") (hm : X.mg "enumerate" = none) (ha : PA X [e] ta) (hs : starEach [e] X.env = [(false, eval e X.env)] := by rfl) :
    PI X (.Tuple elts kk tpos) (.Call (.Name "enumerate" p) [e] [] pos) (iEnumS ta) := by
  refine ⟨fun pins s σ H R I h => ?_⟩
  refine Call_ (ld_blt I hg hm boot_enumerate (PyProof.Rows.callWith_type1 (thn (ha.run pos pins s σ H _ I h) fun us s1 ⟨vs, H1, I1, r1, q1⟩ => ?_) hs rfl))
  obtain ⟨z, ex, q⟩ := q1
  subst ex
  cases r1 with
  | cons r rr =>
    cases rr
    obtain ⟨t, rfl⟩ := r
    exact call_enumerate_str fun h' he hit hsz hk => pie_enumS I1 he hit hk q
theorem pi_enumS1 {X : Cx} {e e2 : Expr} {ta : TA} {p pos tpos : Pos} {elts : List Expr} {kk : Nat} (hg : Gl X "enumerate") (hm : X.mg "enumerate" = none) (ha : PA X [e, e2] ta) (hs : starEach [e, e2] X.env = (false, eval e X.env) :: starEach [e2] X.env := by rfl)
    (hpl : (backTo pos (starEach [e2] X.env)).any (·.1) = false := by rfl) :
    PI X (.Tuple elts kk tpos) (.Call (.Name "enumerate" p) [e, e2] [] pos) (iEnumS1 ta) := by
  refine ⟨fun pins s σ H R I h => ?_⟩
  refine Call_ (ld_blt I hg hm boot_enumerate (PyProof.Rows.callWith_type1 (thn (ha.run pos pins s σ H _ I h) fun us s1 ⟨vs, H1, I1, r1, q1⟩ => ?_) hs hpl))
  obtain ⟨z, k, ex, ⟨k0, k1⟩, q⟩ := q1
  subst ex
  cases r1 with
  | cons r rr =>
    cases rr with
    | cons r2 rr =>
      cases rr
      obtain ⟨t, rfl⟩ := r
      obtain ⟨t2, rfl⟩ := r2
      refine enum_begins (begins_text z t) trivial (by omega) (by omega) fun h' he hg' hsz hk => ?_
      exact pie_enumS I1 he ⟨_, hg', rfl, rfl⟩ hk q
theorem walk_enumS {z : Str} {k : Int} : Walk (Ites z k) z.cps.size (fun _ => True) (fun i H v H' => ∃ (T : Addr) (c : Nat), v = .ref T ∧ H T = none ∧ H' = upd H T (.tup [.int (k + (i : Nat)), .str ⟨#[c]⟩]) ∧ z.cps[i]? = some c) :=
  ⟨fun _ _ hi _ => hi, fun _ _ => Nat.le_refl _, fun _ _ _ _ _ _ y => y⟩

/-! ### rules whose readings speak of K in the place of X.K (within a comprehension's block X hangs on the state) -/
section
variable {X : Cx} {K : PySem.W.Frag}
def rLenK (K : PySem.W.Frag) : List V → Hp → VK → Prop := fun xs H Q => ∃ x n, xs = [x] ∧ LenV K x H n ∧ Q (.int n) H
def rListK (K : PySem.W.Frag) : List V → Hp → VK → Prop := fun xs H Q => ∃ p ys, xs = [.ref p] ∧ (SqL K H p ys ∨ SqT K H p ys) ∧ ∀ l, H l = none → Q (.ref l) (upd H l (.lst ys))
def rTupK (K : PySem.W.Frag) : List V → Hp → VK → Prop := fun xs H Q => ∃ p ys, xs = [.ref p] ∧ ((SqL K H p ys ∧ ∀ l, H l = none → Q (.ref l) (upd H l (.tup ys))) ∨ (SqT K H p ys ∧ Q (.ref p) H))
def rJoinK (K : PySem.W.Frag) : V → List V → Hp → VK → Prop := fun x xs H Q => ∃ a p, ∃ ys : List Str, x = .str a ∧ xs = [.ref p] ∧ (SqL K H p (ys.map V.str) ∨ SqT K H p (ys.map V.str)) ∧ (ys.map (·.length)).sum + ys.length * a.length ≤ 16777216 ∧ Q (.str (Txt.join a ys)) H
def rSIndex : V → List V → Hp → VK → Prop := fun x xs H Q => ∃ a b i rest, x = .str a ∧ xs = [.str b] ∧ Builtin.Str.occurrences a b 0 a.length 1 = i :: rest ∧ Q (.int (i : Nat)) H
theorem ix_listK (hK : X.K = K) : IxR X (rIxL K) := hK ▸ ix_list
theorem ix_tupK (hK : X.K = K) : IxR X (rIxT K) := hK ▸ ix_tup
theorem ix_seqK (hK : X.K = K) : IxR X (rIx K) := hK ▸ ix_seq
theorem sl_listK (hK : X.K = K) : SlR X (rSlL K) := hK ▸ sl_list
theorem sl_tupAK (hK : X.K = K) : SlR X (rSlA K) := hK ▸ sl_tupA
theorem call_lenK (hK : X.K = K) : CallR X (.builtin "len") (rLenK K) := hK ▸ call_len
theorem cr_sumK (hK : X.K = K) (hc : X.calm = true) : CallR X (.builtin "sum") (rSum K) := hK ▸ cr_sum hc
theorem cr_allK (hK : X.K = K) (hc : X.calm = true) : CallR X (.builtin "all") (rAll K) := hK ▸ cr_all hc
theorem cr_anyK (hK : X.K = K) (hc : X.calm = true) : CallR X (.builtin "any") (rAny K) := hK ▸ cr_any hc
theorem cr_maxK (hK : X.K = K) (hc : X.calm = true) : CallR X (.builtin "max") (rMax K) := hK ▸ cr_max hc
theorem cr_minK' (hK : X.K = K) (hc : X.calm = true) : CallR X (.builtin "min") (rMin K) := hK ▸ cr_min hc
theorem call_list_ofK (hK : X.K = K) : CallR X (.type "list") (rListK K) := hK ▸ call_list_of
theorem call_tuple_ofK (hK : X.K = K) : CallR X (.type "tuple") (rTupK K) := hK ▸ call_tuple_of
theorem call_isiK (hK : X.K = K) : CallR X (.builtin "isinstance") (rIsi K) := hK ▸ call_isi
theorem mt_joinK (hK : X.K = K) : MtR X "str.join" (rJoinK K) := hK ▸ mt_join
theorem mt_indexK (hK : X.K = K) : MtR X "list.index" (rIndex K) := hK ▸ mt_index
theorem mt_indexDK (hK : X.K = K) (hu : X.A.units + 65 < cLine) : MtR X "list.index" (rIndexD K) := hK ▸ mt_indexD hu
theorem mt_sindexK : MtR X "str.index" rSIndex := mt_sindex
theorem op_inK (hK : X.K = K) : OpR X (compareOp .In) (rIn K false) := hK ▸ op_in_seq
theorem op_notInK (hK : X.K = K) : OpR X (compareOp .NotIn) (rIn K true) := hK ▸ op_notIn_seq
theorem op_inDK (hK : X.K = K) (hu : X.A.units + 65 < cLine) : OpR X (compareOp .In) (rInD K) := hK ▸ op_inD hu
theorem op_notInDK (hK : X.K = K) (hu : X.A.units + 65 < cLine) : OpR X (compareOp .NotIn) (rNotInD K) := hK ▸ op_notInD hu
theorem op_eqDK (hK : X.K = K) (hu : X.A.units + 64 < cLine) : OpR X (compareOp .Eq) (rEqD K) := hK ▸ op_eqD hu
theorem op_neDK (hK : X.K = K) (hu : X.A.units + 64 < cLine) : OpR X (compareOp .NotEq) (rNeD K) := hK ▸ op_neD hu
theorem op_catAK (hK : X.K = K) : OpR X (binaryOp .Add) (rCatA K) := hK ▸ op_catA
theorem pe_bmK {T : String} {r : V → List V → Hp → VK → Prop} {e : Expr} {to : TE} {t : TA} (hK : X.K = K) (h : PE X e (tBM X.K T r to t)) : PE X e (tBM K T r to t) := hK ▸ h
theorem pe_bm0K {T : String} {r : V → List V → Hp → VK → Prop} {e : Expr} {to : TE} (hK : X.K = K) (h : PE X e (tBM0 X.K T r to)) : PE X e (tBM0 K T r to) := hK ▸ h
theorem pi_listK {tg l : Expr} {tl : TE} (hK : X.K = K) (hl : PE X l tl) : PI X tg l (iList K tl) := hK ▸ pi_list hl
theorem pi_tupK {tg l : Expr} {tl : TE} (hK : X.K = K) (hl : PE X l tl) : PI X tg l (iTup K tl) := hK ▸ pi_tup hl
theorem pi_enumK {e : Expr} {ta : TA} {p pos tpos : Pos} {elts : List Expr} {kk : Nat} (hK : X.K = K) (hg : Gl X "enumerate") (hm : X.mg "enumerate" = none) (ha : PA X [e] ta) (hs : starEach [e] X.env = [(false, eval e X.env)] := by rfl) :
    PI X (.Tuple elts kk tpos) (.Call (.Name "enumerate" p) [e] [] pos) (iEnum K ta) := hK ▸ pi_enum hg hm ha hs
theorem pg_tupK {es : List Expr} {k : Nat} {t : TGs} {n : Nat} {pos : Pos} (hK : X.K = K) (hc : X.calm = true) (h : PGs X es t)
    (hn : (assignEach es X.env).length = n := by rfl) (hst : (assignEach es X.env).findIdx? (·.1) = none := by rfl) : PG X (.Tuple es k pos) (gTup K n t) := hK ▸ pg_tup hc h hn hst
theorem pg_lstK {es : List Expr} {k : Nat} {t : TGs} {n : Nat} {pos : Pos} (hK : X.K = K) (hc : X.calm = true) (h : PGs X es t)
    (hn : (assignEach es X.env).length = n := by rfl) (hst : (assignEach es X.env).findIdx? (·.1) = none := by rfl) : PG X (.Tuple es k pos) (gLst K n t) := by
  subst hK
  exact pg_lst hc h hn hst
/-! named readings -/
def rDivmod : List V → Hp → VK → Prop := fun xs H Q => ∃ i j, xs = [.int i, .int j] ∧ CDivP i j ∧ ∀ p, H p = none → Q (.ref p) (upd H p (.tup [.int (i / j), .int (i % j)]))
theorem call_divmodN : CallR X (.builtin "divmod") rDivmod := call_divmodW
def rInt1 : List V → Hp → VK → Prop := fun xs H Q => (∃ i, xs = [.int i] ∧ Q (.int i) H) ∨ ∃ k, xs = [.bl k] ∧ Q (.int (if k then 1 else 0)) H
theorem call_int1N : CallR X (.type "int") rInt1 := call_int1
def rAbs : List V → Hp → VK → Prop := fun xs H Q => ∃ i, xs = [.int i] ∧ Q (.int (if i < 0 then -i else i)) H
theorem call_absN : CallR X (.builtin "abs") rAbs := call_abs
def rMax2 : List V → Hp → VK → Prop := fun xs H Q => ∃ i j, xs = [.int i, .int j] ∧ Q (.int (if j > i then j else i)) H
theorem call_max2N (hc : X.calm = true) : CallR X (.builtin "max") rMax2 := call_max2 hc
def rMin2 : List V → Hp → VK → Prop := fun xs H Q => ∃ i j, xs = [.int i, .int j] ∧ Q (.int (if j < i then j else i)) H
theorem call_min2N (hc : X.calm = true) : CallR X (.builtin "min") rMin2 := call_min2 hc
def rStrI : List V → Hp → VK → Prop := fun xs H Q => ∃ i, xs = [.int i] ∧ i.natAbs.log2 < 1920 ∧ Q (.str (toString i)) H
theorem call_str_intN : CallR X (.type "str") rStrI := call_str_int
def rLenS : List V → Hp → VK → Prop := fun xs H Q => ∃ z, xs = [.str z] ∧ z.length ≤ sizeLine ∧ Q (.int z.length) H
theorem call_len_strN : CallR X (.builtin "len") rLenS := call_len_str
def rIntS : List V → Hp → VK → Prop := fun xs H Q => ∃ (a : Str) (n : Int), xs = [.str a] ∧ PySem.intText? a = some n ∧ a.length ≤ 640 ∧ Q (.int n) H
theorem call_int_strN : CallR X (.type "int") rIntS := call_int_str
def rIsN : R2 := fun x y H Q => y = .non ∧ Q (.bl (decide (x = .non))) H
theorem op_isNN : OpR X (compareOp .Is) rIsN := op_isN
def rNotN : R2 := fun x y H Q => y = .non ∧ Q (.bl (!decide (x = .non))) H
theorem op_notNN : OpR X (compareOp .IsNot) rNotN := op_notN
def rAddS : R2 := fun x y H Q => ∃ i j, x = .str i ∧ y = .str j ∧ i.length + j.length ≤ sizeLine ∧ Q (.str (i ++ j)) H
theorem op_add_strN : OpR X (binaryOp .Add) rAddS := op_add_str
def rInS : R2 := fun x y H Q => ∃ (c : Nat) (z : Str), x = .str ⟨#[c]⟩ ∧ y = .str z ∧ Q (.bl (decide (c ∈ z.cps.toList))) H
theorem op_in_signN : OpR X (compareOp .In) rInS := op_in_sign
def rNiS : R2 := fun x y H Q => ∃ (c : Nat) (z : Str), x = .str ⟨#[c]⟩ ∧ y = .str z ∧ Q (.bl (!decide (c ∈ z.cps.toList))) H
theorem op_notIn_signN : OpR X (compareOp .NotIn) rNiS := op_notIn_sign
def rZfill : V → List V → Hp → VK → Prop := fun x xs H Q => ∃ (a : Str) (i : Int), x = .str a ∧ xs = [.int i] ∧ PadOk i = true ∧ Q (.str (Txt.zfill a i)) H
theorem mt_zfillN : MtR X "str.zfill" rZfill := mt_zfill
def rCountS : V → List V → Hp → VK → Prop := fun x xs H Q => ∃ a b, x = .str a ∧ xs = [.str b] ∧ Q (.int (Txt.count a b)) H
theorem mt_countN : MtR X "str.count" rCountS := mt_count
end
end Xr

set_option Elab.async false
set_option linter.all false
set_option maxRecDepth 100000
set_option maxHeartbeats 2000000
/-! Vc: readings taken apart step by step; frames (all that is tracked stays, but one list); comprehensions. -/
namespace Vc
open PySem PySem.Spec PyProof.Rows L2 Xr

/-! ### frames -/
/-- all that was tracked stays as it was, but what stands at M -/
def Fr (M : Option Addr) (H H' : Hp) : Prop := ∀ a o, M ≠ some a → H a = some o → H' a = some o
theorem Fr.refl (M : Option Addr) (H : Hp) : Fr M H H := fun _ _ _ h => h
theorem Fr.trans {M : Option Addr} {H H1 H2 : Hp} (a : Fr M H H1) (b : Fr M H1 H2) : Fr M H H2 := fun c o n h => b c o n (a c o n h)
theorem Fr.of {M : Option Addr} {H H' : Hp} (s : Fr none H H') : Fr M H H' := fun a o _ h => s a o (by simp) h
theorem Fr.new {M : Option Addr} {H : Hp} {p : Addr} {o : HO} (h : H p = none) : Fr M H (upd H p o) := fun a u _ e => by
  rw [upd_ne (ne_of_none e h)]; exact e
/-- .. followed by a new object -/
theorem Fr.then_new {M : Option Addr} {H H1 : Hp} {p : Addr} {o : HO} (a : Fr M H H1) (h : H1 p = none) : Fr M H (upd H1 p o) := a.trans (Fr.new h)
/-- what H does not know may change -/
theorem Fr.mut {M : Option Addr} {H H1 : Hp} {p : Addr} {o : HO} (a : Fr M H H1) (h : H p = none) : Fr M H (upd H1 p o) := fun b u n e => by
  rw [upd_ne (ne_of_none e h)]; exact a b u n e
/-- what stands at M may change -/
theorem Fr.at {H H1 : Hp} {p : Addr} {o : HO} (a : Fr (some p) H H1) : Fr (some p) H (upd H1 p o) := fun b u n e => by
  rw [upd_ne (fun z => n (by rw [z]))]; exact a b u n e
theorem Fr.same {H H' : Hp} (s : Fr none H H') : Same H H' := fun a o h => s a o (by simp) h
theorem Fr.ofSame {M : Option Addr} {H H' : Hp} (s : Same H H') : Fr M H H' := fun a o _ h => s a o h
theorem Fr.get {M : Option Addr} {H H' : Hp} {a : Addr} {o : HO} (s : Fr M H H') (h : H a = some o) (n : M ≠ some a) : H' a = some o := s a o n h
theorem Fr.back {H H' : Hp} {p : Addr} (s : Fr none H H') (h : H' p = none) : H p = none := s.same.free h
theorem Fr.rd {M : Option Addr} {H H' : Hp} {a : Addr} {u : HO} (s : Fr M H H') (n : M ≠ some a) (h : Rd H a u) : Rd H' a u := by
  rcases h with h | ⟨o, h⟩
  · exact .inl (s _ _ n h)
  · exact .inr ⟨o, s _ _ n h⟩
theorem Fr.sql {M : Option Addr} {K : PySem.W.Frag} {H H' : Hp} {a : Addr} {xs : List V} (s : Fr M H H') (n : M ≠ some a) (h : SqL K H a xs) : SqL K H' a xs := by
  rcases h with h | h
  · exact .inl (s.rd n h)
  · exact .inr h
theorem Fr.sqt {M : Option Addr} {K : PySem.W.Frag} {H H' : Hp} {a : Addr} {xs : List V} (s : Fr M H H') (n : M ≠ some a) (h : SqT K H a xs) : SqT K H' a xs := by
  rcases h with h | h
  · exact .inl (s.rd n h)
  · exact .inr h

/-! ### the list from which draws come -/
def BagL (x y z : Int) : HO := .lst [.int x, .int y, .int z]
def Bag (H : Hp) (b : Addr) : Prop := ∃ x y z : Int, 0 ≤ x ∧ x < 2 ^ 200 ∧ 0 ≤ y ∧ y < 2147483423 ∧ 0 ≤ z ∧ H b = some (BagL x y z)
def Bg (M : Option Addr) (H : Hp) : Prop := ∀ b, M = some b → Bag H b
theorem Bg.none {H : Hp} : Bg .none H := fun _ e => nomatch e
theorem Bg.some {H : Hp} {b : Addr} (h : Bag H b) : Bg (.some b) H := fun _ e => (Option.some.inj e) ▸ h
theorem Bg.get {H : Hp} {b : Addr} (h : Bg (.some b) H) : Bag H b := h b rfl
theorem Bag.upd {H : Hp} {b p : Addr} {o : HO} (h : Bag H b) (n : b ≠ p) : Bag (L2.upd H p o) b := by
  obtain ⟨x, y, z, h1, h2, h3, h4, h5, h6⟩ := h
  exact ⟨x, y, z, h1, h2, h3, h4, h5, by rw [upd_ne n]; exact h6⟩
theorem Bag.new {H : Hp} {b p : Addr} {o : HO} (h : Bag H b) (n : H p = Option.none) : Bag (L2.upd H p o) b := h.upd (by
  obtain ⟨x, y, z, _, _, _, _, _, h6⟩ := h
  exact ne_of_none h6 n)
theorem Bg.new {M : Option Addr} {H : Hp} {p : Addr} {o : HO} (h : Bg M H) (n : H p = Option.none) : Bg M (L2.upd H p o) := fun b e => (h b e).new n
theorem Bg.upd {M : Option Addr} {H : Hp} {p : Addr} {o : HO} (h : Bg M H) (n : M ≠ Option.some p) : Bg M (L2.upd H p o) := fun b e => (h b e).upd (fun z => n (by rw [e, z]))
theorem Bag.ne {H : Hp} {b p : Addr} (h : Bag H b) (n : H p = Option.none) : b ≠ p := by
  obtain ⟨x, y, z, _, _, _, _, _, h6⟩ := h
  exact ne_of_none h6 n
theorem Bag.lst {K : PySem.W.Frag} {H : Hp} {b : Addr} (h : Bag H b) : ∃ xs, SqL K H b xs := by
  obtain ⟨x, y, z, _, _, _, _, _, h6⟩ := h
  exact ⟨_, SqL.of h6⟩
theorem Bag.free {H H' : Hp} {b : Addr} (h : Bag H b) (s : Fr .none H H') : Bag H' b := by
  obtain ⟨x, y, z, h1, h2, h3, h4, h5, h6⟩ := h
  exact ⟨x, y, z, h1, h2, h3, h4, h5, s b _ (by simp) h6⟩

/-! ### steps -/
section
variable {K : PySem.W.Frag} {σ : L2.St} {H : Hp} {Q : VK} {D : Ends} {ta tb te : TE} {t u : TS} {c c' : TT} {tr : TA} {v : V} {r : R2} {g : TG}
theorem w_seq (h : t { D with nx := u D } σ H) : tSeq t u D σ H := h
theorem w_next (h : D.nx σ H) : tNext D σ H := h
theorem w_asg {i : Nat} (h : te σ H fun x H1 => D.nx (σ.set i (some x)) H1) : tAsg te (gName i) D σ H := h
theorem w_asgG (h : te σ H fun x H1 => g x σ H1 D.nx) : tAsg te g D σ H := h
theorem w_par {i j : Nat} {a b : V} {H1 : Hp} (h : D.nx ((σ.set i (some a)).set j (some b)) H1) : ∃ v w, [a, b] = [v, w] ∧ D.nx ((σ.set i (some v)).set j (some w)) H1 := ⟨a, b, rfl, h⟩
theorem w_parS {i j : Nat} (h : tr σ H fun vs H1 => ∃ v w, vs = [v, w] ∧ D.nx ((σ.set i (some v)).set j (some w)) H1) : tPar i j tr D σ H := h
theorem w_par3 {i j l : Nat} {a b d : V} {H1 : Hp} (h : D.nx (((σ.set i (some a)).set j (some b)).set l (some d)) H1) : ∃ u v w, [a, b, d] = [u, v, w] ∧ D.nx (((σ.set i (some u)).set j (some v)).set l (some w)) H1 := ⟨a, b, d, rfl, h⟩
theorem w_par3S {i j l : Nat} (h : tr σ H fun vs H1 => ∃ u v w, vs = [u, v, w] ∧ D.nx (((σ.set i (some u)).set j (some v)).set l (some w)) H1) : tPar3 i j l tr D σ H := h
theorem w_ret (h : te σ H D.rt) : tRet te D σ H := h
theorem w_retN (h : D.rt .non H) : tRetN D σ H := h
theorem w_drop (h : te σ H fun _ H1 => D.nx σ H1) : tDrop te D σ H := h
theorem w_ifS (h : c σ H fun b H1 => if b = true then t D σ H1 else u D σ H1) : tIfS c t u D σ H := h
theorem w_var {i : Nat} (h : σ[i]? = some (some v)) (k : Q v H) : tVar i σ H Q := ⟨v, h, k⟩
theorem w_c (k : Q v H) : tC v σ H Q := k
theorem w_op (h : ta σ H fun x H1 => tb σ H1 fun y H2 => r x y H2 Q) : tOp r ta tb σ H Q := h
theorem w_un {r : V → Hp → VK → Prop} (h : ta σ H fun x H1 => r x H1 Q) : tUn r ta σ H Q := h
theorem w_I0 {f : Int → Int → V} {i j : Int} (k : Q (f i j) H) : rI0 f (.int i) (.int j) H Q := ⟨i, j, rfl, rfl, k⟩
theorem w_I {C : Int → Int → Prop} {f : Int → Int → V} {i j : Int} (hc : C i j) (k : Q (f i j) H) : rI C f (.int i) (.int j) H Q := ⟨i, j, rfl, rfl, hc, k⟩
theorem w_U {f : Int → V} {i : Int} (k : Q (f i) H) : rU f (.int i) H Q := ⟨i, rfl, k⟩
theorem w_eq {x y : V} (h : scal x y = true) (k : Q (.bl (decide (x = y))) H) : rEq x y H Q := ⟨h, k⟩
theorem w_ne {x y : V} (h : scal x y = true) (k : Q (.bl (!decide (x = y))) H) : rNe x y H Q := ⟨h, k⟩
theorem w_isN {x : V} (k : Q (.bl (decide (x = .non))) H) : rIsN x .non H Q := ⟨rfl, k⟩
theorem w_notN {x : V} (k : Q (.bl (!decide (x = .non))) H) : rNotN x .non H Q := ⟨rfl, k⟩
theorem w_chain {r' : R2} {tc : TE} (h : ta σ H fun x H1 => tb σ H1 fun y H2 => r x y H2 fun z H3 => ∃ k, z = .bl k ∧ if k = true then tc σ H3 fun u H4 => r' y u H4 Q else Q (.bl false) H3) : tChain r r' ta tb tc σ H Q := h
theorem w_addS {a b : Str} (hz : a.length + b.length ≤ sizeLine) (k : Q (.str (a ++ b)) H) : rAddS (.str a) (.str b) H Q := ⟨a, b, rfl, rfl, hz, k⟩
theorem w_inS {c : Nat} {z : Str} (k : Q (.bl (decide (c ∈ z.cps.toList))) H) : rInS (.str ⟨#[c]⟩) (.str z) H Q := ⟨c, z, rfl, rfl, k⟩
theorem w_niS {c : Nat} {z : Str} (k : Q (.bl (!decide (c ∈ z.cps.toList))) H) : rNiS (.str ⟨#[c]⟩) (.str z) H Q := ⟨c, z, rfl, rfl, k⟩
theorem w_cb {r : List V → Hp → VK → Prop} (h : tr σ H fun vs H1 => r vs H1 Q) : tCB r tr σ H Q := h
theorem w_nil {Q : List V → Hp → Prop} (h : Q [] H) : tNil σ H Q := h
theorem w_cons {Q : List V → Hp → Prop} (h : ta σ H fun x H1 => tr σ H1 fun xs H2 => Q (x :: xs) H2) : tCons ta tr σ H Q := h
theorem w_call {sp : Sp} {dvs : List V} {E : XK} (h : tr σ H fun vs H1 => sp (vs ++ dvs) H1 Q E) : tCall sp dvs E tr σ H Q := h
theorem w_callW {n m : Nat} {sp : Sp} {gV : List V → List V → List V} {E : XK} {tk : TA} (h : tr σ H fun vs H1 => tk σ H1 fun zs H2 => vs.length = n ∧ zs.length = m ∧ sp (gV vs zs) H2 Q E) : tCallW n m sp gV E tr tk σ H Q := h
theorem w_int {i : Int} (k : Q (.int i) H) : rInt1 [.int i] H Q := .inl ⟨i, rfl, k⟩
theorem w_abs {i : Int} (k : Q (.int (if i < 0 then -i else i)) H) : rAbs [.int i] H Q := ⟨i, rfl, k⟩
theorem w_max2 {i j : Int} (k : Q (.int (if j > i then j else i)) H) : rMax2 [.int i, .int j] H Q := ⟨i, j, rfl, k⟩
theorem w_min2 {i j : Int} (k : Q (.int (if j < i then j else i)) H) : rMin2 [.int i, .int j] H Q := ⟨i, j, rfl, k⟩
theorem w_strI {i : Int} (h : i.natAbs.log2 < 1920) (k : Q (.str (toString i)) H) : rStrI [.int i] H Q := ⟨i, rfl, h, k⟩
theorem w_lenS {z : Str} (h : z.length ≤ sizeLine) (k : Q (.int z.length) H) : rLenS [.str z] H Q := ⟨z, rfl, h, k⟩
theorem w_intS {a : Str} {n : Int} (h : PySem.intText? a = some n) (hz : a.length ≤ 640) (k : Q (.int n) H) : rIntS [.str a] H Q := ⟨a, n, rfl, h, hz, k⟩
theorem w_zfill {a : Str} {i : Int} (h : PadOk i = true) (k : Q (.str (Txt.zfill a i)) H) : rZfill (.str a) [.int i] H Q := ⟨a, i, rfl, rfl, h, k⟩
theorem w_lenL {p : Addr} {xs : List V} (h : SqL K H p xs) (k : Q (.int xs.length) H) : rLenK K [.ref p] H Q := ⟨_, _, rfl, .inl ⟨xs, h, rfl⟩, k⟩
theorem w_lenT {p : Addr} {xs : List V} (h : SqT K H p xs) (k : Q (.int xs.length) H) : rLenK K [.ref p] H Q := ⟨_, _, rfl, .inr ⟨xs, h, rfl⟩, k⟩
theorem w_lenZ {z : Str} (h : z.length ≤ sizeLine) (k : Q (.int z.length) H) : rLenK K [.str z] H Q := ⟨_, _, rfl, ⟨h, rfl⟩, k⟩
theorem w_test (h : te σ H fun x H1 => ∃ k, x = .bl k ∧ Q' k H1) : tTest te σ H Q' := h
theorem w_tB (h : te σ H fun x H1 => ∃ k, x = .bl k ∧ Q' k H1) : tB te σ H Q' := h
theorem w_bl {b : Bool} {Q : Bool → Hp → Prop} (k : Q b H) : ∃ c, V.bl b = .bl c ∧ Q c H := ⟨b, rfl, k⟩
theorem w_blE {b : Bool} {R : Bool → Prop} (k : R b) : ∃ c, V.bl b = .bl c ∧ R c := ⟨b, rfl, k⟩
theorem w_and {t u : TT} {Q : Bool → Hp → Prop} (h : t σ H fun c H1 => if c = true then u σ H1 Q else Q false H1) : tAnd t u σ H Q := h
theorem w_or {t u : TT} {Q : Bool → Hp → Prop} (h : t σ H fun c H1 => if c = true then Q true H1 else u σ H1 Q) : tOr t u σ H Q := h
theorem w_not {t : TT} {Q : Bool → Hp → Prop} (h : t σ H fun c H1 => Q (!c) H1) : tNot t σ H Q := h
theorem w_andV (h : ta σ H fun x H1 => ∃ c, x = .bl c ∧ if c = true then tb σ H1 Q else Q (.bl false) H1) : tAndV ta tb σ H Q := h
theorem w_orV (h : ta σ H fun x H1 => ∃ c, x = .bl c ∧ if c = true then Q (.bl true) H1 else tb σ H1 Q) : tOrV ta tb σ H Q := h
theorem w_notV (h : ta σ H fun x H1 => ∃ c, x = .bl c ∧ Q (.bl (!c)) H1) : tNotV ta σ H Q := h
theorem w_ifE {t : TT} (h : t σ H fun c H1 => if c = true then ta σ H1 Q else tb σ H1 Q) : tIf t ta tb σ H Q := h
theorem w_yes {Q : Bool → Hp → Prop} (h : Q true H) : tYes σ H Q := h
theorem w_tup (h : tr σ H fun xs H1 => xs.length ≤ sizeLine ∧ ∀ p, H1 p = none → Q (.ref p) (upd H1 p (.tup xs))) : tTup tr σ H Q := h
theorem w_lst (h : tr σ H fun xs H1 => xs.length ≤ sizeLine ∧ ∀ p, H1 p = none → Q (.ref p) (upd H1 p (.lst xs))) : tLst tr σ H Q := h
theorem w_bm {T : String} {r : V → List V → Hp → VK → Prop} (h : te σ H fun x H1 => tyV K T x H1 ∧ tr σ H1 fun xs H2 => r x xs H2 Q) : tBM K T r te tr σ H Q := h
theorem w_bm0 {T : String} {r : V → List V → Hp → VK → Prop} (h : te σ H fun x H1 => tyV K T x H1 ∧ r x [] H1 Q) : tBM0 K T r te σ H Q := h
theorem w_sl {r : V → Option Int → Option Int → Hp → VK → Prop} {tl th : TO} (h : te σ H fun x H1 => tl σ H1 fun l H2 => th σ H2 fun u H3 => r x l u H3 Q) : tSl r te tl th σ H Q := h
theorem w_noPart {Q : Option Int → Hp → Prop} (h : Q none H) : tNoPart σ H Q := h
theorem w_part {Q : Option Int → Hp → Prop} (h : te σ H fun x H1 => ∃ i, x = .int i ∧ Q (some i) H1) : tPart te σ H Q := h
theorem w_partI {i : Int} {A : Int → Prop} (h : A i) : ∃ j, V.int i = .int j ∧ A j := ⟨i, rfl, h⟩
theorem w_slS {z : Str} {lo hi : Option Int} (h : z.length ≤ sizeLine) (k : Q (.str (cutS z lo hi)) H) : rSlS (.str z) lo hi H Q := ⟨z, rfl, h, k⟩
theorem w_slL {a : Addr} {xs : List V} {lo hi : Option Int} (h : SqL K H a xs) (k : ∀ p, H p = none → Q (.ref p) (upd H p (.lst (cutV xs lo hi)))) : rSlL K (.ref a) lo hi H Q := ⟨a, xs, rfl, h, k⟩
theorem w_ixL {p : Addr} {xs : List V} {i : Int} (h : SqL K H p xs) (ha : atI xs i = some v) (k : Q v H) : rIxL K (.ref p) (.int i) H Q := ⟨p, xs, i, v, rfl, rfl, h, ha, k⟩
theorem w_ixT {p : Addr} {xs : List V} {i : Int} (h : SqT K H p xs) (ha : atI xs i = some v) (k : Q v H) : rIxT K (.ref p) (.int i) H Q := ⟨p, xs, i, v, rfl, rfl, h, ha, k⟩
theorem w_ixS {z : Str} {i : Int} {c : Nat} (h : z.length ≤ sizeLine) (ha : atI z.cps.toList i = some c) (k : Q (.str ⟨#[c]⟩) H) : rIxS (.str z) (.int i) H Q := ⟨z, i, c, rfl, rfl, h, ha, k⟩
theorem w_mulS {z : Str} {n : Int} (h : MulOk z n) (k : Q (.str (Txt.mul z n)) H) : rMulS (.str z) (.int n) H Q := ⟨z, n, rfl, rfl, h, k⟩
theorem w_join {a : Str} {p : Addr} {ys : List Str} (h : SqL K H p (ys.map V.str)) (hz : (ys.map (·.length)).sum + ys.length * a.length ≤ 16777216) (k : Q (.str (Txt.join a ys)) H) : rJoinK K (.str a) [.ref p] H Q := ⟨a, p, ys, rfl, rfl, .inl h, hz, k⟩
theorem w_all {p : Addr} {bs : List Bool} (h : SqL K H p (bs.map V.bl)) (k : Q (.bl (bs.all id)) H) : rAll K [.ref p] H Q := ⟨p, bs, rfl, h, k⟩
theorem w_sum {p : Addr} {ns : List Int} (h : SqL K H p (ns.map V.int)) (k : Q (.int ns.sum) H) : rSum K [.ref p] H Q := ⟨p, ns, rfl, h, k⟩
theorem w_setL {p : Addr} {xs : List V} {i : Int} {j : Nat} {Q : Hp → Prop} (h : H p = some (.lst xs)) (hi : ixN xs.length i = some j) (k : Q (upd H p (.lst (xs.set j v)))) : rSetL (.ref p) (.int i) v H Q := ⟨p, xs, i, j, rfl, rfl, h, hi, k⟩
theorem w_app {l : Addr} {xs : List V} (h : H l = some (.lst xs)) (hz : xs.length < sizeLine) (k : Q .non (upd H l (.lst (xs ++ [v])))) : rAppend (.ref l) [v] H Q := ⟨l, xs, v, rfl, rfl, h, hz, k⟩
theorem w_cat {l b : Addr} {xs zs : List V} (h1 : H l = some (.lst xs)) (h2 : H b = some (.lst zs)) (hz : xs.length + zs.length ≤ sizeLine) (k : ∀ p, H p = none → Q (.ref p) (upd H p (.lst (xs ++ zs)))) : rCat (.ref l) (.ref b) H Q := ⟨l, b, xs, zs, rfl, rfl, h1, h2, hz, k⟩
theorem w_tupL {p : Addr} {ys : List V} (h : SqL K H p ys) (k : ∀ l, H l = none → Q (.ref l) (upd H l (.tup ys))) : rTupK K [.ref p] H Q := ⟨p, ys, rfl, .inl ⟨h, k⟩⟩
theorem w_listL {p : Addr} {ys : List V} (h : SqL K H p ys ∨ SqT K H p ys) (k : ∀ l, H l = none → Q (.ref l) (upd H l (.lst ys))) : rListK K [.ref p] H Q := ⟨p, ys, rfl, h, k⟩
theorem w_divmod {i j : Int} (h : CDivP i j) (k : ∀ p, H p = none → Q (.ref p) (upd H p (.tup [.int (i / j), .int (i % j)]))) : rDivmod [.int i, .int j] H Q := ⟨i, j, rfl, h, k⟩
theorem w_sindex {a b : Str} {i : Nat} {rest : List Nat} (h : Builtin.Str.occurrences a b 0 a.length 1 = i :: rest) (k : Q (.int (i : Nat)) H) : rSIndex (.str a) [.str b] H Q := ⟨a, b, i, rest, rfl, rfl, h, k⟩
theorem w_revS (h : te σ H fun x H1 => ∃ z : Str, x = .str z ∧ z.length ≤ sizeLine ∧ Q (.str ⟨z.cps.toList.reverse.toArray⟩) H1) : tRevS te σ H Q := h
theorem w_gsub {to ti : TE} {t : TSet} {Q : L2.St → Hp → Prop} (h : to σ H fun o H1 => ti σ H1 fun i H2 => t o i v H2 fun H3 => Q σ H3) : gSub to ti t v σ H Q := h
theorem w_gname {i : Nat} {Q : L2.St → Hp → Prop} (h : Q (σ.set i (some v)) H) : gName i v σ H Q := h
theorem w_gcons {gs : TGs} {vs : List V} {Q : L2.St → Hp → Prop} (h : g v σ H fun σ' H' => gs vs σ' H' Q) : gCons g gs (v :: vs) σ H Q := ⟨v, vs, rfl, h⟩
theorem w_gnil {Q : L2.St → Hp → Prop} (h : Q σ H) : gNil [] σ H Q := ⟨rfl, h⟩
theorem w_gtup {gs : TGs} {n : Nat} {a : Addr} {xs : List V} {Q : L2.St → Hp → Prop} (h : SqT K H a xs) (hn : xs.length = n) (k : gs xs σ H Q) : gTup K n gs (.ref a) σ H Q := ⟨a, xs, rfl, h, hn, k⟩
theorem w_glst {gs : TGs} {n : Nat} {a : Addr} {xs : List V} {Q : L2.St → Hp → Prop} (h : SqL K H a xs) (hn : xs.length = n) (k : gs xs σ H Q) : gLst K n gs (.ref a) σ H Q := ⟨a, xs, rfl, h, hn, k⟩
theorem w_iStr {R : It → Hp → Prop} (h : te σ H fun v H1 => ∃ x, v = .str x ∧ R (Its x) H1) : iStr te σ H R := h
theorem w_strE {z : Str} {A : Str → Prop} (k : A z) : ∃ x, V.str z = .str x ∧ A x := ⟨z, rfl, k⟩
theorem w_iList {R : It → Hp → Prop} (h : te σ H fun x H1 => ∃ a, x = .ref a ∧ (∃ xs, SqL K H1 a xs) ∧ R (Itl K a) H1) : iList K te σ H R := h
theorem w_listE {a : Addr} {xs : List V} {A : Addr → Prop} (h : SqL K H a xs) (k : A a) : ∃ a', V.ref a = .ref a' ∧ (∃ xs, SqL K H a' xs) ∧ A a' := ⟨a, rfl, ⟨xs, h⟩, k⟩
theorem w_iTup {R : It → Hp → Prop} (h : te σ H fun x H1 => ∃ a, x = .ref a ∧ (∃ xs, SqT K H1 a xs) ∧ R (Itt K a) H1) : iTup K te σ H R := h
theorem w_tupE {a : Addr} {xs : List V} {A : Addr → Prop} (h : SqT K H a xs) (k : A a) : ∃ a', V.ref a = .ref a' ∧ (∃ xs, SqT K H a' xs) ∧ A a' := ⟨a, rfl, ⟨xs, h⟩, k⟩
theorem w_iRng1 {R : It → Hp → Prop} (h : tr σ H fun vs H1 => ∃ j : Int, vs = [.int j] ∧ -(2 ^ 62) ≤ j ∧ j < 2 ^ 62 ∧ R (Itr 0 j.toNat) H1) : iRng1 tr σ H R := h
theorem w_rngE {i : Int} {A : Int → Prop} (h0 : 0 ≤ i) (h : i ≤ 1000000) (k : A i) : ∃ j : Int, [V.int i] = [.int j] ∧ -(2 ^ 62) ≤ j ∧ j < 2 ^ 62 ∧ A j := ⟨i, rfl, by omega, by omega, k⟩
theorem w_iEnumS {R : It → Hp → Prop} (h : tr σ H fun vs H1 => ∃ z : Str, vs = [.str z] ∧ R (Ites z 0) H1) : iEnumS tr σ H R := h
theorem w_enumSE {z : Str} {A : Str → Prop} (k : A z) : ∃ z' : Str, [V.str z] = [.str z'] ∧ A z' := ⟨z, rfl, k⟩
theorem w_iEnumS1 {R : It → Hp → Prop} (h : tr σ H fun vs H1 => ∃ (z : Str) (k : Int), vs = [.str z, .int k] ∧ (-(2 ^ 62) ≤ k ∧ k < 2 ^ 62) ∧ R (Ites z k) H1) : iEnumS1 tr σ H R := h
theorem w_enumS1E {z : Str} {i : Int} {A : Str → Int → Prop} (h0 : 0 ≤ i) (h : i ≤ 1000000) (k : A z i) : ∃ (z' : Str) (j : Int), [V.str z, .int i] = [.str z', .int j] ∧ (-(2 ^ 62) ≤ j ∧ j < 2 ^ 62) ∧ A z' j := ⟨z, i, rfl, ⟨by omega, by omega⟩, k⟩
theorem w_iEnum {R : It → Hp → Prop} (h : tr σ H fun vs H1 => ∃ a xs, vs = [.ref a] ∧ SqL K H1 a xs ∧ R (Ite K a) H1) : iEnum K tr σ H R := h
theorem w_enumE {a : Addr} {xs : List V} {A : Addr → Prop} (h : SqL K H a xs) (k : A a) : ∃ a' xs, [V.ref a] = [.ref a'] ∧ SqL K H a' xs ∧ A a' := ⟨a, xs, rfl, h, k⟩
theorem w_len {xs : List V} {A : Prop} (h : Nat.ble xs.length sizeLine = true) (k : A) : xs.length ≤ sizeLine ∧ A := ⟨Nat.le_of_ble_eq_true h, k⟩
theorem w_rfl {α : Type} {a b : α} {A : Prop} (h : a = b) (k : A) : a = b ∧ A := ⟨h, k⟩
/-- what stands behind a for's iterable -/
abbrev ForG (J : It) (g : TG) (tb : TS) (D : Ends) (σ : L2.St) (H1 : Hp) : Prop :=
  ∃ W : Nat → Nat → L2.St → Hp → Prop, (∃ m, W 0 m σ H1) ∧ ∀ i m σ H, W i m σ H →
      (J.stop i H ∧ D.nx σ H) ∨ (J.go i H ∧ ∃ N : L2.St → Hp → Prop, (∀ σ' H', N σ' H' → ∃ m', m' < m ∧ W (i + 1) m' σ' H') ∧ ∀ x H', J.yld i H x H' → g x σ H' fun σ2 H2 => tb { D with nx := N, ct := N, bk := D.nx } σ2 H2)
theorem for_of {wi : TI} {tb : TS} (h : wi σ H fun J H1 => ForG J g tb D σ H1) : tFor wi g tb D σ H := h
theorem ty_lst {p : Addr} {xs : List V} (h : SqL K H p xs) : tyV K "list" (.ref p) H := .inl ⟨rfl, xs, h⟩
theorem ty_strA {z : Str} {A : Prop} (h : A) : tyV K "str" (.str z) H ∧ A := ⟨rfl, h⟩
theorem ty_str {z : Str} : tyV K "str" (.str z) H := rfl
theorem w_nT {A B : Prop} (h : B) : if (!true) = true then A else B := iteF h
theorem w_nF {A B : Prop} (h : A) : if (!false) = true then A else B := iteT h
/-- an if told by what its test says -/
theorem w_ite {p : Prop} [Decidable p] {A B : Prop} (h1 : p → A) (h2 : ¬ p → B) : if decide p = true then A else B := by
  by_cases h : p
  · rw [decide_eq_true h, if_pos rfl]; exact h1 h
  · rw [decide_eq_false h, if_neg Bool.false_ne_true]; exact h2 h
theorem w_itn {p : Prop} [Decidable p] {A B : Prop} (h1 : ¬ p → A) (h2 : p → B) : if (!decide p) = true then A else B := by
  by_cases h : p
  · rw [decide_eq_true h]; exact iteF (h2 h)
  · rw [decide_eq_false h]; exact iteT (h1 h)
theorem w_itb {b : Bool} {A B : Prop} (h1 : b = true → A) (h2 : b = false → B) : if b = true then A else B := by
  cases b with
  | true => exact iteT (h1 rfl)
  | false => exact iteF (h2 rfl)
end

/-! ### kinds -/
section
variable {K : PySem.W.Frag} {H : Hp} {Q : VK}
theorem tyx_tup {a : Addr} {xs : List V} (h : SqT K H a xs) : TyX K H (.ref a) (.type "tuple") := by
  rcases h with (h | ⟨o, h⟩) | ⟨o, its, n, h, c, _⟩
  · exact .base (.tup h)
  · exact .fTuple h
  · exact .kTuple h c
theorem tyx_lst {a : Addr} {xs : List V} (h : SqL K H a xs) : TyX K H (.ref a) (.type "list") := by
  rcases h with (h | ⟨o, h⟩) | ⟨o, its, n, h, c, _⟩
  · exact .base (.lst h)
  · exact .base (.frz h)
  · exact .kList h c
theorem w_isi {x : V} {T C : String} {b : Bool} (ty : TyX K H x (.type T)) (hb : kitB T C = some b) (k : Q (.bl b) H) : rIsi K [x, .ty C] H Q := ⟨x, .ty C, .type T, .type C, b, rfl, .ty C, ty, kit_ty hb, k⟩
def tyN : PyData → String
  | .none => "NoneType" | .bool _ => "bool" | .int _ => "int" | .str _ => "str" | .list _ => "list" | .tuple _ => "tuple" | .dict _ => "dict"
theorem Dp.tyx {v : V} {d : PyData} (h : Dp K H v d) : TyX K H v (.type (tyN d)) := by
  cases h with
  | non => exact .base .non
  | bl b => exact .base (.bl b)
  | int i => exact .base (.int i)
  | str x => exact .base (.str x)
  | lst h _ => exact tyx_lst h
  | tup h _ => exact tyx_tup h
end
mutual
theorem Dp.fr {K : PySem.W.Frag} {H H' : Hp} (s : Fr none H H') : ∀ {v : V} {d : PyData}, Dp K H v d → Dp K H' v d
  | _, _, .non => .non
  | _, _, .bl b => .bl b
  | _, _, .int i => .int i
  | _, _, .str x => .str x
  | _, _, .lst h a => .lst (s.sql (by simp) h) (DpAll.fr s a)
  | _, _, .tup h a => .tup (s.sqt (by simp) h) (DpAll.fr s a)
theorem DpAll.fr {K : PySem.W.Frag} {H H' : Hp} (s : Fr none H H') : ∀ {v : List V} {d : List PyData}, DpAll K H v d → DpAll K H' v d
  | _, _, .nil => .nil
  | _, _, .cons h a => .cons (Dp.fr s h) (DpAll.fr s a)
end

/-! ### comprehensions -/
section
variable {J : It} {n : Nat} {G : Hp → Prop} {Y : Nat → Hp → V → Hp → Prop}
/-- what stands behind a comprehension's iterable -/
abbrev LcG (J : It) (g : TG) (tt : TT) (te : TE) (vs : List Nat) (σ : L2.St) (Q : VK) (H1 : Hp) : Prop :=
  ∀ D, H1 D = none → ∃ W : Nat → Nat → Hp → Prop, (∃ m, W 0 m (upd H1 D (.lst []))) ∧ ∀ i m H, W i m H →
  (J.stop i H ∧ Q (.ref D) H) ∨ (J.go i H ∧ ∃ Nx : Hp → Prop, (∀ H', Nx H' → ∃ m', m' < m ∧ W (i + 1) m' H') ∧ ∀ x H', J.yld i H x H' → g x (wipe σ vs) H' fun σ2 H2 => wipe σ2 vs = wipe σ vs ∧ tt σ2 H2 fun b H3 =>
    if b = true then te σ2 H3 fun y H4 => ∃ acc, H4 D = some (.lst acc) ∧ acc.length < sizeLine ∧ Nx (upd H4 D (.lst (acc ++ [y]))) else Nx H3)
theorem lc_of {wi : TI} {g : TG} {tt : TT} {te : TE} {vs : List Nat} {σ : L2.St} {H : Hp} {Q : VK} (h : wi σ H fun J H1 => LcG J g tt te vs σ Q H1) : tLc wi g tt te vs σ H Q := h
/-- a comprehension whose items hold no objects: P of the items so far -/
theorem lc_go (w : Walk J n G Y) {M : Option Addr} {g : TG} {tt : TT} {te : TE} {vs : List Nat} {σ : L2.St} {H1 : Hp} {Q : VK} (B : Bg M H1) (hG : ∀ H, Fr M H1 H → G H) (P : Nat → List V → Prop) (hl : ∀ i acc, i ≤ n → P i acc → acc.length < 16777216) (p0 : P 0 [])
    (hs : ∀ i x H H' acc (Zt : VK) (Zf : Hp → Prop), i < n → Fr M H1 H → Bg M H → P i acc → Y i H x H' → (∀ y H4, Fr M H H4 → Bg M H4 → P (i + 1) (acc ++ [y]) → Zt y H4) → (∀ H4, Fr M H H4 → Bg M H4 → P (i + 1) acc → Zf H4) →
      g x (wipe σ vs) H' fun σ2 H2 => wipe σ2 vs = wipe σ vs ∧ tt σ2 H2 fun b H3 => if b = true then te σ2 H3 Zt else Zf H3)
    (hd : ∀ p H acc, H1 p = none → Fr M H1 H → Bg M H → H p = some (.lst acc) → P n acc → Q (.ref p) H) : LcG J g tt te vs σ Q H1 := by
  intro D hD
  have nD : M ≠ some D := fun e => (B D e).ne hD rfl
  refine lc_it w (fun i H => ∃ acc, H D = some (.lst acc) ∧ P i acc ∧ Fr M H1 H ∧ Bg M H) ⟨[], upd_same, p0, Fr.new hD, B.new hD⟩ (fun i H _ ⟨_, _, _, f, _⟩ => hG H f) ?_ (fun H ⟨acc, h1, h2, h3, h4⟩ => hd D H acc hD h3 h4 h1 h2)
  rintro i x H H' hi ⟨acc, h1, h2, h3, h4⟩ y
  refine hs i x H H' acc _ _ hi h3 h4 h2 y (fun v H4 f b4 p => ?_) fun H4 f b4 p => ?_
  · refine ⟨acc, f D _ nD h1, ?_, acc ++ [v], upd_same, p, (h3.trans f).mut hD, b4.upd nD⟩
    rw [sizeLine_eq]
    exact hl i acc (Nat.le_of_lt hi) h2
  · exact ⟨acc, f D _ nD h1, p, h3.trans f, b4⟩
end
end Vc

set_option Elab.async false
set_option linter.all false
set_option maxRecDepth 100000
set_option maxHeartbeats 2000000
/-! Tx: texts as lists of codes. -/
namespace Tx
open PySem L2 Xr Vc
def S (l : List Nat) : Str := ⟨l.toArray⟩
theorem S_list (l : List Nat) : (S l).cps.toList = l := by simp [S]
theorem S_of (z : Str) : S z.cps.toList = z := by
  cases z
  simp [S]
theorem S_len (l : List Nat) : (S l).length = l.length := by simp [S, Str.length]
theorem S_app (a b : List Nat) : S a ++ S b = S (a ++ b) := by
  show (⟨a.toArray ++ b.toArray⟩ : Str) = ⟨(a ++ b).toArray⟩
  simp
theorem S_inj {a b : List Nat} (h : S a = S b) : a = b := by
  have := congrArg (fun z : Str => z.cps.toList) h
  simpa [S] using this
theorem S_eq {a b : List Nat} : (S a = S b) ↔ a = b := ⟨S_inj, fun h => by rw [h]⟩
theorem S_ext {z : Str} {l : List Nat} (h : z.cps.toList = l) : z = S l := by rw [← h, S_of]
theorem S_one (c : Nat) : (⟨#[c]⟩ : Str) = S [c] := rfl
theorem cut_nn (l : List Nat) (i j : Nat) : cutS (S l) (some (i : Int)) (some (j : Int)) = S ((l.drop i).take (j - i)) := by
  refine S_ext ?_
  unfold cutS
  rw [S_len, HT.sIx_nat, HT.sIx_nat, S_list]
  simp only [List.toList_toArray]
  by_cases h : i ≤ l.length
  · rw [Nat.min_eq_left h]
    by_cases h2 : j ≤ l.length
    · rw [Nat.min_eq_left h2]
    · rw [show min j l.length = l.length by omega, List.take_of_length_le (by simp), List.take_of_length_le (by simp; omega)]
  · rw [show min i l.length = l.length by omega, List.drop_of_length_le (Nat.le_refl _), List.drop_of_length_le (by omega)]
    simp
theorem cut_from (l : List Nat) (i : Nat) : cutS (S l) (some (i : Int)) none = S (l.drop i) := by
  refine S_ext ?_
  unfold cutS
  rw [S_len, HT.sIx_nat, HT.sIx_none, S_list]
  simp only [List.toList_toArray]
  by_cases h : i ≤ l.length
  · rw [Nat.min_eq_left h, List.take_of_length_le (by simp)]
  · rw [show min i l.length = l.length by omega, List.drop_of_length_le (Nat.le_refl _), List.drop_of_length_le (by omega)]
    simp
theorem cut_to (l : List Nat) (j : Nat) : cutS (S l) none (some (j : Int)) = S (l.take j) := by
  refine S_ext ?_
  unfold cutS
  rw [S_len, HT.sIx_nat, HT.sIx_none, S_list]
  simp only [List.toList_toArray, List.drop_zero, Nat.sub_zero]
  by_cases h : j ≤ l.length
  · rw [Nat.min_eq_left h]
  · rw [show min j l.length = l.length by omega, List.take_of_length_le (Nat.le_refl _), List.take_of_length_le (by omega)]
theorem mul_S (l : List Nat) (n : Nat) : Txt.mul (S l) (n : Int) = S (List.replicate n l).flatten := S_ext (by rw [mul_list, S_list])
theorem glue (ls : List (List Nat)) : ∀ a : Array Nat, ((ls.map S).foldl (fun acc p => acc ++ (S []).cps ++ p.cps) a).toList = a.toList ++ ls.flatten := by
  induction ls with
  | nil => intro a; simp
  | cons x r ih =>
    intro a
    rw [List.map_cons, List.foldl_cons, ih]
    simp [S]
theorem join_S (ls : List (List Nat)) : Txt.join (S []) (ls.map S) = S ls.flatten := by
  refine S_ext ?_
  unfold Txt.join Builtin.Str.glued
  cases ls with
  | nil => rfl
  | cons x r =>
    show ((((x :: r).map S).drop 1).foldl (fun acc p => acc ++ (S []).cps ++ p.cps) (((x :: r).map S).headD Str.empty).cps).toList = _
    rw [List.map_cons, List.drop_one, List.tail_cons, List.headD_cons, glue, S_list]
    simp
theorem cons_len {α : Type} {l : List α} {n : Nat} (h : l.length = n + 1) : ∃ a r, l = a :: r ∧ r.length = n := by
  cases l with
  | nil => simp at h
  | cons a r => exact ⟨a, r, rfl, by simpa using h⟩
/-- three, four digits -/
def d3 (n : Nat) : List Nat := [48 + n / 100 % 10, 48 + n / 10 % 10, 48 + n % 10]
def d4 (n : Nat) : List Nat := [48 + n / 1000 % 10, 48 + n / 100 % 10, 48 + n / 10 % 10, 48 + n % 10]
def numL (n : Nat) : List Nat := (Nat.toDigits 10 n).map Char.toNat
theorem str_num (n : Nat) : (Str.ofString (toString ((n : Nat) : Int))) = S (numL n) := S_ext (PySem.W.KIN.signs_num n)
theorem zf4 : ∀ n, n < 1000 → (Txt.zfill (S (numL n)) 4).cps.toList = d4 n := by decide +kernel
theorem zf3 : ∀ n, n < 1000 → (Txt.zfill (S (numL n)) 3).cps.toList = d3 n := by decide +kernel
theorem cut4 : ∀ n, n < 1002 → (numL (10000 + n)).drop 1 = d4 n := by decide +kernel
theorem cut3 : ∀ n, n < 1000 → (numL (1000 + n)).drop 1 = d3 n := by decide +kernel
theorem log_small {i : Int} (h0 : 0 ≤ i) (h : i < 2 ^ 64) : i.natAbs.log2 < 1920 := by
  by_cases h0 : i.natAbs = 0
  · rw [h0]; decide
  · have := (Nat.log2_lt (n := i.natAbs) (k := 1920) h0).mpr (Nat.lt_of_lt_of_le (show i.natAbs < 2 ^ 64 by omega) (Nat.pow_le_pow_right (by decide) (by decide)))
    exact this
end Tx

set_option Elab.async false
set_option linter.all false
set_option maxRecDepth 100000
set_option maxHeartbeats 2000000
/-! M28: frames, by lengths and checks, over lists of codes. -/
namespace M28
open PySem L2 Xr Vc Tx
def sg : List Nat := 32 :: 46 :: ((List.range 10).map (48 + ·) ++ (List.range 26).map (97 + ·))
def dg : List Nat := (List.range 10).map (48 + ·)
theorem sg_str : (Str.ofString " .0123456789abcdefghijklmnopqrstuvwxyz") = S sg := by decide +kernel
theorem dg_str : (Str.ofString "0123456789") = S dg := by decide +kernel
def ix (c : Nat) : Nat := sg.idxOf c
theorem occ_ix : ∀ c ∈ sg, (Builtin.Str.occurrences (S sg) ⟨#[c]⟩ 0 (S sg).length 1).head? = some (ix c) := by decide +kernel
theorem ix_lt : ∀ c ∈ sg, ix c < 38 := by decide +kernel
theorem ix_at : ∀ c ∈ sg, sg[ix c]? = some c := by decide +kernel
theorem at_ix : ∀ i, i < 38 → (sg[i]?).map ix = some i := by decide +kernel
theorem dg_sg : ∀ c ∈ dg, c ∈ sg := by decide +kernel
theorem mem_dg {c : Nat} : c ∈ dg ↔ 48 ≤ c ∧ c ≤ 57 := by
  unfold dg
  simp only [List.mem_map, List.mem_range]
  exact ⟨fun ⟨a, h, e⟩ => by omega, fun h => ⟨c - 48, by omega, by omega⟩⟩
theorem sg_len : sg.length = 38 := by decide
theorem ix_inj {a b : Nat} (ha : a ∈ sg) (hb : b ∈ sg) (h : ix a = ix b) : a = b := by
  have h1 := ix_at a ha
  rw [h, ix_at b hb] at h1
  exact (Option.some.inj h1).symm
/-! ### the check -/
def csum : Nat → List Nat → Nat
  | _, [] => 0
  | k, c :: r => (k + 1) * (ix c + 1) + csum (k + 1) r
def chk (l : List Nat) : Nat := csum 0 l % 997
theorem chk_lt (l : List Nat) : chk l < 997 := Nat.mod_lt _ (by decide)
def wt (l : List Nat) (i : Nat) : Int := (((i + 1) * (ix (l.getD i 0) + 1) : Nat) : Int)
def wts (l : List Nat) : List Int := (List.range l.length).map (wt l)
theorem csum_app (a b : List Nat) : ∀ k, csum k (a ++ b) = csum k a + csum (k + a.length) b := by
  induction a with
  | nil => intro k; simp [csum]
  | cons c r ih =>
    intro k
    show (k + 1) * (ix c + 1) + csum (k + 1) (r ++ b) = (k + 1) * (ix c + 1) + csum (k + 1) r + csum (k + (r.length + 1)) b
    rw [ih, show k + 1 + r.length = k + (r.length + 1) by omega, Nat.add_assoc]
theorem wts_sum (l : List Nat) : (wts l).sum = (csum 0 l : Int) := by
  have h : ∀ n, n ≤ l.length → ((List.range n).map (wt l)).sum = (csum 0 (l.take n) : Int) := by
    intro n
    induction n with
    | zero => intro _; simp [csum]
    | succ n ih =>
      intro hn
      have e : l.take (n + 1) = l.take n ++ [l.getD n 0] := by
        rw [List.take_add_one]
        have : l[n]? = some (l.getD n 0) := by
          rw [List.getD_eq_getElem?_getD, List.getElem?_eq_getElem (by omega)]
          rfl
        rw [this]
        rfl
      rw [List.range_succ, List.map_append, List.sum_append, ih (by omega), e, csum_app]
      have : (l.take n).length = n := by rw [List.length_take]; omega
      rw [this]
      simp [wt, csum]
  have := h l.length (Nat.le_refl _)
  rwa [List.take_of_length_le (Nat.le_refl _)] at this
theorem wts_at {l : List Nat} {i : Nat} (h : i < l.length) : (wts l)[i]? = some (wt l i) := by
  unfold wts
  rw [List.getElem?_map, List.getElem?_range h]
  rfl
theorem wts_len (l : List Nat) : (wts l).length = l.length := by simp [wts]
/-- a sign otherwise: the check is another one, but where the place goes up in 997 -/
theorem chk_set {l m : List Nat} {a b : Nat} : (csum 0 (l ++ a :: m) : Int) - csum 0 (l ++ b :: m) = (l.length + 1) * ((ix a : Int) - ix b) := by
  rw [csum_app, csum_app]
  simp only [csum, Nat.zero_add]
  push_cast
  rw [Int.mul_sub, Int.mul_add, Int.mul_add]
  omega
theorem no_div {k d : Int} (hd : 0 < d.natAbs ∧ d.natAbs < 997) (h : (997 : Int) ∣ k * d) : (997 : Int) ∣ k := by
  have hc : Nat.Coprime 997 d.natAbs := by
    have hall : ∀ n, n < 997 → 0 < n → Nat.gcd 997 n = 1 := by decide +kernel
    exact hall _ hd.2 hd.1
  have h2 : 997 ∣ k.natAbs * d.natAbs := by
    have := Int.natAbs_dvd_natAbs.mpr h
    rwa [Int.natAbs_mul] at this
  have h3 : 997 ∣ k.natAbs := hc.dvd_of_dvd_mul_right h2
  exact Int.natAbs_dvd_natAbs.mp h3
theorem chk_eq_iff {x y : Nat} : x % 997 = y % 997 ↔ (997 : Int) ∣ (x : Int) - y := by
  constructor
  · intro h; omega
  · intro h; omega
theorem chk_one {l m : List Nat} {a b : Nat} (ha : a ∈ sg) (hb : b ∈ sg) (ne : a ≠ b) : chk (l ++ a :: m) = chk (l ++ b :: m) ↔ (l.length + 1) % 997 = 0 := by
  unfold chk
  rw [chk_eq_iff, chk_set]
  have h1 := ix_lt a ha
  have h2 := ix_lt b hb
  have h3 : ix a ≠ ix b := fun e => ne (ix_inj ha hb e)
  constructor
  · intro h
    have := no_div (d := (ix a : Int) - ix b) ⟨by omega, by omega⟩ h
    omega
  · intro h
    exact Int.dvd_mul_of_dvd_left (by omega)
theorem chk_swap {l m : List Nat} {a b : Nat} (ha : a ∈ sg) (hb : b ∈ sg) (ne : a ≠ b) : chk (l ++ a :: b :: m) ≠ chk (l ++ b :: a :: m) := by
  intro h
  unfold chk at h
  rw [chk_eq_iff] at h
  have e : (csum 0 (l ++ a :: b :: m) : Int) - csum 0 (l ++ b :: a :: m) = (ix b : Int) - ix a := by
    rw [csum_app, csum_app]
    simp only [csum, Nat.zero_add]
    push_cast
    simp only [Int.add_mul, Int.mul_add]
    omega
  rw [e] at h
  have h1 := ix_lt a ha
  have h2 := ix_lt b hb
  have h3 : ix a ≠ ix b := fun e => ne (ix_inj ha hb e)
  omega
/-! ### frames -/
def isSg (l : List Nat) : Bool := l.all fun c => decide (c ∈ sg)
def isDg (l : List Nat) : Bool := l.all fun c => decide (c ∈ dg)
def dval (l : List Nat) : Nat := l.foldl (fun acc c => acc * 10 + (c - 48)) 0
def fr (t : List Nat) : List Nat := d4 t.length ++ (d3 (chk t) ++ t)
structure Ok (t : List Nat) : Prop where
  sg : isSg t = true
  lo : 1 ≤ t.length
  hi : t.length ≤ 999
def textAt (l : List Nat) : Option (List Nat) :=
  if (l.take 7).length < 7 ∨ isDg (l.take 7) = false then none
  else if dval ((l.take 7).take 4) = 0 ∨ ((l.drop 7).take (dval ((l.take 7).take 4))).length < dval ((l.take 7).take 4) ∨ isSg ((l.drop 7).take (dval ((l.take 7).take 4))) = false then none
  else if chk ((l.drop 7).take (dval ((l.take 7).take 4))) = dval ((l.take 7).drop 4) then some ((l.drop 7).take (dval ((l.take 7).take 4))) else none
theorem d4_len (n : Nat) : (d4 n).length = 4 := rfl
theorem d3_len (n : Nat) : (d3 n).length = 3 := rfl
theorem d4_val {n : Nat} (h : n < 10000) : dval (d4 n) = n := by
  simp only [dval, d4, List.foldl_cons, List.foldl_nil]
  omega
theorem d3_val {n : Nat} (h : n < 1000) : dval (d3 n) = n := by
  simp only [dval, d3, List.foldl_cons, List.foldl_nil]
  omega
theorem d4_dg (n : Nat) : isDg (d4 n) = true := by
  simp only [isDg, d4, List.all_cons, List.all_nil, Bool.and_true, Bool.and_eq_true, decide_eq_true_eq, mem_dg]
  omega
theorem d3_dg (n : Nat) : isDg (d3 n) = true := by
  simp only [isDg, d3, List.all_cons, List.all_nil, Bool.and_true, Bool.and_eq_true, decide_eq_true_eq, mem_dg]
  omega
theorem isDg_app (a b : List Nat) : isDg (a ++ b) = (isDg a && isDg b) := List.all_append
theorem isSg_app (a b : List Nat) : isSg (a ++ b) = (isSg a && isSg b) := List.all_append
/-- what stands behind a head is told by its length, its signs, its check -/
theorem textAt_head {n c : Nat} {b r : List Nat} (hn : n < 10000) (hc : c < 1000) : textAt (d4 n ++ (d3 c ++ b)) =
    if n = 0 ∨ (b.take n).length < n ∨ isSg (b.take n) = false then none else if chk (b.take n) = c then some (b.take n) else none := by
  have e : d4 n ++ (d3 c ++ b) = (d4 n ++ d3 c) ++ b := by rw [List.append_assoc]
  have hl : (d4 n ++ d3 c).length = 7 := rfl
  have t7 : ((d4 n ++ d3 c) ++ b).take 7 = d4 n ++ d3 c := by rw [← hl, List.take_left']; rfl
  have r7 : ((d4 n ++ d3 c) ++ b).drop 7 = b := by rw [← hl, List.drop_left']; rfl
  have t4 : (d4 n ++ d3 c).take 4 = d4 n := by rw [← d4_len n, List.take_left']; rfl
  have r4 : (d4 n ++ d3 c).drop 4 = d3 c := by rw [← d4_len n, List.drop_left']; rfl
  unfold textAt
  rw [e, t7, r7, t4, r4, d4_val hn, d3_val hc, if_neg]
  rw [hl, isDg_app, d4_dg, d3_dg]
  simp
theorem textAt_fr {t r : List Nat} (h : Ok t) : textAt (fr t ++ r) = some t := by
  have e : fr t ++ r = d4 t.length ++ (d3 (chk t) ++ (t ++ r)) := by simp [fr]
  have h1 := h.lo
  have h2 := h.hi
  rw [e, textAt_head (r := []) (by omega) (Nat.lt_of_lt_of_le (chk_lt t) (by decide)), List.take_left', if_neg, if_pos rfl]
  · rintro (z | z | z)
    · omega
    · omega
    · rw [h.sg] at z; cases z
  · rfl
theorem fr_len (t : List Nat) : (fr t).length = t.length + 7 := by
  simp only [fr, List.length_append, d4_len, d3_len]
  omega
theorem fr_sg {t : List Nat} (h : Ok t) : isSg (fr t) = true := by
  have dgsg : ∀ l, isDg l = true → isSg l = true := fun l hl => by
    unfold isDg at hl
    unfold isSg
    rw [List.all_eq_true] at hl ⊢
    intro c hc
    exact decide_eq_true (dg_sg c (of_decide_eq_true (hl c hc)))
  unfold fr
  rw [isSg_app, isSg_app, dgsg _ (d4_dg _), dgsg _ (d3_dg _), h.sg]
  rfl
/-! ### frames in a text -/
inductive Ps : List Nat → List (List Nat) → Nat → Prop
  | stop {l : List Nat} (h : textAt l = none) : Ps l [] 0
  | next {l t : List Nat} {ts : List (List Nat)} {e : Nat} (h : textAt l = some t) (r : Ps (l.drop (7 + t.length)) ts e) : Ps l (t :: ts) (7 + t.length + e)
theorem Ps.one {l : List Nat} {ts : List (List Nat)} {e : Nat} (a : Ps l ts e) : ∀ {us : List (List Nat)} {f : Nat}, Ps l us f → ts = us ∧ e = f := by
  induction a with
  | stop h =>
    intro us f b
    cases b with
    | stop _ => exact ⟨rfl, rfl⟩
    | next h2 _ => rw [h] at h2; cases h2
  | next h r ih =>
    intro us f b
    cases b with
    | stop h2 => rw [h] at h2; cases h2
    | next h2 r2 =>
      rw [h] at h2
      cases h2
      obtain ⟨e1, e2⟩ := ih r2
      exact ⟨by rw [e1], by rw [e2]⟩
theorem Ps.frames {ts : List (List Nat)} (h : ∀ t ∈ ts, Ok t) {r : List Nat} {us : List (List Nat)} {e : Nat} (p : Ps r us e) : Ps ((ts.map fr).flatten ++ r) (ts ++ us) ((ts.map fr).flatten.length + e) := by
  induction ts with
  | nil => simpa using p
  | cons t ts ih =>
    have hk := h t List.mem_cons_self
    have q := ih fun u hu => h u (List.mem_cons_of_mem _ hu)
    rw [List.map_cons, List.flatten_cons, List.append_assoc, List.length_append, fr_len]
    have q2 : Ps ((fr t ++ ((ts.map fr).flatten ++ r)).drop (7 + t.length)) (ts ++ us) ((ts.map fr).flatten.length + e) := by
      rw [show 7 + t.length = (fr t).length by rw [fr_len]; omega, List.drop_left']
      · exact q
      · rfl
    have q3 := Ps.next (textAt_fr hk) q2
    rw [show 7 + t.length + ((ts.map fr).flatten.length + e) = t.length + 7 + (ts.map fr).flatten.length + e by omega] at q3
    exact q3
/-! ### what is not read -/
theorem none_bent {n c : Nat} {b r : List Nat} (hn : n < 10000) (hc : c < 1000) (hb : b.length = n) (h : chk b ≠ c) : textAt (d4 n ++ (d3 c ++ (b ++ r))) = none := by
  rw [textAt_head (r := []) hn hc, List.take_left' hb]
  split
  · rfl
  · first | rfl | rw [if_neg h]
theorem some_bent {n c : Nat} {b r : List Nat} (hn : n < 10000) (hn0 : n ≠ 0) (hc : c < 1000) (hb : b.length = n) (hs : isSg b = true) (h : chk b = c) : textAt (d4 n ++ (d3 c ++ (b ++ r))) = some b := by
  rw [textAt_head (r := []) hn hc, List.take_left' hb, if_neg (by rintro (z | z | z) <;> first | omega | (rw [hs] at z; cases z)), if_pos h]
theorem none_long {n c : Nat} {b : List Nat} (hn : n < 10000) (hc : c < 1000) (hb : b.length < n) : textAt (d4 n ++ (d3 c ++ b)) = none := by
  rw [textAt_head (r := []) hn hc, if_pos]
  exact .inr (.inl (by rw [List.length_take]; omega))
theorem none_zero {c : Nat} {b : List Nat} (hc : c < 1000) : textAt (d4 0 ++ (d3 c ++ b)) = none := by
  rw [textAt_head (r := []) (by decide) hc, if_pos (.inl rfl)]
theorem none_odd {c : Nat} {b : List Nat} (hc : c ∉ dg) : textAt (c :: b) = none := by
  unfold textAt
  rw [if_pos]
  refine .inr ?_
  show ((c :: b.take 6).all fun c => decide (c ∈ dg)) = false
  rw [List.all_cons, decide_eq_false hc]
  rfl
theorem none_short {l : List Nat} (h : l.length < 7) : textAt l = none := by
  unfold textAt
  rw [if_pos]
  exact .inl (by rw [List.length_take]; omega)
theorem none_cut {t : List Nat} {m : Nat} (h : Ok t) (hm : m < (fr t).length) : textAt ((fr t).take m) = none := by
  rw [fr_len] at hm
  by_cases h7 : m < 7
  · exact none_short (by rw [List.length_take]; omega)
  · have e : (fr t).take m = d4 t.length ++ (d3 (chk t) ++ t.take (m - 7)) := by
      unfold fr
      rw [List.take_append, List.take_append, d4_len, d3_len, List.take_of_length_le (by rw [d4_len]; omega), List.take_of_length_le (by rw [d3_len]; omega), show m - 4 - 3 = m - 7 by omega]
    have h2 := h.hi
    rw [e]
    exact none_long (by omega) (Nat.lt_of_lt_of_le (chk_lt t) (by decide)) (by rw [List.length_take]; omega)
/-! ### a log cut anywhere -/
def cnt : Nat → List (List Nat) → Nat
  | _, [] => 0
  | a, t :: r => if t.length + 7 ≤ a then 1 + cnt (a - (t.length + 7)) r else 0
def upto (ts : List (List Nat)) (k : Nat) : Nat := (((ts.take k).map fr).flatten).length
theorem upto_next {ts : List (List Nat)} {k : Nat} {t : List Nat} (h : ts[k]? = some t) : upto ts (k + 1) = upto ts k + t.length + 7 := by
  unfold upto
  have e : ts.take (k + 1) = ts.take k ++ [t] := by
    rw [List.take_add_one, h]; rfl
  rw [e, List.map_append, List.flatten_append, List.length_append]
  simp [fr_len]
  omega
theorem cnt_le : ∀ (ts : List (List Nat)) (a : Nat), cnt a ts ≤ ts.length
  | [], _ => Nat.le_refl _
  | t :: r, a => by
    show (if t.length + 7 ≤ a then 1 + cnt (a - (t.length + 7)) r else 0) ≤ r.length + 1
    have := cnt_le r (a - (t.length + 7))
    split <;> omega
theorem upto_cons (t : List Nat) (r : List (List Nat)) (k : Nat) : upto (t :: r) (k + 1) = t.length + 7 + upto r k := by
  simp only [upto, List.take_succ_cons, List.map_cons, List.flatten_cons, List.length_append, fr_len]
theorem cnt_iff : ∀ (ts : List (List Nat)) (a k : Nat), k < ts.length → (k < cnt a ts ↔ upto ts (k + 1) ≤ a)
  | [], _, k, h => absurd h (Nat.not_lt_zero _)
  | t :: r, a, 0, _ => by
    rw [upto_cons]
    show (0 < if t.length + 7 ≤ a then 1 + cnt (a - (t.length + 7)) r else 0) ↔ _
    have : upto r 0 = 0 := by simp [upto]
    rw [this]
    split <;> omega
  | t :: r, a, k + 1, h => by
    rw [upto_cons]
    have ih := cnt_iff r (a - (t.length + 7)) k (by simpa using h)
    show (k + 1 < if t.length + 7 ≤ a then 1 + cnt (a - (t.length + 7)) r else 0) ↔ _
    split <;> omega
theorem Ps.cut : ∀ {ts : List (List Nat)} (h : ∀ t ∈ ts, Ok t) (a : Nat), Ps ((ts.map fr).flatten.take a) (ts.take (cnt a ts)) (upto ts (cnt a ts))
  | [], _, a => by
    simp only [List.map_nil, List.flatten_nil, List.take_nil]
    exact .stop (none_short (by decide))
  | t :: r, h, a => by
    have hk := h t List.mem_cons_self
    have ih := Ps.cut (ts := r) (fun u hu => h u (List.mem_cons_of_mem _ hu)) (a - (t.length + 7))
    rw [List.map_cons, List.flatten_cons, List.take_append, fr_len]
    by_cases c : t.length + 7 ≤ a
    · have e : cnt a (t :: r) = cnt (a - (t.length + 7)) r + 1 := by
        show (if t.length + 7 ≤ a then 1 + cnt (a - (t.length + 7)) r else 0) = _
        rw [if_pos c, Nat.add_comm]
      rw [e, List.take_succ_cons, upto_cons, List.take_of_length_le (by rw [fr_len]; exact c)]
      have q2 : Ps ((fr t ++ ((r.map fr).flatten.take (a - (t.length + 7)))).drop (7 + t.length)) (r.take (cnt (a - (t.length + 7)) r)) (upto r (cnt (a - (t.length + 7)) r)) := by
        rw [show 7 + t.length = (fr t).length by rw [fr_len]; omega, List.drop_left']
        · exact ih
        · rfl
      have q3 := Ps.next (textAt_fr hk) q2
      rw [show 7 + t.length + upto r (cnt (a - (t.length + 7)) r) = t.length + 7 + upto r (cnt (a - (t.length + 7)) r) by omega] at q3
      exact q3
    · have e : cnt a (t :: r) = 0 := by
        show (if t.length + 7 ≤ a then 1 + cnt (a - (t.length + 7)) r else 0) = _
        rw [if_neg c]
      rw [e, List.take_zero, show a - (t.length + 7) = 0 by omega, List.take_zero, List.append_nil]
      have : upto (t :: r) 0 = 0 := by simp [upto]
      rw [this]
      exact .stop (none_cut hk (by rw [fr_len]; omega))
end M28

set_option Elab.async false
set_option linter.all false
set_option maxRecDepth 100000
set_option maxHeartbeats 4000000

namespace LowInvalidText
open PySem PySem.W PySem.Calls PyProof.Rows PySem.HandSPX
/-! ### the text of __init__ -/
def iA (p1 p2 : Pos) : Arguments := { posonlyargs := [], args := [{ arg := "self", annotation := none, pos := p1 }, { arg := "given", annotation := none, pos := p2 }], vararg := none, kwonlyargs := [], kw_defaults := [], kwarg := none, defaults := [] }
def iB (q1 q2 q3 q4 : Pos) : List Stmt := [.Assign [.Attribute (.Name "self" q1) "given" q2] (.Name "given" q3) q4]
def iS : Scope := { kind := .function, names := [(PySem.Str.ofString "self", .local), (PySem.Str.ofString "given", .local)], isGenerator := false, isCoroutine := false, more := [] }
/-- what the written part says of Low, at C, and of its __init__, at fI -/
structure LowTxt (K : Frag) (mg : Str → Option Value) (C fI : Addr) : Prop where
  gC : mg "InvalidText" = some (.ref C)
  cls : ∃ nm q N bs bm sn sub ab col dd k0 k1 k2 k3 k5, K.lookup C = some (excClassObj nm q C N bs bm true sn sub ab col dd k0 k1 k2 k3 k5 "ValueError.__new__") ∧ refsVE bm = true
  sa : findIn K (.ref C) "__setattr__" = some (some (.builtin "object.__setattr__"))
  ga : findIn K (.ref C) "__getattribute__" = some (some (.builtin "BaseException.__getattribute__"))
  gg : findIn K (.ref C) "__getattr__" = some none
  noN : findIn K (.ref C) "given" = some none
  iC : findIn K (.ref C) "__init__" = some (some (.ref fI))
  tC : typeIn K (.ref fI) = some (.type "function")
  kC : keepIn K (.ref C) = true
  exC : subIn K (.ref C) (.type "BaseException") = some true
  tyC : typeIn K (.ref C) = some (.type "type")
  hdC : hasDictIn K C = true
  te : exmOne K (.ref C) (.ref C) = some true
  fn : ∃ (oc : Value) (od : Option Addr) (doc pm : Value) (an : Option Addr) (cdv ct : Value) (osl : Array (Option Value)) (p1 p2 q1 q2 q3 q4 : Pos),
    K.lookup fI = some ⟨oc, od, .func (fnOf "__init__" "InvalidText.__init__" (iA p1 p2) (iB q1 q2 q3 q4) iS .none .none doc pm an cdv ct), osl⟩ ∧ codeIn K cdv "InvalidText.__init__" = true
theorem one_size (v : Value) : [v].length ≤ sizeLine := by
  rw [sizeLine_eq]
  exact (by decide : 1 ≤ 16777216)
theorem kept_but {K : Frag} {h h' : Heap} {x : Addr} (X : K.In h) (hx : K.lookup x = none) (k : ∀ b o, b ≠ x → h.get? b = some o → h'.get? b = some o) : K.In h' := fun a o e =>
  k a o (fun z => by rw [z, hx] at e; cases e) (X a o e)
theorem ldC {M : Model} {s : Shared} {name : Str} {scope : Scope} {L a : Addr} {cd : Value} {m : Str → Option Value} {x : Str} {pos : Pos} {v : Value} {Q : Value → Shared → Prop} {A : Around} {E : Value → Shared → Prop} (hn : s.heap.Ns L m) (hv : m x = some v) (h : Q v s)
    (hk : scope.kind = .function := by rfl) (hl : (envOfC name scope L a cd).kindOf x = some .local := by rfl) (hd : (x == ("__debug__" : Str)) = false := by decide) :
    wpAny M A (eval (.Name x pos) (envOfC name scope L a cd)) Q E s := wpAny_Name (wpAny_loadName_local hk hl hn hv h) hd
/-- what __init__ leaves of a fresh exception at x -/
structure InitEnd (h h' : Heap) (x C dx t1 : Addr) (v : Value) : Prop where
  keep : ∀ b o, b ≠ x → h.get? b = some o → h'.get? b = some o
  obj : h'.get? x = some { cls := .ref C, dict := some dx, data := .fields #[.ref t1, .none, .none, .none, .bool false, .none] }
  dbig : h.objs.size ≤ dx
  dne : dx ≠ x
  ns : h'.Ns1 dx (fun y => if y = "given" then some v else none)
/-- a made Low -/
structure OwnMade (h h' : Heap) (e C d : Addr) (v : Value) : Prop where
  keep : ∀ b o, h.get? b = some o → h'.get? b = some o
  new : h.objs.size ≤ e
  obj : ∃ oe vs, h'.get? e = some oe ∧ oe.cls = .ref C ∧ oe.dict = some d ∧ oe.data = .fields vs ∧ vs[1]? = some .none
  dbig : h.objs.size ≤ d
  dne : d ≠ e
  ns : h'.Ns1 d (fun y => if y = "given" then some v else none)
section
variable {prog : Program} {w : World} {A : Around} {E : Value → Shared → Prop} {R : Result → Shared → Prop} {s : Shared} {K : Frag} {mg : Str → Option Value} {C fI : Addr}
theorem low_init (T : LowTxt K mg C fI) {x t0 : Addr} {v : Value} (X : K.In s.heap) (hlim : s.heap.NoLimit) (hx : s.heap.get? x = some (excO C t0)) (hnx : K.lookup x = none) (hroom : A.depth < recursionLimit)
    (hq : ∀ h' tk dx, InitEnd s.heap h' x C dx t0 v → R (.ok (.ret .none)) { s with heap := h', toks := tk }) :
    codeAny (model prog w) A (.call (.ref fI) ⟨[.ref x, v], []⟩) R s := by
  obtain ⟨oc, od, doc, pm, an, cdv, ct, osl, p1, p2, q1, q2, q3, q4, ho, hcd⟩ := T.fn
  obtain ⟨nm, q, N, bs, bm, sn, sub, ab, col, dd, k0, k1, k2, k3, k5, hC, hbm⟩ := T.cls
  have hcl : clsIn K C = some { name := nm, bases := bs, mro := .ref C :: bm, ns := N, qualname := q, hasDict := true, slotNames := sn, subclasses := sub, abstract := ab, collection := col, hasDel := false } := by unfold clsIn; rw [hC] <;> rfl
  refine Att.call_fn (binds := [("self", .ref x), ("given", v)]) X hlim ho hcd hroom (BindsTo.of_eq (by first | rfl | with_unfolding_all rfl)) (by first | rfl | decide | with_unfolding_all rfl) (fun s₁ IC => ?_) rfl rfl rfl
  obtain ⟨h₁, tk₁, rfl⟩ := IC.toInCall.same
  have k : ∀ b o, s.heap.get? b = some o → h₁.get? b = some o := IC.toInCall.keep
  have hn := IC.toInCall.ns
  have hxL : s.heap.objs.size ≠ x := Nat.ne_of_gt (Heap.lt_size hx)
  have X₁ : K.In h₁ := X.keeps k
  have hx₁ := k _ _ hx
  -- self.by = by
  show wpAny _ _ (execs _ _) _ _ _
  refine wpAny_execs_cons (plainObj_wpAny_Assign_Attribute ?_)
  refine ldC (v := v) hn (by first | rfl | with_unfolding_all rfl | kernel_rfl) (ldC (v := .ref x) hn (by first | rfl | with_unfolding_all rfl | kernel_rfl) ?_)
  refine set_plain X₁ (ox := excO C t0) (od := none) ⟨hx₁, rfl, rfl, trivial⟩ T.sa ?_
  refine exc_osa X₁ hx₁ hcl (show refsVE (.ref C :: bm) = true from hbm) rfl T.noN (fun h₃ tk₃ dx k₃ dn dne hx₃ hn₃ => ?_)
  show wpAny _ _ (execs _ _) _ _ _
  have z : s.heap.objs.size < h₁.objs.size := hn.lt
  exact wpAny_execs_nil (hq h₃ tk₃ dx ⟨fun b o hb e => k₃ b o hb (k b o e), hx₃, Nat.le_of_lt (Nat.lt_of_lt_of_le z dn), dne, hn₃⟩)
theorem low_made (T : LowTxt K mg C fI) {v : Value} (X : K.In s.heap) (hlim : s.heap.NoLimit) (hroom : A.depth + 1 < recursionLimit)
    (hq : ∀ h' tk e d, OwnMade s.heap h' e C d v → R (.ok (.ret (.ref e))) { s with heap := h', toks := tk }) :
    codeAny (model prog w) A (.call (.ref C) ⟨[v], []⟩) R s := by
  obtain ⟨nm, q, N, bs, bm, sn, sub, ab, col, dd, k0, k1, k2, k3, k5, hC, hbm⟩ := T.cls
  obtain ⟨hp, g, dr, tk, os⟩ := s
  have k : ∀ b o, hp.get? b = some o → ((hp.push (kdv_tup [v])).push (excO C hp.objs.size)).get? b = some o := fun b o e => Heap.get?_push_of_some _ (Heap.get?_push_of_some _ e)
  have hget : ((hp.push (kdv_tup [v])).push (excO C hp.objs.size)).get? (hp.objs.size + 1) = some (excO C hp.objs.size) := by heap_get
  have hnx : K.lookup (hp.objs.size + 1) = none := by
    cases e : K.lookup (hp.objs.size + 1) with
    | none => rfl
    | some o =>
      have z : hp.get? (hp.objs.size + 1) = some o := X _ _ e
      exact absurd (Nat.lt_of_succ_lt (Heap.lt_size z)) (Nat.lt_irrefl _)
  refine call_own F.excBase_ValueError (fun X => refsVE_contains X bm hbm) (X _ _ hC) (looks_findIn X T.iC) (fun self => bind_fn X self T.tC) (one_size v) ?_
  refine low_init (s := ⟨(hp.push (kdv_tup [v])).push (excO C hp.objs.size), g, dr, tk, os⟩) T (X.keeps k) (hlim.keeps k) hget hnx ?_ fun h' tk' dx ⟨k', hx, dn, dne, hns⟩ => ?_
  · show A.depth + 1 < recursionLimit
    exact hroom
  · have old : ∀ b o, hp.get? b = some o → h'.get? b = some o := fun b o e => k' b o (Nat.ne_of_lt (Nat.lt_succ_of_lt (Heap.lt_size e))) (k b o e)
    have z : hp.objs.size + 1 + 1 ≤ dx := by
      first
        | (simpa only [Heap.size_push] using dn)
        | exact dn
        | (have q := dn; rw [Heap.size_push, Heap.size_push] at q; exact q)
    exact ⟨rfl, hq h' tk' (hp.objs.size + 1) dx ⟨old, Nat.le_succ _, ⟨_, _, hx, rfl, rfl, rfl, rfl⟩, Nat.le_trans (Nat.le_trans (Nat.le_succ _) (Nat.le_succ _)) z, dne, hns⟩⟩
end
end LowInvalidText
namespace LowInvalidText
open PySem PySem.Spec PyProof.Rows L2
theorem relO_low {v : V} {v' : Value} (r : RelV v v') (f : Str) : RelO (List.lookup f [(("given" : Str), v)]) (if f = "given" then some v' else none) := by
  by_cases hw : f = "given"
  · subst hw
    rw [if_pos rfl]
    have q : List.lookup ("given" : Str) [(("given" : Str), v)] = some v := by simp [List.lookup]
    rw [q]
    exact r
  · rw [if_neg hw]
    have qw : (f == ("given" : Str)) = false := by simpa using hw
    have q2 : List.lookup f [(("given" : Str), v)] = none := by simp [List.lookup, qw]
    rw [q2]
    trivial
section
variable {X : Cx} {C fI : Addr}
/-- Low(e) -/
def tMkLow (C : Addr) (ta : TA) : L2.St → Hp → XK → Prop := fun σ H Q => ta σ H fun vs H1 => ∃ v, vs = [v] ∧ ∀ d, H1 d = none → Q (.ref C) (some d) (upd H1 d (.xd [(("given" : Str), v)]))
theorem pmk_low {a : Expr} {ta : TA} {p pos : Pos} {k : Nat} (T : LowInvalidText.LowTxt X.K X.mg C fI) (hr : Room k X.A) (ha : PA X [a] ta) (hg : Gl X "InvalidText" := by rfl)
    (he : starEach (a :: []) X.env = (false, eval a X.env) :: starEach [] X.env := by rfl) (hpl : (backTo pos (starEach [] X.env)).any (·.1) = false := by rfl) :
    PMk X (.Call (.Name "InvalidText" p) [a] [] pos) (tMkLow C ta) := by
  intro pins s σ H Q I h
  refine wpAny_Call_Name_kw (ld_glob I hg T.gC ?_)
  refine PySem.W.callWith_K (h₀ := X.base) I.ok.mod.kin T.kC (thn (ha.run pos pins s σ H _ I h) fun us s1 hh => ?_) he hpl
  obtain ⟨vs, H1, I1, r1, v, ev, q1⟩ := hh
  subst ev
  refine ⟨I1.kIn, ?_⟩
  cases r1 with
  | cons rv rn =>
    rename_i v' us'
    cases rn
    show wpAny _ _ (call (.ref C) [v']) _ _ _
    have hlim := I1.nolimit
    obtain ⟨hp, g, dr, tk, os⟩ := s1
    refine wpAny_call (LowInvalidText.low_made T I1.kIn hlim (by have := hr.dp; omega) fun h' tk' e d M => ?_)
    show MkP X pins σ Q (.ref e) ⟨h', g, dr, tk', os⟩
    obtain ⟨oe, fv, hoe, hc, hd, hdat, h1⟩ := M.obj
    have hns := M.ns
    obtain ⟨G', g1, g2⟩ := restrict h' fun b => decide (b ≠ e)
    have gk : ∀ b, b ≠ e → G'.get? b = h'.get? b := fun b hb => g1 b (decide_eq_true hb)
    have ge : G'.get? e = none := g2 e (by simp)
    have old : ∀ b o, hp.get? b = some o → G'.get? b = some o := fun b o q => (gk b (Nat.ne_of_lt (Nat.lt_of_lt_of_le (Heap.lt_size q) M.new))).trans (M.keep b o q)
    have ob : ObjOk X.prog X.w (upd H1 d (.xd [(("given" : Str), v)])) G' d (.xd [(("given" : Str), v)]) :=
      ⟨_, hns.at (fun o q => (gk d M.dne).trans q), fun f => relO_low rv f⟩
    have J : Inv X pins σ (upd H1 d (.xd [(("given" : Str), v)])) ⟨G', g, dr, tk', os⟩ := I1.laid (t' := tk') old M.dbig ob
    refine ⟨e, oe, fv, ⟨G', g, dr, tk', os⟩, _, .ref C, some d, rfl, J, fun b o q => ?_, ge, hoe, ⟨hc, hd⟩, hdat, h1, ?_, rfl, I1.bare, raises_own T.exC T.tyC, q1 d (I1.hok.fresh M.dbig)⟩
    · by_cases hb : b = e
      · have q' : G'.get? b = some o := q
        rw [hb, ge] at q'; cases q'
      · exact (gk b hb).symm.trans q
    · rw [upd_ne (Ne.symm M.dne)]
      exact I1.hok.fresh M.new
/-- raise Low(e) -/
def tRaiseLow (C : Addr) (W : WX) (ta : TA) : TS := fun _ σ H => tMkLow C ta σ H fun cls d H' => W cls d σ H'
theorem ps_raiseLow {a : Expr} {ta : TA} {W : WX} {p pos pos2 : Pos} {k : Nat} (hc : X.calm = true) (T : LowInvalidText.LowTxt X.K X.mg C fI) (hr : Room k X.A) (tk : Takes X W) (ha : PA X [a] ta) (hg : Gl X "InvalidText" := by rfl)
    (he : starEach (a :: []) X.env = (false, eval a X.env) :: starEach [] X.env := by rfl) (hpl : (backTo pos (starEach [] X.env)).any (·.1) = false := by rfl) :
    PS X (.Raise (some (.Call (.Name "InvalidText" p) [a] [] pos)) none pos2) (tRaiseLow C W ta) := ps_raise hc tk (pmk_low T hr ha hg he hpl)
/-- low.by, low the exception that the suite holds (at a; its class cls, its dict d) -/
def tByLow (C : Addr) (a : Addr) (cls : Value) (d : Option Addr) (te : TE) : TE := fun σ H Q => te σ H fun x H1 => x = .ref a ∧ cls = .ref C ∧ ∃ (dd : Addr) (v : V), d = some dd ∧ H1 dd = some (.xd [(("given" : Str), v)]) ∧ Q v H1
theorem pe_byLow {a : Addr} {oe : Obj} {cls : Value} {d : Option Addr} {pn : List (Addr × Obj)} {e : Expr} {te : TE} {pos : Pos} (T : LowInvalidText.LowTxt X.K X.mg C fI) (hz : Zc cls d oe) (hf : ∃ vs, oe.data = .fields vs) (he : PE (X.suite a ((a, oe) :: pn)) e te)
    (hb : attributeBase e "given" X.env (eval e X.env) = eval e X.env := by rfl) :
    PE (X.suite a ((a, oe) :: pn)) (.Attribute e "given" pos) (tByLow C a cls d te) := by
  refine ⟨fun pins s σ H Q I h => ?_⟩
  refine attr_of hb (thn (he.run pins s σ H _ I h) fun u s1 hh => ?_)
  obtain ⟨x, H1, I1, rx, ex, ec, dd, v, ed, ea, q⟩ := hh
  subst ex
  obtain rfl : u = Value.ref a := rx
  subst ec
  subst ed
  obtain ⟨ha, _⟩ := I1.pin (a, oe) (List.mem_append_left _ List.mem_cons_self)
  obtain ⟨vs, hd⟩ := hf
  have hx : ObjOk X.prog X.w H1 s1.heap dd (.xd [(("given" : Str), v)]) := I1.hok dd _ ea
  obtain ⟨mA, hns, hr⟩ := hx
  obtain ⟨od, ho, hl⟩ := lookIn_ns hns
  have l : List.lookup ("given" : Str) [(("given" : Str), v)] = some v := by simp [List.lookup]
  obtain ⟨u, hu, ru⟩ := RelO.some_of (v := v) (o := mA "given") (by rw [← l]; exact hr "given")
  have J : PySem.W.InstAt s1.heap a oe C (some od) := ⟨ha, hz.1, by unfold PySem.W.notCls; rw [hd] <;> rfl, by rw [hz.2]; exact ho⟩
  exact HandSPX.exc_get I1.kIn J T.ga T.gg T.exC (PySem.W.findObj_own T.hdC T.noN rfl (by rw [hl, hu])) (handed_of ru) ⟨v, H1, I1.tok _, ru, q⟩
end
end LowInvalidText


namespace K28
open PySem PySem.Spec PyProof.Rows L2 Xr
def topS (i : Nat) : Stmt := PySem.Challenge.pw_gateseasons_k28_whole_frames_by_lengths.main.body.getD i (.Pass ⟨0, 0, 0, 0⟩)
abbrev s_is_text_of : Stmt := topS 4
theorem sc_is_text_of : FnScope ["value", "signs", "sign"] ["value", "signs"] (defScope s_is_text_of) := ⟨rfl, rfl, rfl, by decide +kernel, rfl, by decide +kernel, by decide +kernel⟩
abbrev s_is_signed : Stmt := topS 8
theorem sc_is_signed : FnScope ["value"] ["value"] (defScope s_is_signed) := ⟨rfl, rfl, rfl, by decide +kernel, rfl, by decide +kernel, by decide +kernel⟩
abbrev s_check_text : Stmt := topS 10
theorem sc_check_text : FnScope ["text"] ["text"] (defScope s_check_text) := ⟨rfl, rfl, rfl, by decide +kernel, rfl, by decide +kernel, by decide +kernel⟩
abbrev s_check_signs : Stmt := topS 11
theorem sc_check_signs : FnScope ["text"] ["text"] (defScope s_check_signs) := ⟨rfl, rfl, rfl, by decide +kernel, rfl, by decide +kernel, by decide +kernel⟩
abbrev s_check_of : Stmt := topS 20
theorem sc_check_of : FnScope ["text", "place", "sign"] ["text"] (defScope s_check_of) := ⟨rfl, rfl, rfl, by decide +kernel, rfl, by decide +kernel, by decide +kernel⟩
abbrev s_frame_of : Stmt := topS 21
theorem sc_frame_of : FnScope ["text"] ["text"] (defScope s_frame_of) := ⟨rfl, rfl, rfl, by decide +kernel, rfl, by decide +kernel, by decide +kernel⟩
abbrev s_text_at : Stmt := topS 22
theorem sc_text_at : FnScope ["stream", "start", "head", "length", "check", "text"] ["stream", "start"] (defScope s_text_at) := ⟨rfl, rfl, rfl, by decide +kernel, rfl, by decide +kernel, by decide +kernel⟩
abbrev s_frames_by : Stmt := topS 23
theorem sc_frames_by : FnScope ["stream", "found", "end", "text"] ["stream"] (defScope s_frames_by) := ⟨rfl, rfl, rfl, by decide +kernel, rfl, by decide +kernel, by decide +kernel⟩
abbrev s_check_number : Stmt := topS 31
theorem sc_check_number : FnScope ["text"] ["text"] (defScope s_check_number) := ⟨rfl, rfl, rfl, by decide +kernel, rfl, by decide +kernel, by decide +kernel⟩
abbrev s_frame : Stmt := topS 32
theorem sc_frame : FnScope ["text"] ["text"] (defScope s_frame) := ⟨rfl, rfl, rfl, by decide +kernel, rfl, by decide +kernel, by decide +kernel⟩
abbrev s_frames_in : Stmt := topS 33
theorem sc_frames_in : FnScope ["text", "texts", "end"] ["text"] (defScope s_frames_in) := ⟨rfl, rfl, rfl, by decide +kernel, rfl, by decide +kernel, by decide +kernel⟩
abbrev s_opened : Stmt := topS 35
theorem sc_opened : FnScope ["log", "notes", "end", "writes"] ["log"] (defScope s_opened) := ⟨rfl, rfl, rfl, by decide +kernel, rfl, by decide +kernel, by decide +kernel⟩
abbrev s__law_bag : Stmt := topS 37
theorem sc__law_bag : FnScope ["script", "at", "stirred", "place", "cell", "own", "digits"] ["script", "at"] (defScope s__law_bag) := ⟨rfl, rfl, rfl, by decide +kernel, rfl, by decide +kernel, by decide +kernel⟩
abbrev s__law_draw : Stmt := topS 38
theorem sc__law_draw : FnScope ["bag", "many", "digit", "old"] ["bag", "many"] (defScope s__law_draw) := ⟨rfl, rfl, rfl, by decide +kernel, rfl, by decide +kernel, by decide +kernel⟩
abbrev s__law_one : Stmt := topS 39
theorem sc__law_one : FnScope ["bag", "some"] ["bag", "some"] (defScope s__law_one) := ⟨rfl, rfl, rfl, by decide +kernel, rfl, by decide +kernel, by decide +kernel⟩
abbrev s__law_same : Stmt := topS 40
theorem sc__law_same : FnScope ["given", "due", "alike", "k"] ["given", "due"] (defScope s__law_same) := ⟨rfl, rfl, rfl, by decide +kernel, rfl, by decide +kernel, by decide +kernel⟩
abbrev s__law_frame : Stmt := topS 41
theorem sc__law_frame : FnScope ["text", "signs", "check", "k", "sign"] ["text"] (defScope s__law_frame) := ⟨rfl, rfl, rfl, by decide +kernel, rfl, by decide +kernel, by decide +kernel⟩
abbrev s__law_signs : Stmt := topS 42
theorem sc__law_signs : FnScope [] [] (defScope s__law_signs) := ⟨rfl, rfl, rfl, by decide +kernel, rfl, by decide +kernel, by decide +kernel⟩
abbrev s__law_text_drawn : Stmt := topS 43
theorem sc__law_text_drawn : FnScope ["bag", "many", "few", "turn"] ["bag"] (defScope s__law_text_drawn) := ⟨rfl, rfl, rfl, by decide +kernel, rfl, by decide +kernel, by decide +kernel⟩
abbrev s__law_put_sign : Stmt := topS 44
theorem sc__law_put_sign : FnScope ["text", "at", "by", "sign"] ["text", "at", "by"] (defScope s__law_put_sign) := ⟨rfl, rfl, rfl, by decide +kernel, rfl, by decide +kernel, by decide +kernel⟩
abbrev s__law_kept_check : Stmt := topS 45
theorem sc__law_kept_check : FnScope ["bag", "text", "turn", "at", "one", "two", "spot"] ["bag", "text"] (defScope s__law_kept_check) := ⟨rfl, rfl, rfl, by decide +kernel, rfl, by decide +kernel, by decide +kernel⟩
abbrev s__law_stream_right : Stmt := topS 46
theorem sc__law_stream_right : FnScope ["texts", "rest", "is_read", "log", "ends", "text", "told"] ["texts", "rest", "is_read"] (defScope s__law_stream_right) := ⟨rfl, rfl, rfl, by decide +kernel, rfl, by decide +kernel, by decide +kernel⟩
abbrev s__law_bent_right : Stmt := topS 47
theorem sc__law_bent_right : FnScope ["bag", "texts", "text", "whole", "at", "bent", "spot", "turned", "like", "log", "told", "rests", "own", "rest"] ["bag", "texts", "text"] (defScope s__law_bent_right) := ⟨rfl, rfl, rfl, by decide +kernel, rfl, by decide +kernel, by decide +kernel⟩
abbrev s__law_refused : Stmt := topS 48
theorem sc__law_refused : FnScope ["act", "e"] ["act"] (defScope s__law_refused) := ⟨rfl, rfl, rfl, by decide +kernel, rfl, by decide +kernel, by decide +kernel⟩
abbrev s__law_right : Stmt := topS 49
theorem sc__law_right : FnScope ["bag", "turn", "texts", "text", "due", "log", "at", "found", "end", "k", "told", "none", "odd"] ["bag"] (defScope s__law_right) := ⟨rfl, rfl, rfl, by decide +kernel, rfl, by decide +kernel, by decide +kernel⟩
abbrev s_law : Stmt := topS 50
theorem sc_law : FnScope ["script", "at"] ["script"] (defScope s_law) := ⟨rfl, rfl, rfl, by decide +kernel, rfl, by decide +kernel, by decide +kernel⟩
def kb_fun_0_1_0 {α : Type} : List α → List α → List α
  | [], [w0] => [w0]
  | _, _ => []
theorem kb_rel_0_1_0 {vs zs : List V} {us ws : List Value} (r1 : Vals vs us) (r2 : Vals zs ws) : Vals (kb_fun_0_1_0 vs zs) (kb_fun_0_1_0 us ws) := by
  cases r1 with
  | cons _ _ => first | exact .nil | (cases r2 <;> first | exact .nil | (rename_i z _ ; cases z <;> exact .nil))
  | nil =>
    cases r2 with
    | nil => first | exact .nil | (cases r2 <;> exact .nil)
    | cons r_w0 r2 =>
      cases r2 with
      | cons _ _ => first | exact .nil | (cases r2 <;> first | exact .nil | (rename_i z _ ; cases z <;> exact .nil))
      | nil =>
        exact (.cons r_w0 .nil)
/-- what the top has left -/
structure Txt (K : PySem.W.Frag) (mg : Str → Option Value) where
  a_is_text_of : Addr
  d_is_text_of : FuncData
  F_is_text_of : Fun K "is_text_of" "is_text_of" s_is_text_of a_is_text_of d_is_text_of
  g_is_text_of : mg "is_text_of" = some (.ref a_is_text_of)
  a_is_signed : Addr
  d_is_signed : FuncData
  F_is_signed : Fun K "is_signed" "is_signed" s_is_signed a_is_signed d_is_signed
  g_is_signed : mg "is_signed" = some (.ref a_is_signed)
  a_check_text : Addr
  d_check_text : FuncData
  F_check_text : Fun K "check_text" "check_text" s_check_text a_check_text d_check_text
  g_check_text : mg "check_text" = some (.ref a_check_text)
  a_check_signs : Addr
  d_check_signs : FuncData
  F_check_signs : Fun K "check_signs" "check_signs" s_check_signs a_check_signs d_check_signs
  g_check_signs : mg "check_signs" = some (.ref a_check_signs)
  a_check_of : Addr
  d_check_of : FuncData
  F_check_of : Fun K "check_of" "check_of" s_check_of a_check_of d_check_of
  g_check_of : mg "check_of" = some (.ref a_check_of)
  a_frame_of : Addr
  d_frame_of : FuncData
  F_frame_of : Fun K "frame_of" "frame_of" s_frame_of a_frame_of d_frame_of
  g_frame_of : mg "frame_of" = some (.ref a_frame_of)
  a_text_at : Addr
  d_text_at : FuncData
  F_text_at : Fun K "text_at" "text_at" s_text_at a_text_at d_text_at
  g_text_at : mg "text_at" = some (.ref a_text_at)
  a_frames_by : Addr
  d_frames_by : FuncData
  F_frames_by : Fun K "frames_by" "frames_by" s_frames_by a_frames_by d_frames_by
  g_frames_by : mg "frames_by" = some (.ref a_frames_by)
  a_check_number : Addr
  d_check_number : FuncData
  F_check_number : Fun K "check_number" "check_number" s_check_number a_check_number d_check_number
  g_check_number : mg "check_number" = some (.ref a_check_number)
  a_frame : Addr
  d_frame : FuncData
  F_frame : Fun K "frame" "frame" s_frame a_frame d_frame
  g_frame : mg "frame" = some (.ref a_frame)
  a_frames_in : Addr
  d_frames_in : FuncData
  F_frames_in : Fun K "frames_in" "frames_in" s_frames_in a_frames_in d_frames_in
  g_frames_in : mg "frames_in" = some (.ref a_frames_in)
  a_opened : Addr
  d_opened : FuncData
  F_opened : Fun K "opened" "opened" s_opened a_opened d_opened
  g_opened : mg "opened" = some (.ref a_opened)
  a__law_bag : Addr
  d__law_bag : FuncData
  F__law_bag : Fun K "_law_bag" "_law_bag" s__law_bag a__law_bag d__law_bag
  g__law_bag : mg "_law_bag" = some (.ref a__law_bag)
  a__law_draw : Addr
  d__law_draw : FuncData
  F__law_draw : Fun K "_law_draw" "_law_draw" s__law_draw a__law_draw d__law_draw
  g__law_draw : mg "_law_draw" = some (.ref a__law_draw)
  a__law_one : Addr
  d__law_one : FuncData
  F__law_one : Fun K "_law_one" "_law_one" s__law_one a__law_one d__law_one
  g__law_one : mg "_law_one" = some (.ref a__law_one)
  a__law_same : Addr
  d__law_same : FuncData
  F__law_same : Fun K "_law_same" "_law_same" s__law_same a__law_same d__law_same
  g__law_same : mg "_law_same" = some (.ref a__law_same)
  a__law_frame : Addr
  d__law_frame : FuncData
  F__law_frame : Fun K "_law_frame" "_law_frame" s__law_frame a__law_frame d__law_frame
  g__law_frame : mg "_law_frame" = some (.ref a__law_frame)
  a__law_signs : Addr
  d__law_signs : FuncData
  F__law_signs : Fun K "_law_signs" "_law_signs" s__law_signs a__law_signs d__law_signs
  g__law_signs : mg "_law_signs" = some (.ref a__law_signs)
  a__law_text_drawn : Addr
  d__law_text_drawn : FuncData
  F__law_text_drawn : Fun K "_law_text_drawn" "_law_text_drawn" s__law_text_drawn a__law_text_drawn d__law_text_drawn
  g__law_text_drawn : mg "_law_text_drawn" = some (.ref a__law_text_drawn)
  a__law_put_sign : Addr
  d__law_put_sign : FuncData
  F__law_put_sign : Fun K "_law_put_sign" "_law_put_sign" s__law_put_sign a__law_put_sign d__law_put_sign
  g__law_put_sign : mg "_law_put_sign" = some (.ref a__law_put_sign)
  a__law_kept_check : Addr
  d__law_kept_check : FuncData
  F__law_kept_check : Fun K "_law_kept_check" "_law_kept_check" s__law_kept_check a__law_kept_check d__law_kept_check
  g__law_kept_check : mg "_law_kept_check" = some (.ref a__law_kept_check)
  a__law_stream_right : Addr
  d__law_stream_right : FuncData
  F__law_stream_right : Fun K "_law_stream_right" "_law_stream_right" s__law_stream_right a__law_stream_right d__law_stream_right
  g__law_stream_right : mg "_law_stream_right" = some (.ref a__law_stream_right)
  a__law_bent_right : Addr
  d__law_bent_right : FuncData
  F__law_bent_right : Fun K "_law_bent_right" "_law_bent_right" s__law_bent_right a__law_bent_right d__law_bent_right
  g__law_bent_right : mg "_law_bent_right" = some (.ref a__law_bent_right)
  a__law_refused : Addr
  d__law_refused : FuncData
  F__law_refused : Fun K "_law_refused" "_law_refused" s__law_refused a__law_refused d__law_refused
  g__law_refused : mg "_law_refused" = some (.ref a__law_refused)
  a__law_right : Addr
  d__law_right : FuncData
  F__law_right : Fun K "_law_right" "_law_right" s__law_right a__law_right d__law_right
  g__law_right : mg "_law_right" = some (.ref a__law_right)
  a_law : Addr
  d_law : FuncData
  F_law : Fun K "law" "law" s_law a_law d_law
  g_law : mg "law" = some (.ref a_law)
  C_InvalidText : Addr
  i_InvalidText : Addr
  low_InvalidText : LowInvalidText.LowTxt K mg C_InvalidText i_InvalidText
  k_DIGITS : Value
  c_DIGITS : mg "DIGITS" = some k_DIGITS
  r_DIGITS : RelV (.str "0123456789") k_DIGITS
  k_SIGNS : Value
  c_SIGNS : mg "SIGNS" = some k_SIGNS
  r_SIGNS : RelV (.str " .0123456789abcdefghijklmnopqrstuvwxyz") k_SIGNS
  k_MODULUS : Value
  c_MODULUS : mg "MODULUS" = some k_MODULUS
  r_MODULUS : RelV (.int 997) k_MODULUS
  k_LENGTH_DIGITS : Value
  c_LENGTH_DIGITS : mg "LENGTH_DIGITS" = some k_LENGTH_DIGITS
  r_LENGTH_DIGITS : RelV (.int 4) k_LENGTH_DIGITS
  k_CHECK_DIGITS : Value
  c_CHECK_DIGITS : mg "CHECK_DIGITS" = some k_CHECK_DIGITS
  r_CHECK_DIGITS : RelV (.int 3) k_CHECK_DIGITS
  k_HEAD : Value
  c_HEAD : mg "HEAD" = some k_HEAD
  r_HEAD : RelV (.int 7) k_HEAD
  k_LONGEST_FRAMED : Value
  c_LONGEST_FRAMED : mg "LONGEST_FRAMED" = some k_LONGEST_FRAMED
  r_LONGEST_FRAMED : RelV (.int 999) k_LONGEST_FRAMED
  n_abs : mg "abs" = none
  n_all : mg "all" = none
  n_bool : mg "bool" = none
  n_divmod : mg "divmod" = none
  n_enumerate : mg "enumerate" = none
  n_int : mg "int" = none
  n_isinstance : mg "isinstance" = none
  n_len : mg "len" = none
  n_list : mg "list" = none
  n_max : mg "max" = none
  n_range : mg "range" = none
  n_str : mg "str" = none
  n_sum : mg "sum" = none
  n_tuple : mg "tuple" = none
section
variable {K : PySem.W.Frag} {mg : Str → Option Value}
theorem Txt.b_is_text_of (T : Txt K mg) : Binds K T.d_is_text_of ["value", "signs"] [] := T.F_is_text_of.binds (ps := ["value", "signs"]) fun _ _ _ _ _ _ us hl => match us, hl with | [_, _], _ => rfl
theorem Txt.b_is_signed (T : Txt K mg) : Binds K T.d_is_signed ["value"] [] := T.F_is_signed.binds (ps := ["value"]) fun _ _ _ _ _ _ us hl => match us, hl with | [_], _ => rfl
theorem Txt.b_check_text (T : Txt K mg) : Binds K T.d_check_text ["text"] [] := T.F_check_text.binds (ps := ["text"]) fun _ _ _ _ _ _ us hl => match us, hl with | [_], _ => rfl
theorem Txt.b_check_signs (T : Txt K mg) : Binds K T.d_check_signs ["text"] [] := T.F_check_signs.binds (ps := ["text"]) fun _ _ _ _ _ _ us hl => match us, hl with | [_], _ => rfl
theorem Txt.b_check_of (T : Txt K mg) : Binds K T.d_check_of ["text"] [] := T.F_check_of.binds (ps := ["text"]) fun _ _ _ _ _ _ us hl => match us, hl with | [_], _ => rfl
theorem Txt.b_frame_of (T : Txt K mg) : Binds K T.d_frame_of ["text"] [] := T.F_frame_of.binds (ps := ["text"]) fun _ _ _ _ _ _ us hl => match us, hl with | [_], _ => rfl
theorem Txt.b_text_at (T : Txt K mg) : Binds K T.d_text_at ["stream", "start"] [] := T.F_text_at.binds (ps := ["stream", "start"]) fun _ _ _ _ _ _ us hl => match us, hl with | [_, _], _ => rfl
theorem Txt.b_frames_by (T : Txt K mg) : Binds K T.d_frames_by ["stream"] [] := T.F_frames_by.binds (ps := ["stream"]) fun _ _ _ _ _ _ us hl => match us, hl with | [_], _ => rfl
theorem Txt.b_check_number (T : Txt K mg) : Binds K T.d_check_number ["text"] [] := T.F_check_number.binds (ps := ["text"]) fun _ _ _ _ _ _ us hl => match us, hl with | [_], _ => rfl
theorem Txt.b_frame (T : Txt K mg) : Binds K T.d_frame ["text"] [] := T.F_frame.binds (ps := ["text"]) fun _ _ _ _ _ _ us hl => match us, hl with | [_], _ => rfl
theorem Txt.b_frames_in (T : Txt K mg) : Binds K T.d_frames_in ["text"] [] := T.F_frames_in.binds (ps := ["text"]) fun _ _ _ _ _ _ us hl => match us, hl with | [_], _ => rfl
theorem Txt.b_opened (T : Txt K mg) : Binds K T.d_opened ["log"] [] := T.F_opened.binds (ps := ["log"]) fun _ _ _ _ _ _ us hl => match us, hl with | [_], _ => rfl
theorem Txt.b__law_bag (T : Txt K mg) : Binds K T.d__law_bag ["script", "at"] [] := T.F__law_bag.binds (ps := ["script", "at"]) fun _ _ _ _ _ _ us hl => match us, hl with | [_, _], _ => rfl
theorem Txt.b__law_draw (T : Txt K mg) : Binds K T.d__law_draw ["bag", "many"] [] := T.F__law_draw.binds (ps := ["bag", "many"]) fun _ _ _ _ _ _ us hl => match us, hl with | [_, _], _ => rfl
theorem Txt.b__law_one (T : Txt K mg) : Binds K T.d__law_one ["bag", "some"] [] := T.F__law_one.binds (ps := ["bag", "some"]) fun _ _ _ _ _ _ us hl => match us, hl with | [_, _], _ => rfl
theorem Txt.b__law_same (T : Txt K mg) : Binds K T.d__law_same ["given", "due"] [] := T.F__law_same.binds (ps := ["given", "due"]) fun _ _ _ _ _ _ us hl => match us, hl with | [_, _], _ => rfl
theorem Txt.b__law_frame (T : Txt K mg) : Binds K T.d__law_frame ["text"] [] := T.F__law_frame.binds (ps := ["text"]) fun _ _ _ _ _ _ us hl => match us, hl with | [_], _ => rfl
theorem Txt.b__law_signs (T : Txt K mg) : Binds K T.d__law_signs [] [] := T.F__law_signs.binds (ps := []) fun _ _ _ _ _ _ us hl => match us, hl with | [], _ => rfl
theorem Txt.b__law_text_drawn (T : Txt K mg) : Binds K T.d__law_text_drawn ["bag"] [] := T.F__law_text_drawn.binds (ps := ["bag"]) fun _ _ _ _ _ _ us hl => match us, hl with | [_], _ => rfl
theorem Txt.b__law_put_sign (T : Txt K mg) : Binds K T.d__law_put_sign ["text", "at", "by"] [] := T.F__law_put_sign.binds (ps := ["text", "at", "by"]) fun _ _ _ _ _ _ us hl => match us, hl with | [_, _, _], _ => rfl
theorem Txt.b__law_kept_check (T : Txt K mg) : Binds K T.d__law_kept_check ["bag", "text"] [] := T.F__law_kept_check.binds (ps := ["bag", "text"]) fun _ _ _ _ _ _ us hl => match us, hl with | [_, _], _ => rfl
theorem Txt.b__law_stream_right (T : Txt K mg) : Binds K T.d__law_stream_right ["texts", "rest", "is_read"] [] := T.F__law_stream_right.binds (ps := ["texts", "rest", "is_read"]) fun _ _ _ _ _ _ us hl => match us, hl with | [_, _, _], _ => rfl
theorem Txt.b__law_bent_right (T : Txt K mg) : Binds K T.d__law_bent_right ["bag", "texts", "text"] [] := T.F__law_bent_right.binds (ps := ["bag", "texts", "text"]) fun _ _ _ _ _ _ us hl => match us, hl with | [_, _, _], _ => rfl
theorem Txt.b__law_refused (T : Txt K mg) : Binds K T.d__law_refused ["act"] [] := T.F__law_refused.binds (ps := ["act"]) fun _ _ _ _ _ _ us hl => match us, hl with | [_], _ => rfl
theorem Txt.b__law_right (T : Txt K mg) : Binds K T.d__law_right ["bag"] [] := T.F__law_right.binds (ps := ["bag"]) fun _ _ _ _ _ _ us hl => match us, hl with | [_], _ => rfl
theorem Txt.b_law (T : Txt K mg) : Binds K T.d_law ["script"] [] := T.F_law.binds (ps := ["script"]) fun _ _ _ _ _ _ us hl => match us, hl with | [_], _ => rfl
theorem Txt.kb_check_number_text (T : Txt K mg) : KBi K T.d_check_number ["text"] 0 ["text"] (kb_fun_0_1_0) (kb_fun_0_1_0) := by
  obtain ⟨oc, od, kV, doc, pm, an, cdv, ct, osl, e, lk, hcd⟩ := T.F_check_number.ex
  refine ⟨fun s us ws l1 l2 => ?_, fun r1 r2 => kb_rel_0_1_0 r1 r2⟩
  rw [e]
  match us, ws, l1, l2 with
  | [], [w0], _, _ => exact .of_eq rfl
theorem Txt.kb_frame_text (T : Txt K mg) : KBi K T.d_frame ["text"] 0 ["text"] (kb_fun_0_1_0) (kb_fun_0_1_0) := by
  obtain ⟨oc, od, kV, doc, pm, an, cdv, ct, osl, e, lk, hcd⟩ := T.F_frame.ex
  refine ⟨fun s us ws l1 l2 => ?_, fun r1 r2 => kb_rel_0_1_0 r1 r2⟩
  rw [e]
  match us, ws, l1, l2 with
  | [], [w0], _, _ => exact .of_eq rfl
theorem Txt.kb_frames_in_text (T : Txt K mg) : KBi K T.d_frames_in ["text"] 0 ["text"] (kb_fun_0_1_0) (kb_fun_0_1_0) := by
  obtain ⟨oc, od, kV, doc, pm, an, cdv, ct, osl, e, lk, hcd⟩ := T.F_frames_in.ex
  refine ⟨fun s us ws l1 l2 => ?_, fun r1 r2 => kb_rel_0_1_0 r1 r2⟩
  rw [e]
  match us, ws, l1, l2 with
  | [], [w0], _, _ => exact .of_eq rfl
end
end K28

set_option Elab.async false
set_option linter.all false
set_option maxRecDepth 100000
set_option maxHeartbeats 4000000
namespace K28
open PySem PySem.Spec PyProof.Rows L2 Xr Vc Tx M28
variable {P : Program} {w : World} {K : PySem.W.Frag} {mg : Str → Option Value} {base : Heap}
local macro_rules | `(tactic| walk_at "go1") => `(tactic| first
  | with_reducible refine w_seq ?_ | with_reducible refine w_asg ?_ | with_reducible refine w_asgG ?_ | with_reducible refine w_next ?_ | with_reducible refine w_parS ?_ | with_reducible refine w_par ?_ | with_reducible refine w_par3S ?_ | with_reducible refine w_par3 ?_ | with_reducible refine w_ret ?_ | with_reducible refine w_retN ?_ | with_reducible refine w_drop ?_ | with_reducible refine w_ifS ?_
  | with_reducible refine w_var (by with_unfolding_all exact rfl) ?_ | with_reducible refine w_c ?_ | with_reducible refine w_op ?_ | with_reducible refine w_un ?_ | with_reducible refine w_chain ?_ | with_reducible refine w_I0 ?_ | with_reducible refine w_U ?_
  | with_reducible refine w_eq (by with_unfolding_all exact rfl) ?_ | with_reducible refine w_ne (by with_unfolding_all exact rfl) ?_ | with_reducible refine w_isN ?_ | with_reducible refine w_notN ?_
  | with_reducible refine w_cb ?_ | with_reducible refine w_nil ?_ | with_reducible refine w_cons ?_ | with_reducible refine w_call ?_ | with_reducible refine w_callW ?_ | with_reducible refine w_int ?_ | with_reducible refine w_abs ?_ | with_reducible refine w_max2 ?_ | with_reducible refine w_min2 ?_
  | with_reducible refine w_test ?_ | with_reducible refine w_tB ?_ | with_reducible refine w_bl ?_ | with_reducible refine w_blE ?_ | with_reducible refine w_and ?_ | with_reducible refine w_or ?_ | with_reducible refine w_not ?_ | with_reducible refine w_andV ?_ | with_reducible refine w_orV ?_ | with_reducible refine w_notV ?_ | with_reducible refine w_ifE ?_ | with_reducible refine w_yes ?_
  | with_reducible refine w_tup ?_ | with_reducible refine w_lst ?_ | with_reducible refine w_bm ?_ | with_reducible refine w_bm0 ?_ | with_reducible refine w_sl ?_ | with_reducible refine w_noPart ?_ | with_reducible refine w_part ?_ | with_reducible refine w_partI ?_ | with_reducible refine lc_of ?_
  | with_reducible refine w_I (by with_unfolding_all (show (0 : Int) < _; decide)) ?_ | with_reducible refine w_iStr ?_ | with_reducible refine w_strE ?_ | with_reducible refine w_iList ?_ | with_reducible refine w_iTup ?_ | with_reducible refine w_iRng1 ?_ | with_reducible refine w_iEnumS ?_ | with_reducible refine w_enumSE ?_ | with_reducible refine w_iEnumS1 ?_ | with_reducible refine w_iEnum ?_ | with_reducible refine for_of ?_ | with_reducible refine w_nT ?_ | with_reducible refine w_nF ?_ | with_reducible refine iteT ?_ | with_reducible refine iteF ?_ | with_reducible refine w_len (by with_unfolding_all exact rfl) ?_ | with_reducible refine w_rfl (by with_unfolding_all exact rfl) ?_ | with_reducible refine ty_strA ?_ | with_reducible refine w_gsub ?_ | with_reducible refine w_gname ?_ | with_reducible refine w_gcons ?_ | with_reducible refine w_gnil ?_ | with_reducible refine w_inS ?_ | with_reducible refine w_niS ?_ | with_reducible refine w_revS ?_)
local macro_rules | `(tactic| walk_at "go") => `(tactic| repeat' (walk_at "go1"))
def sp_draw : Sp := fun vs H Q _ => ∃ (b : Addr) (many : Int), vs = [.ref b, .int many] ∧ Bag H b ∧ 0 < many ∧ many < 1000000 ∧ ∀ (r : Nat) H', (r : Int) < many → Fr (some b) H H' → Bag H' b → Q (.int r) H'
theorem ok__law_draw (T : Txt K mg) : FnOk P w K mg base CX0 1 T.a__law_draw T.d__law_draw ["bag", "many"] sp_draw := by
  refine T.F__law_draw.ok sc__law_draw (fun vs H Q E h => ?_) (fun cdv A outer s H vs Q E hr h => ⟨_, (pss_cons (ps_if (pt_cmpR op_gt (pe_ix (ix_listK (K := K) rfl) (pv 0) pe_int (fun _ _ => rfl)) pe_int (nomark _)) (pss_cons (ps_asg (pe_callB call_divmodN (by rfl) T.n_divmod (by decide +kernel) (pa_cons (pe_ix (ix_listK (K := K) rfl) (pv 0) pe_int (fun _ _ => rfl)) (pa_cons (pv 1) pa_nil))) (pg_tupK (K := K) (n := 2) rfl rfl (pgs_cons (pg_sub (pv 0) pe_int set_list) (pgs_cons (pg_name (i := 2) sc__law_draw.nd rfl (Or.inl rfl)) pgs_nil))))
    (pss_one (ps_ret (pv 2)))) pss_nil)
    (pss_cons (ps_asg (pe_op op_add (pe_ix (ix_listK (K := K) rfl) (pv 0) pe_int (fun _ _ => rfl)) pe_int) (pg_sub (pv 0) pe_int set_list))
    (pss_cons (ps_set (i := 3) sc__law_draw.nd rfl (Or.inl rfl) (pe_callTy call_int1N (by rfl) T.n_int (by decide +kernel) (pa_cons (pe_ix (ix_listK (K := K) rfl) (pv 0) pe_int (fun _ _ => rfl)) pa_nil)))
    (pss_cons (ps_asg (pe_op op_mod (pe_callTy call_int1N (by rfl) T.n_int (by decide +kernel) (pa_cons (pe_op op_add (pe_op op_add (pe_op op_mul (pv 3) (pe_op op_add (pe_op op_mod (pe_callTy call_int1N (by rfl) T.n_int (by decide +kernel) (pa_cons (pv 3) pa_nil)) pe_int) pe_int)) (pe_op op_mul pe_int (pe_ix (ix_listK (K := K) rfl) (pv 0) pe_int (fun _ _ => rfl)))) pe_int) pa_nil)) pe_int) (pg_sub (pv 0) pe_int set_list))
    (pss_one (ps_ret (pe_op op_modN (pe_callTy call_int1N (by rfl) T.n_int (by decide +kernel) (pa_cons (pe_op op_fdiv (pe_ix (ix_listK (K := K) rfl) (pv 0) pe_int (fun _ _ => rfl)) pe_int) pa_nil)) (pv 1)))))))), ?_⟩)
  · obtain ⟨b, many, rfl, _⟩ := h
    rfl
  · obtain ⟨b, many, rfl, B, h1, h2, k⟩ := h
    obtain ⟨x, y, z, b1, b2, b3, b4, b5, b6⟩ := id B
    walk_at "go"
    refine w_ixL (SqL.of b6) rfl ?_
    walk_at "go"
    refine w_ite (fun c => ?_) (fun c => ?_)
    · walk_at "go"
      refine w_ixL (SqL.of b6) rfl ?_
      walk_at "go"
      refine w_divmod (divp_ok h1 (Nat.le_trans (PyProof.Rows.intBits_le (k := 200) (by omega)) (by omega))) fun p hp => ?_
      refine w_gtup (SqT.of upd_same) rfl ?_
      have np : b ≠ p := B.ne hp
      walk_at "go"
      refine w_setL (xs := [.int x, .int y, .int z]) (j := 0) (by rw [upd_ne np]; exact b6) rfl ?_
      walk_at "go"
      have e : x % many = ((x % many).toNat : Int) := (Int.toNat_of_nonneg (Int.emod_nonneg _ (by omega))).symm
      rw [e]
      refine k _ _ (by rw [← e]; exact Int.emod_lt_of_pos _ h1) (Fr.at (Fr.new hp)) ⟨x / many, y, z, Int.ediv_nonneg b1 (by omega), Int.lt_of_le_of_lt (Int.ediv_le_self _ b1) b2, b3, b4, b5, upd_same⟩
    · walk_at "go"
      refine w_ixL (SqL.of b6) rfl ?_
      walk_at "go"
      refine w_setL (xs := [.int x, .int y, .int z]) (j := 2) b6 rfl ?_
      walk_at "go"
      refine w_ixL (SqL.of upd_same) rfl ?_
      walk_at "go"
      refine w_I (.inl ⟨by omega, by omega⟩) ?_
      walk_at "go"
      refine w_ixL (SqL.of upd_same) rfl ?_
      walk_at "go"
      refine w_I (.inl ⟨by decide, by decide⟩) ?_
      walk_at "go"
      refine w_setL (xs := [.int x, .int y, .int (z + 1)]) (j := 1) upd_same rfl ?_
      rw [upd_upd]
      walk_at "go"
      refine w_ixL (SqL.of upd_same) rfl ?_
      walk_at "go"
      refine w_I ⟨by decide, by decide⟩ ?_
      walk_at "go"
      refine w_I (by omega) ?_
      rw [Int.fmod_eq_emod_of_nonneg _ (by omega)]
      generalize ey : (y * (y % 39989 + 30029) + 65011 * (z + 1) + 17) % 2147483423 = y'
      have y0 : 0 ≤ y' := by rw [← ey]; exact Int.emod_nonneg _ (by decide)
      have y1 : y' < 2147483423 := by rw [← ey]; exact Int.emod_lt_of_pos _ (by decide)
      have e : y' / 257 % many = ((y' / 257 % many).toNat : Int) := (Int.toNat_of_nonneg (Int.emod_nonneg _ (by omega))).symm
      rw [e]
      exact k _ _ (by rw [← e]; exact Int.emod_lt_of_pos _ h1) (Fr.at (Fr.refl _ _)) ⟨x, y', z + 1, b1, b2, y0, y1, by omega, upd_same⟩
end K28

set_option Elab.async false
set_option linter.all false
set_option maxRecDepth 100000
set_option maxHeartbeats 4000000
namespace K28
open PySem PySem.Spec PyProof.Rows L2 Xr Vc Tx M28
variable {P : Program} {w : World} {K : PySem.W.Frag} {mg : Str → Option Value} {base : Heap}
local macro_rules | `(tactic| walk_at "go1") => `(tactic| first
  | with_reducible refine w_seq ?_ | with_reducible refine w_asg ?_ | with_reducible refine w_asgG ?_ | with_reducible refine w_next ?_ | with_reducible refine w_parS ?_ | with_reducible refine w_par ?_ | with_reducible refine w_par3S ?_ | with_reducible refine w_par3 ?_ | with_reducible refine w_ret ?_ | with_reducible refine w_retN ?_ | with_reducible refine w_drop ?_ | with_reducible refine w_ifS ?_
  | with_reducible refine w_var (by with_unfolding_all exact rfl) ?_ | with_reducible refine w_c ?_ | with_reducible refine w_op ?_ | with_reducible refine w_un ?_ | with_reducible refine w_chain ?_ | with_reducible refine w_I0 ?_ | with_reducible refine w_U ?_
  | with_reducible refine w_eq (by with_unfolding_all exact rfl) ?_ | with_reducible refine w_ne (by with_unfolding_all exact rfl) ?_ | with_reducible refine w_isN ?_ | with_reducible refine w_notN ?_
  | with_reducible refine w_cb ?_ | with_reducible refine w_nil ?_ | with_reducible refine w_cons ?_ | with_reducible refine w_call ?_ | with_reducible refine w_callW ?_ | with_reducible refine w_int ?_ | with_reducible refine w_abs ?_ | with_reducible refine w_max2 ?_ | with_reducible refine w_min2 ?_
  | with_reducible refine w_test ?_ | with_reducible refine w_tB ?_ | with_reducible refine w_bl ?_ | with_reducible refine w_blE ?_ | with_reducible refine w_and ?_ | with_reducible refine w_or ?_ | with_reducible refine w_not ?_ | with_reducible refine w_andV ?_ | with_reducible refine w_orV ?_ | with_reducible refine w_notV ?_ | with_reducible refine w_ifE ?_ | with_reducible refine w_yes ?_
  | with_reducible refine w_tup ?_ | with_reducible refine w_lst ?_ | with_reducible refine w_bm ?_ | with_reducible refine w_bm0 ?_ | with_reducible refine w_sl ?_ | with_reducible refine w_noPart ?_ | with_reducible refine w_part ?_ | with_reducible refine w_partI ?_ | with_reducible refine lc_of ?_
  | with_reducible refine w_I (by with_unfolding_all (show (0 : Int) < _; decide)) ?_ | with_reducible refine w_iStr ?_ | with_reducible refine w_strE ?_ | with_reducible refine w_iList ?_ | with_reducible refine w_iTup ?_ | with_reducible refine w_iRng1 ?_ | with_reducible refine w_iEnumS ?_ | with_reducible refine w_enumSE ?_ | with_reducible refine w_iEnumS1 ?_ | with_reducible refine w_iEnum ?_ | with_reducible refine for_of ?_ | with_reducible refine w_nT ?_ | with_reducible refine w_nF ?_ | with_reducible refine iteT ?_ | with_reducible refine iteF ?_ | with_reducible refine w_len (by with_unfolding_all exact rfl) ?_ | with_reducible refine w_rfl (by with_unfolding_all exact rfl) ?_ | with_reducible refine ty_strA ?_ | with_reducible refine w_gsub ?_ | with_reducible refine w_gname ?_ | with_reducible refine w_gcons ?_ | with_reducible refine w_gnil ?_ | with_reducible refine w_inS ?_ | with_reducible refine w_niS ?_ | with_reducible refine w_revS ?_)
local macro_rules | `(tactic| walk_at "go") => `(tactic| repeat' (walk_at "go1"))
/-- what a text of signs is -/
def Told (K : PySem.W.Frag) (H : Hp) (v : V) (z : List Nat) (b : Bool) : Prop :=
  (∃ l, v = .str (S l) ∧ l.length ≤ 100000 ∧ b = l.all fun c => decide (c ∈ z)) ∨ ∃ t, TyX K H v (.type t) ∧ kitB t "str" = some false ∧ b = false
def sp_ito (K : PySem.W.Frag) : Sp := fun vs H Q _ => ∃ (v : V) (z : List Nat) (b : Bool), vs = [v, .str (S z)] ∧ Told K H v z b ∧ ∀ H', Fr none H H' → Q (.bl b) H'
theorem ok_is_text_of (T : Txt K mg) : FnOk P w K mg base CX0 1 T.a_is_text_of T.d_is_text_of ["value", "signs"] (sp_ito K) := by
  refine T.F_is_text_of.ok sc_is_text_of (fun vs H Q E h => ?_) (fun cdv A outer s H vs Q E hr h => ⟨_, (pss_one (ps_ret (pe_and (pe_callB (call_isiK (K := K) rfl) (by rfl) T.n_isinstance (by decide +kernel) (pa_cons (pv 0) (pa_cons (pe_bltn (v := .ty "str") (u := .type "str") (by rfl) T.n_str (by decide +kernel) rfl) pa_nil))) (pe_one (pe_callB (cr_allK (K := K) rfl rfl) (by rfl) T.n_all (by decide +kernel) (pa_cons (pe_lc (own := [("sign", 2)]) (g := gName 2) (tt := tYes) rfl sc_is_text_of.nd (pi_str (pv 0)) (blkOk_by (own := [("sign", 2)]) (N := ["value", "signs", "sign"]) (sc := defScope s_is_text_of) (by decide +kernel)) (fun _ _ _ _ _ => (pg_name (i := 2) sc_is_text_of.nd rfl (Or.inl rfl))) (fun _ _ _ _ _ => pts_nil) (fun _ _ _ _ _ => (pe_cmpR op_in_signN (pv 2) (pv 1) (by rfl)))) pa_nil)))))), ?_⟩)
  · obtain ⟨v, z, b, rfl, _⟩ := h
    rfl
  · obtain ⟨v, z, b, rfl, h, k⟩ := h
    rcases h with ⟨l, rfl, hl, rfl⟩ | ⟨t, ty, hk, rfl⟩
    · walk_at "go"
      refine w_isi (b := true) (.base (.str _)) (by decide +kernel) ?_
      walk_at "go"
      refine lc_go walk_str (M := none) Bg.none (fun _ _ => trivial) (fun i acc => acc = ((l.take i).map fun c => decide (c ∈ z)).map V.bl) ?_ rfl ?_ ?_
      · rintro i acc _ rfl
        simp only [List.length_map, List.length_take]
        omega
      · rintro i x H1 H2 acc Zt Zf hi f B rfl ⟨rfl, c, hc, rfl⟩ kt kf
        walk_at "go"
        refine kt _ _ (Fr.refl _ _) Bg.none ?_
        have hc' : l[i]? = some c := by
          have : (S l).cps.toList[i]? = some c := by rw [Array.getElem?_toList]; exact hc
          rwa [S_list] at this
        rw [List.take_add_one, hc', S_list]
        simp
      · rintro p H1 acc hp f B e rfl
        have e2 : (S l).cps.size = l.length := S_len l
        rw [e2, List.take_of_length_le (Nat.le_refl _)] at e
        refine w_all (SqL.of e) ?_
        have e3 : ((l.map fun c => decide (c ∈ z)).all id) = l.all fun c => decide (c ∈ z) := by
          rw [List.all_map]; rfl
        rw [e3]
        exact k _ f
    · walk_at "go"
      refine w_isi ty hk ?_
      walk_at "go"
      exact k _ (Fr.refl _ _)
def sp_isg (K : PySem.W.Frag) : Sp := fun vs H Q _ => ∃ (v : V) (b : Bool), vs = [v] ∧ Told K H v sg b ∧ ∀ H', Fr none H H' → Q (.bl b) H'
theorem ok_is_signed (T : Txt K mg) : FnOk P w K mg base CX0 2 T.a_is_signed T.d_is_signed ["value"] (sp_isg K) := by
  have G_is_text_of : FnOk P w K mg base CX0 1 T.a_is_text_of T.d_is_text_of ["value", "signs"] (sp_ito K) := ok_is_text_of T
  refine T.F_is_signed.ok sc_is_signed (fun vs H Q E h => ?_) (fun cdv A outer s H vs Q E hr h => ⟨_, (pss_one (ps_ret (pe_call G_is_text_of (hr.mono (by decide)) rfl T.g_is_text_of T.F_is_text_of.kp T.b_is_text_of .nil pass0 (pa_cons (pv 0) (pa_cons (pe_glob rfl T.c_SIGNS T.r_SIGNS) pa_nil))))), ?_⟩)
  · obtain ⟨v, b, rfl, _⟩ := h
    rfl
  · obtain ⟨v, b, rfl, h, k⟩ := h
    walk_at "go"
    exact ⟨v, sg, b, by rw [← sg_str]; rfl, h, k⟩
end K28

set_option Elab.async false
set_option linter.all false
set_option maxRecDepth 100000
set_option maxHeartbeats 4000000
namespace K28
open PySem PySem.Spec PyProof.Rows L2 Xr Vc Tx M28
variable {P : Program} {w : World} {K : PySem.W.Frag} {mg : Str → Option Value} {base : Heap}
local macro_rules | `(tactic| walk_at "go1") => `(tactic| first
  | with_reducible refine w_seq ?_ | with_reducible refine w_asg ?_ | with_reducible refine w_asgG ?_ | with_reducible refine w_next ?_ | with_reducible refine w_parS ?_ | with_reducible refine w_par ?_ | with_reducible refine w_par3S ?_ | with_reducible refine w_par3 ?_ | with_reducible refine w_ret ?_ | with_reducible refine w_retN ?_ | with_reducible refine w_drop ?_ | with_reducible refine w_ifS ?_
  | with_reducible refine w_var (by with_unfolding_all exact rfl) ?_ | with_reducible refine w_c ?_ | with_reducible refine w_op ?_ | with_reducible refine w_un ?_ | with_reducible refine w_chain ?_ | with_reducible refine w_I0 ?_ | with_reducible refine w_U ?_
  | with_reducible refine w_eq (by with_unfolding_all exact rfl) ?_ | with_reducible refine w_ne (by with_unfolding_all exact rfl) ?_ | with_reducible refine w_isN ?_ | with_reducible refine w_notN ?_
  | with_reducible refine w_cb ?_ | with_reducible refine w_nil ?_ | with_reducible refine w_cons ?_ | with_reducible refine w_call ?_ | with_reducible refine w_callW ?_ | with_reducible refine w_int ?_ | with_reducible refine w_abs ?_ | with_reducible refine w_max2 ?_ | with_reducible refine w_min2 ?_
  | with_reducible refine w_test ?_ | with_reducible refine w_tB ?_ | with_reducible refine w_bl ?_ | with_reducible refine w_blE ?_ | with_reducible refine w_and ?_ | with_reducible refine w_or ?_ | with_reducible refine w_not ?_ | with_reducible refine w_andV ?_ | with_reducible refine w_orV ?_ | with_reducible refine w_notV ?_ | with_reducible refine w_ifE ?_ | with_reducible refine w_yes ?_
  | with_reducible refine w_tup ?_ | with_reducible refine w_lst ?_ | with_reducible refine w_bm ?_ | with_reducible refine w_bm0 ?_ | with_reducible refine w_sl ?_ | with_reducible refine w_noPart ?_ | with_reducible refine w_part ?_ | with_reducible refine w_partI ?_ | with_reducible refine lc_of ?_
  | with_reducible refine w_I (by with_unfolding_all (show (0 : Int) < _; decide)) ?_ | with_reducible refine w_iStr ?_ | with_reducible refine w_strE ?_ | with_reducible refine w_iList ?_ | with_reducible refine w_iTup ?_ | with_reducible refine w_iRng1 ?_ | with_reducible refine w_iEnumS ?_ | with_reducible refine w_enumSE ?_ | with_reducible refine w_iEnumS1 ?_ | with_reducible refine w_iEnum ?_ | with_reducible refine for_of ?_ | with_reducible refine w_nT ?_ | with_reducible refine w_nF ?_ | with_reducible refine iteT ?_ | with_reducible refine iteF ?_ | with_reducible refine w_len (by with_unfolding_all exact rfl) ?_ | with_reducible refine w_rfl (by with_unfolding_all exact rfl) ?_ | with_reducible refine ty_strA ?_ | with_reducible refine w_gsub ?_ | with_reducible refine w_gname ?_ | with_reducible refine w_gcons ?_ | with_reducible refine w_gnil ?_ | with_reducible refine w_inS ?_ | with_reducible refine w_niS ?_ | with_reducible refine w_revS ?_)
local macro_rules | `(tactic| walk_at "go") => `(tactic| repeat' (walk_at "go1"))
theorem mem_sg {l : List Nat} (h : isSg l = true) {i : Nat} {c : Nat} (hc : l[i]? = some c) : c ∈ sg := by
  have := List.all_eq_true.mp h c (List.mem_of_getElem? hc)
  exact of_decide_eq_true this
theorem cps_at {l : List Nat} {i c : Nat} (h : (S l).cps[i]? = some c) : l[i]? = some c := by
  have : (S l).cps.toList[i]? = some c := by rw [Array.getElem?_toList]; exact h
  rwa [S_list] at this
theorem cps_size (l : List Nat) : (S l).cps.size = l.length := S_len l
theorem take_next {α : Type} {l : List α} {i : Nat} {x : α} (h : l[i]? = some x) : l.take (i + 1) = l.take i ++ [x] := by
  rw [List.take_add_one, h]; rfl
theorem occ_some {c : Nat} (h : c ∈ sg) : ∃ rest, Builtin.Str.occurrences (S sg) ⟨#[c]⟩ 0 (S sg).length 1 = ix c :: rest := by
  have := occ_ix c h
  cases e : Builtin.Str.occurrences (S sg) ⟨#[c]⟩ 0 (S sg).length 1 with
  | nil => rw [e] at this; cases this
  | cons a r =>
    rw [e] at this
    exact ⟨r, by rw [← Option.some.inj this]⟩
theorem wt_at {l : List Nat} {i c : Nat} (h : l[i]? = some c) : wt l i = ((i : Int) + 1) * ((ix c : Int) + 1) := by
  unfold wt
  rw [List.getD_eq_getElem?_getD, h]
  simp
/-- check_of of a text of signs -/
def sp_chk : Sp := fun vs H Q _ => ∃ (l : List Nat), vs = [.str (S l)] ∧ isSg l = true ∧ l.length ≤ 100000 ∧ ∀ H', Fr none H H' → Q (.int (chk l : Nat)) H'
theorem ok_check_of (T : Txt K mg) : FnOk P w K mg base CX0 1 T.a_check_of T.d_check_of ["text"] sp_chk := by
  refine T.F_check_of.ok sc_check_of (fun vs H Q E h => ?_) (fun cdv A outer s H vs Q E hr h => ⟨_, (pss_one (ps_ret (pe_op op_modN (pe_callB (cr_sumK (K := K) rfl rfl) (by rfl) T.n_sum (by decide +kernel) (pa_cons (pe_lc (own := [("place", 1), ("sign", 2)]) (tt := tYes) rfl sc_check_of.nd (pi_enumS1 (by rfl) T.n_enumerate (pa_cons (pv 0) (pa_cons pe_int pa_nil))) (blkOk_by (own := [("place", 1), ("sign", 2)]) (N := ["text", "place", "sign"]) (sc := defScope s_check_of) (by decide +kernel)) (fun _ _ _ _ _ => (pg_tupK (K := K) (n := 2) rfl rfl (pgs_cons (pg_name (i := 1) sc_check_of.nd rfl (Or.inl rfl)) (pgs_cons (pg_name (i := 2) sc_check_of.nd rfl (Or.inl rfl)) pgs_nil)))) (fun _ _ _ _ _ => pts_nil) (fun _ _ _ _ _ => (pe_op op_mul (pv 1) (pe_op op_add (pe_bmK (K := K) rfl (pe_bm PySem.F.plainAttrs_str PySem.F.slot_str_index PySem.F.type_str_index mt_sindexK (pe_glob rfl T.c_SIGNS T.r_SIGNS) (pa_cons (pv 2) pa_nil))) pe_int)))) pa_nil)) (pe_glob rfl T.c_MODULUS T.r_MODULUS)))), ?_⟩)
  · obtain ⟨l, rfl, _⟩ := h
    rfl
  · obtain ⟨l, rfl, hs, hl, k⟩ := h
    walk_at "go"
    refine w_enumS1E (i := 1) (by decide) (by decide) ?_
    refine lc_go walk_enumS (M := none) Bg.none (fun _ _ => trivial) (fun i acc => acc = ((wts l).take i).map V.int) ?_ rfl ?_ ?_
    · rintro i acc _ rfl
      simp only [List.length_map, List.length_take, wts_len]
      omega
    · rintro i x H1 H2 acc Zt Zf hi f B rfl ⟨t, c, rfl, ht, rfl, hc⟩ kt kf
      have hc' := cps_at hc
      refine w_gtup (SqT.of upd_same) rfl ?_
      walk_at "go"
      rw [sg_str]
      obtain ⟨rest, he⟩ := occ_some (mem_sg hs hc')
      refine w_sindex he ?_
      walk_at "go"
      have h38 := ix_lt c (mem_sg hs hc')
      refine w_I (.inr ⟨by omega, by omega⟩) ?_
      refine kt _ _ (Fr.new ht) Bg.none ?_
      rw [take_next (wts_at (by rw [cps_size] at hi; exact hi)), wt_at hc', List.map_append, List.map_cons, List.map_nil, Int.add_comm (i : Int) 1]
    · rintro p H1 acc hp f B e rfl
      rw [cps_size, List.take_of_length_le (by rw [wts_len]; exact Nat.le_refl _)] at e
      walk_at "go"
      refine w_sum (SqL.of e) ?_
      walk_at "go"
      refine w_I (by decide) ?_
      rw [wts_sum, Int.fmod_eq_emod_of_nonneg _ (by decide)]
      exact k _ f
def sp_frame_of : Sp := fun vs H Q _ => ∃ (l : List Nat), vs = [.str (S l)] ∧ Ok l ∧ ∀ H', Fr none H H' → Q (.str (S (fr l))) H'
theorem ok_frame_of (T : Txt K mg) : FnOk P w K mg base CX0 2 T.a_frame_of T.d_frame_of ["text"] sp_frame_of := by
  have G_check_of : FnOk P w K mg base CX0 1 T.a_check_of T.d_check_of ["text"] sp_chk := ok_check_of T
  refine T.F_frame_of.ok sc_frame_of (fun vs H Q E h => ?_) (fun cdv A outer s H vs Q E hr h => ⟨_, (pss_one (ps_ret (pe_op op_add_strN (pe_op op_add_strN (pe_bmK (K := K) rfl (pe_bm PySem.F.plainAttrs_str PySem.F.slot_str_zfill PySem.F.type_str_zfill mt_zfillN (pe_callTy call_str_intN (by rfl) T.n_str (by decide +kernel) (pa_cons (pe_callB call_len_strN (by rfl) T.n_len PySem.boot_len (pa_cons (pv 0) pa_nil)) pa_nil)) (pa_cons (pe_glob rfl T.c_LENGTH_DIGITS T.r_LENGTH_DIGITS) pa_nil))) (pe_bmK (K := K) rfl (pe_bm PySem.F.plainAttrs_str PySem.F.slot_str_zfill PySem.F.type_str_zfill mt_zfillN (pe_callTy call_str_intN (by rfl) T.n_str (by decide +kernel) (pa_cons (pe_call G_check_of (hr.mono (by decide)) rfl T.g_check_of T.F_check_of.kp T.b_check_of .nil pass0 (pa_cons (pv 0) pa_nil)) pa_nil)) (pa_cons (pe_glob rfl T.c_CHECK_DIGITS T.r_CHECK_DIGITS) pa_nil)))) (pv 0)))), ?_⟩)
  · obtain ⟨l, rfl, _⟩ := h
    rfl
  · obtain ⟨l, rfl, ok, k⟩ := h
    have h1 := ok.lo
    have h2 := ok.hi
    walk_at "go"
    refine w_lenS (by rw [S_len, sizeLine_eq]; omega) ?_
    rw [S_len]
    walk_at "go"
    refine w_strI (log_small (by omega) (by omega)) ?_
    walk_at "go"
    refine w_zfill (by decide +kernel) ?_
    walk_at "go"
    refine ⟨l, rfl, ok.sg, by omega, fun H1 f1 => ?_⟩
    have hc := chk_lt l
    walk_at "go"
    refine w_strI (i := (chk l : Nat)) (log_small (by omega) (by omega)) ?_
    walk_at "go"
    refine w_zfill (by decide +kernel) ?_
    rw [str_num, str_num, S_ext (zf4 l.length (by omega)), S_ext (zf3 (chk l) (by omega))]
    refine w_addS (by rw [S_len, S_len, sizeLine_eq]; simp [d4_len, d3_len]) ?_
    walk_at "go"
    rw [S_app]
    refine w_addS (by rw [S_len, S_len, sizeLine_eq]; simp [d4_len, d3_len]; omega) ?_
    rw [S_app, List.append_assoc]
    exact k _ f1
end K28

set_option Elab.async false
set_option linter.all false
set_option maxRecDepth 100000
set_option maxHeartbeats 4000000
namespace K28
open PySem PySem.Spec PyProof.Rows L2 Xr Vc Tx M28
variable {P : Program} {w : World} {K : PySem.W.Frag} {mg : Str → Option Value} {base : Heap}
local macro_rules | `(tactic| walk_at "go1") => `(tactic| first
  | with_reducible refine w_seq ?_ | with_reducible refine w_asg ?_ | with_reducible refine w_asgG ?_ | with_reducible refine w_next ?_ | with_reducible refine w_parS ?_ | with_reducible refine w_par ?_ | with_reducible refine w_par3S ?_ | with_reducible refine w_par3 ?_ | with_reducible refine w_ret ?_ | with_reducible refine w_retN ?_ | with_reducible refine w_drop ?_ | with_reducible refine w_ifS ?_
  | with_reducible refine w_var (by with_unfolding_all exact rfl) ?_ | with_reducible refine w_c ?_ | with_reducible refine w_op ?_ | with_reducible refine w_un ?_ | with_reducible refine w_chain ?_ | with_reducible refine w_I0 ?_ | with_reducible refine w_U ?_
  | with_reducible refine w_eq (by with_unfolding_all exact rfl) ?_ | with_reducible refine w_ne (by with_unfolding_all exact rfl) ?_ | with_reducible refine w_isN ?_ | with_reducible refine w_notN ?_
  | with_reducible refine w_cb ?_ | with_reducible refine w_nil ?_ | with_reducible refine w_cons ?_ | with_reducible refine w_call ?_ | with_reducible refine w_callW ?_ | with_reducible refine w_int ?_ | with_reducible refine w_abs ?_ | with_reducible refine w_max2 ?_ | with_reducible refine w_min2 ?_
  | with_reducible refine w_test ?_ | with_reducible refine w_tB ?_ | with_reducible refine w_bl ?_ | with_reducible refine w_blE ?_ | with_reducible refine w_and ?_ | with_reducible refine w_or ?_ | with_reducible refine w_not ?_ | with_reducible refine w_andV ?_ | with_reducible refine w_orV ?_ | with_reducible refine w_notV ?_ | with_reducible refine w_ifE ?_ | with_reducible refine w_yes ?_
  | with_reducible refine w_tup ?_ | with_reducible refine w_lst ?_ | with_reducible refine w_bm ?_ | with_reducible refine w_bm0 ?_ | with_reducible refine w_sl ?_ | with_reducible refine w_noPart ?_ | with_reducible refine w_part ?_ | with_reducible refine w_partI ?_ | with_reducible refine lc_of ?_
  | with_reducible refine w_I (by with_unfolding_all (show (0 : Int) < _; decide)) ?_ | with_reducible refine w_iStr ?_ | with_reducible refine w_strE ?_ | with_reducible refine w_iList ?_ | with_reducible refine w_iTup ?_ | with_reducible refine w_iRng1 ?_ | with_reducible refine w_iEnumS ?_ | with_reducible refine w_enumSE ?_ | with_reducible refine w_iEnumS1 ?_ | with_reducible refine w_iEnum ?_ | with_reducible refine for_of ?_ | with_reducible refine w_nT ?_ | with_reducible refine w_nF ?_ | with_reducible refine iteT ?_ | with_reducible refine iteF ?_ | with_reducible refine w_len (by with_unfolding_all exact rfl) ?_ | with_reducible refine w_rfl (by with_unfolding_all exact rfl) ?_ | with_reducible refine ty_strA ?_ | with_reducible refine w_gsub ?_ | with_reducible refine w_gname ?_ | with_reducible refine w_gcons ?_ | with_reducible refine w_gnil ?_ | with_reducible refine w_inS ?_ | with_reducible refine w_niS ?_ | with_reducible refine w_revS ?_)
local macro_rules | `(tactic| walk_at "go") => `(tactic| repeat' (walk_at "go1"))
theorem dg_int {l : List Nat} (h : isDg l = true) (h1 : l ≠ []) (h2 : l.length ≤ 600) : PySem.intText? (S l) = some ((dval l : Nat) : Int) := by
  have hd : PySem.NumText.AllDigits (S l).cps.toList := by
    intro c hc
    rw [S_list] at hc
    exact mem_dg.mp (of_decide_eq_true (List.all_eq_true.mp h c hc))
  have e := PySem.intText_digits hd (by rw [S_list]; exact h1) (by rw [S_len]; omega)
  rw [S_list] at e
  exact e
theorem isDg_take {l : List Nat} (h : isDg l = true) (n : Nat) : isDg (l.take n) = true := by
  unfold isDg at h ⊢
  rw [List.all_eq_true] at h ⊢
  exact fun c hc => h c (List.mem_of_mem_take hc)
theorem isDg_drop {l : List Nat} (h : isDg l = true) (n : Nat) : isDg (l.drop n) = true := by
  unfold isDg at h ⊢
  rw [List.all_eq_true] at h ⊢
  exact fun c hc => h c (List.mem_of_mem_drop hc)
theorem dval_le : ∀ (l : List Nat) (n a : Nat), isDg l = true → l.length ≤ n → l.foldl (fun acc c => acc * 10 + (c - 48)) a < (a + 1) * 10 ^ n
  | [], n, a, _, _ => by
    show a < (a + 1) * 10 ^ n
    have : 1 ≤ 10 ^ n := Nat.pow_pos (by decide)
    exact Nat.lt_of_lt_of_le (Nat.lt_succ_self a) (Nat.le_mul_of_pos_right _ this)
  | c :: r, 0, a, _, h => by simp at h
  | c :: r, n + 1, a, h, hl => by
    have hc : c ∈ dg ∧ isDg r = true := by
      unfold isDg at h
      rw [List.all_cons, Bool.and_eq_true, decide_eq_true_eq] at h
      exact h
    have h9 := mem_dg.mp hc.1
    have ih := dval_le r n (a * 10 + (c - 48)) hc.2 (by simpa using hl)
    show r.foldl (fun acc c => acc * 10 + (c - 48)) (a * 10 + (c - 48)) < (a + 1) * 10 ^ (n + 1)
    refine Nat.lt_of_lt_of_le ih ?_
    rw [Nat.pow_succ, Nat.mul_comm (10 ^ n) 10, ← Nat.mul_assoc]
    exact Nat.mul_le_mul_right _ (by omega)
/-- text_at(stream, start) -/
def optS : Option (List Nat) → V
  | none => .non
  | some t => .str (S t)
def sp_text_at : Sp := fun vs H Q _ => ∃ (l : List Nat) (k : Nat), vs = [.str (S l), .int (k : Nat)] ∧ l.length ≤ 100000 ∧ k ≤ 100000 ∧ ∀ H', Fr none H H' → Q (optS (textAt (l.drop k))) H'
theorem ok_text_at (T : Txt K mg) : FnOk P w K mg base CX0 2 T.a_text_at T.d_text_at ["stream", "start"] sp_text_at := by
  have G_is_text_of : FnOk P w K mg base CX0 1 T.a_is_text_of T.d_is_text_of ["value", "signs"] (sp_ito K) := ok_is_text_of T
  have G_check_of : FnOk P w K mg base CX0 1 T.a_check_of T.d_check_of ["text"] sp_chk := ok_check_of T
  refine T.F_text_at.ok sc_text_at (fun vs H Q E h => ?_) (fun cdv A outer s H vs Q E hr h => ⟨_, (pss_cons (ps_set (i := 2) sc_text_at.nd rfl (Or.inl rfl) (pe_slice sl_str (pv 0) (po_some (pv 1)) (po_some (pe_op op_add (pv 1) (pe_glob rfl T.c_HEAD T.r_HEAD)))))
    (pss_cons (ps_if (PW.pt (pw_or (pt_cmpR op_lt (pe_callB call_len_strN (by rfl) T.n_len PySem.boot_len (pa_cons (pv 2) pa_nil)) (pe_glob rfl T.c_HEAD T.r_HEAD) (nomark _)) (pw_or1 (pt_not (pt_val (pe_call G_is_text_of (hr.mono (by decide)) rfl T.g_is_text_of T.F_is_text_of.kp T.b_is_text_of .nil pass0 (pa_cons (pv 2) (pa_cons (pe_glob rfl T.c_DIGITS T.r_DIGITS) pa_nil)))))))) (pss_one (ps_ret pe_non)) pss_nil)
    (pss_cons (ps_par (i := 3) (j := 4) rfl sc_text_at.nd rfl rfl (by decide) rfl rfl (pa_cons (pe_callTy call_int_strN (by rfl) T.n_int (by decide +kernel) (pa_cons (pe_slice sl_str (pv 2) po_none (po_some (pe_glob rfl T.c_LENGTH_DIGITS T.r_LENGTH_DIGITS))) pa_nil)) (pa_cons (pe_callTy call_int_strN (by rfl) T.n_int (by decide +kernel) (pa_cons (pe_slice sl_str (pv 2) (po_some (pe_glob rfl T.c_LENGTH_DIGITS T.r_LENGTH_DIGITS)) po_none) pa_nil)) pa_nil)) (by rfl))
    (pss_cons (ps_set (i := 5) sc_text_at.nd rfl (Or.inl rfl) (pe_slice sl_str (pv 0) (po_some (pe_op op_add (pv 1) (pe_glob rfl T.c_HEAD T.r_HEAD))) (po_some (pe_op op_add (pe_op op_add (pv 1) (pe_glob rfl T.c_HEAD T.r_HEAD)) (pv 3)))))
    (pss_cons (ps_if (PW.pt (pw_or (pt_cmpR op_eq (pv 3) pe_int (nomark _)) (pw_or (pt_cmpR op_lt (pe_callB call_len_strN (by rfl) T.n_len PySem.boot_len (pa_cons (pv 5) pa_nil)) (pv 3) (nomark _)) (pw_or1 (pt_not (pt_val (pe_call G_is_text_of (hr.mono (by decide)) rfl T.g_is_text_of T.F_is_text_of.kp T.b_is_text_of .nil pass0 (pa_cons (pv 5) (pa_cons (pe_glob rfl T.c_SIGNS T.r_SIGNS) pa_nil))))))))) (pss_one (ps_ret pe_non)) pss_nil)
    (pss_one (ps_ret (pe_ifExp (pt_cmpR op_eq (pe_call G_check_of (hr.mono (by decide)) rfl T.g_check_of T.F_check_of.kp T.b_check_of .nil pass0 (pa_cons (pv 5) pa_nil)) (pv 4) (nomark _)) (pv 5) pe_non)))))))), ?_⟩)
  · obtain ⟨l, k, rfl, _⟩ := h
    rfl
  · obtain ⟨l, k, rfl, hl, hk, kq⟩ := h
    have hz : (S l).length ≤ sizeLine := by rw [S_len, sizeLine_eq]; omega
    walk_at "go"
    refine w_slS hz ?_
    rw [show (k : Int) + 7 = ((k + 7 : Nat) : Int) by omega, cut_nn, show k + 7 - k = 7 by omega]
    generalize eh : (l.drop k).take 7 = hd
    have hhd : hd.length ≤ 7 := by rw [← eh, List.length_take]; omega
    walk_at "go"
    refine w_lenS (by rw [S_len, sizeLine_eq]; omega) ?_
    rw [S_len]
    walk_at "go"
    refine w_ite (fun c => ?_) (fun c => ?_)
    · walk_at "go"
      have : textAt (l.drop k) = none := by
        unfold textAt
        rw [if_pos (.inl (by rw [eh]; omega))]
      rw [this] at kq
      exact kq _ (Fr.refl _ _)
    · walk_at "go"
      refine ⟨.str (S hd), dg, isDg hd, by rw [← dg_str]; rfl, .inl ⟨hd, rfl, by omega, rfl⟩, fun H1 f1 => ?_⟩
      walk_at "go"
      by_cases hdg : isDg hd = true
      · rw [hdg]
        walk_at "go"
        have hl7 : hd.length = 7 := by omega
        refine w_slS (z := S hd) (by rw [S_len, sizeLine_eq]; omega) ?_
        rw [show (4 : Int) = ((4 : Nat) : Int) from rfl, cut_to]
        walk_at "go"
        refine w_intS (dg_int (isDg_take hdg 4) (List.ne_nil_of_length_pos (by rw [List.length_take]; omega)) (by rw [List.length_take]; omega)) (by rw [S_len, List.length_take]; omega) ?_
        walk_at "go"
        refine w_slS (z := S hd) (by rw [S_len, sizeLine_eq]; omega) ?_
        rw [cut_from]
        walk_at "go"
        refine w_intS (dg_int (isDg_drop hdg 4) (List.ne_nil_of_length_pos (by rw [List.length_drop]; omega)) (by rw [List.length_drop]; omega)) (by rw [S_len, List.length_drop]; omega) ?_
        walk_at "go"
        generalize en : dval (hd.take 4) = n
        generalize ec : dval (hd.drop 4) = cc
        have hn : n < 10000 := by
          have := dval_le (hd.take 4) 4 0 (isDg_take hdg 4) (by rw [List.length_take]; omega)
          rw [← en]
          exact this
        refine w_slS hz ?_
        rw [show (k : Int) + 7 = ((k + 7 : Nat) : Int) by omega, show ((k + 7 : Nat) : Int) + (n : Int) = ((k + 7 + n : Nat) : Int) by omega, cut_nn, show k + 7 + n - (k + 7) = n by omega]
        generalize et : (l.drop (k + 7)).take n = t
        have ht : t.length ≤ 100000 := by rw [← et, List.length_take, List.length_drop]; omega
        have e7 : (l.drop k).drop 7 = l.drop (k + 7) := by rw [List.drop_drop]
        have key : textAt (l.drop k) = if n = 0 ∨ t.length < n ∨ isSg t = false then none else if chk t = cc then some t else none := by
          unfold textAt
          rw [eh, if_neg (by rw [hdg, hl7]; simp), en, ec, e7, et]
        walk_at "go"
        refine w_ite (fun c1 => ?_) (fun c1 => ?_)
        · walk_at "go"
          rw [key, if_pos (.inl (by have := c1; simp at this; omega))] at kq
          exact kq _ f1
        · have c1' : n ≠ 0 := fun z => c1 (by rw [z]; rfl)
          walk_at "go"
          refine w_lenS (by rw [S_len, sizeLine_eq]; omega) ?_
          rw [S_len]
          walk_at "go"
          refine w_ite (fun c2 => ?_) (fun c2 => ?_)
          · walk_at "go"
            rw [key, if_pos (.inr (.inl (by omega)))] at kq
            exact kq _ f1
          · walk_at "go"
            refine ⟨.str (S t), sg, isSg t, by rw [← sg_str]; rfl, .inl ⟨t, rfl, ht, rfl⟩, fun H2 f2 => ?_⟩
            walk_at "go"
            by_cases hsg : isSg t = true
            · rw [hsg]
              walk_at "go"
              refine ⟨t, rfl, hsg, ht, fun H3 f3 => ?_⟩
              walk_at "go"
              rw [key, if_neg (by rintro (z | z | z); exact c1' z; omega; rw [hsg] at z; cases z)] at kq
              refine w_ite (fun c3 => ?_) (fun c3 => ?_)
              · walk_at "go"
                rw [if_pos (by have := c3; simp at this; omega)] at kq
                exact kq _ (f1.trans (f2.trans f3))
              · walk_at "go"
                rw [if_neg (fun z => c3 (by rw [z]))] at kq
                exact kq _ (f1.trans (f2.trans f3))
            · rw [Bool.not_eq_true] at hsg
              rw [hsg]
              walk_at "go"
              rw [key, if_pos (.inr (.inr hsg))] at kq
              exact kq _ (f1.trans f2)
      · rw [Bool.not_eq_true] at hdg
        rw [hdg]
        walk_at "go"
        have : textAt (l.drop k) = none := by
          unfold textAt
          rw [eh, if_pos (.inr hdg)]
        rw [this] at kq
        exact kq _ f1
end K28

set_option Elab.async false
set_option linter.all false
set_option maxRecDepth 100000
set_option maxHeartbeats 4000000
namespace K28
open PySem PySem.Spec PyProof.Rows L2 Xr Vc Tx M28
variable {P : Program} {w : World} {K : PySem.W.Frag} {mg : Str → Option Value} {base : Heap}
local macro_rules | `(tactic| walk_at "go1") => `(tactic| first
  | with_reducible refine w_seq ?_ | with_reducible refine w_asg ?_ | with_reducible refine w_asgG ?_ | with_reducible refine w_next ?_ | with_reducible refine w_parS ?_ | with_reducible refine w_par ?_ | with_reducible refine w_par3S ?_ | with_reducible refine w_par3 ?_ | with_reducible refine w_ret ?_ | with_reducible refine w_retN ?_ | with_reducible refine w_drop ?_ | with_reducible refine w_ifS ?_
  | with_reducible refine w_var (by with_unfolding_all exact rfl) ?_ | with_reducible refine w_c ?_ | with_reducible refine w_op ?_ | with_reducible refine w_un ?_ | with_reducible refine w_chain ?_ | with_reducible refine w_I0 ?_ | with_reducible refine w_U ?_
  | with_reducible refine w_eq (by with_unfolding_all exact rfl) ?_ | with_reducible refine w_ne (by with_unfolding_all exact rfl) ?_ | with_reducible refine w_isN ?_ | with_reducible refine w_notN ?_
  | with_reducible refine w_cb ?_ | with_reducible refine w_nil ?_ | with_reducible refine w_cons ?_ | with_reducible refine w_call ?_ | with_reducible refine w_callW ?_ | with_reducible refine w_int ?_ | with_reducible refine w_abs ?_ | with_reducible refine w_max2 ?_ | with_reducible refine w_min2 ?_
  | with_reducible refine w_test ?_ | with_reducible refine w_tB ?_ | with_reducible refine w_bl ?_ | with_reducible refine w_blE ?_ | with_reducible refine w_and ?_ | with_reducible refine w_or ?_ | with_reducible refine w_not ?_ | with_reducible refine w_andV ?_ | with_reducible refine w_orV ?_ | with_reducible refine w_notV ?_ | with_reducible refine w_ifE ?_ | with_reducible refine w_yes ?_
  | with_reducible refine w_tup ?_ | with_reducible refine w_lst ?_ | with_reducible refine w_bm ?_ | with_reducible refine w_bm0 ?_ | with_reducible refine w_sl ?_ | with_reducible refine w_noPart ?_ | with_reducible refine w_part ?_ | with_reducible refine w_partI ?_ | with_reducible refine lc_of ?_
  | with_reducible refine w_I (by with_unfolding_all (show (0 : Int) < _; decide)) ?_ | with_reducible refine w_iStr ?_ | with_reducible refine w_strE ?_ | with_reducible refine w_iList ?_ | with_reducible refine w_iTup ?_ | with_reducible refine w_iRng1 ?_ | with_reducible refine w_iEnumS ?_ | with_reducible refine w_enumSE ?_ | with_reducible refine w_iEnumS1 ?_ | with_reducible refine w_iEnum ?_ | with_reducible refine for_of ?_ | with_reducible refine w_nT ?_ | with_reducible refine w_nF ?_ | with_reducible refine iteT ?_ | with_reducible refine iteF ?_ | with_reducible refine w_len (by with_unfolding_all exact rfl) ?_ | with_reducible refine w_rfl (by with_unfolding_all exact rfl) ?_ | with_reducible refine ty_strA ?_ | with_reducible refine w_gsub ?_ | with_reducible refine w_gname ?_ | with_reducible refine w_gcons ?_ | with_reducible refine w_gnil ?_ | with_reducible refine w_inS ?_ | with_reducible refine w_niS ?_ | with_reducible refine w_revS ?_)
local macro_rules | `(tactic| walk_at "go") => `(tactic| repeat' (walk_at "go1"))
theorem textAt_some {l t : List Nat} (h : textAt l = some t) : 1 ≤ t.length ∧ 7 + t.length ≤ l.length := by
  unfold textAt at h
  split at h
  · cases h
  · rename_i c1
    split at h
    · cases h
    · rename_i c2
      split at h
      · have e := Option.some.inj h
        rw [e] at c2
        have h1 : ¬ (dval ((l.take 7).take 4) = 0) := fun z => c2 (.inl z)
        have h2 : ¬ (t.length < dval ((l.take 7).take 4)) := fun z => c2 (.inr (.inl z))
        have h3 : ¬ ((l.take 7).length < 7) := fun z => c1 (.inl z)
        have h4 : t.length ≤ l.length - 7 := by
          rw [← e, List.length_take, List.length_drop]
          omega
        rw [List.length_take] at h3
        omega
      · cases h
def txs (ts : List (List Nat)) : List V := ts.map fun t => V.str (S t)
/-- a pair of a list of texts and where they end -/
def PairAt (H : Hp) (p : Addr) (k : Addr) (e : Nat) : Prop := H p = some (.tup [.ref k, .int (e : Nat)])
def sp_frames_by : Sp := fun vs H Q _ => ∃ (l : List Nat), vs = [.str (S l)] ∧ l.length ≤ 50000 ∧ ∀ p f H' ts e, Ps l ts e → e ≤ l.length → ts.length ≤ l.length → Fr none H H' → H' p = some (.tup [.ref f, .int (e : Nat)]) → H' f = some (.lst (txs ts)) → Q (.ref p) H'
theorem ok_frames_by (T : Txt K mg) : FnOk P w K mg base CX0 3 T.a_frames_by T.d_frames_by ["stream"] sp_frames_by := by
  have G_text_at : FnOk P w K mg base CX0 2 T.a_text_at T.d_text_at ["stream", "start"] sp_text_at := ok_text_at T
  refine T.F_frames_by.ok sc_frames_by (fun vs H Q E h => ?_) (fun cdv A outer s H vs Q E hr h => ⟨_, (pss_cons (ps_par3 (i := 1) (j := 2) (l := 3) rfl sc_frames_by.nd rfl rfl rfl (by decide) (by decide) (by decide) rfl rfl rfl (pa_cons (pe_lst pa_nil) (pa_cons pe_int (pa_cons (pe_call G_text_at (hr.mono (by decide)) rfl T.g_text_at T.F_text_at.kp T.b_text_at .nil pass0 (pa_cons (pv 0) (pa_cons pe_int pa_nil))) pa_nil))) (by rfl))
    (pss_cons (ps_while PassesOwn.never (pt_cmpR op_notNN (pv 3) pe_non (nomark _)) (pss_cons (ps_expr (pe_bmK (K := K) rfl (pe_bm PySem.F.plainAttrs_list PySem.F.slot_list_append PySem.F.type_list_append mt_append (pv 1) (pa_cons (pv 3) pa_nil))))
    (pss_cons (ps_set (i := 2) sc_frames_by.nd rfl (Or.inl rfl) (pe_op op_add (pe_op op_add (pv 2) (pe_glob rfl T.c_HEAD T.r_HEAD)) (pe_callB call_len_strN (by rfl) T.n_len PySem.boot_len (pa_cons (pv 3) pa_nil))))
    (pss_one (ps_set (i := 3) sc_frames_by.nd rfl (Or.inl rfl) (pe_call G_text_at (hr.mono (by decide)) rfl T.g_text_at T.F_text_at.kp T.b_text_at .nil pass0 (pa_cons (pv 0) (pa_cons (pv 2) pa_nil))))))))
    (pss_one (ps_ret (pe_tup (pa_cons (pv 1) (pa_cons (pv 2) pa_nil))))))), ?_⟩)
  · obtain ⟨l, rfl, _⟩ := h
    rfl
  · obtain ⟨l, rfl, hl, kq⟩ := h
    walk_at "go"
    intro f hf
    walk_at "go"
    refine ⟨l, 0, rfl, by omega, by omega, fun H1 f1 => ?_⟩
    walk_at "go"
    refine ⟨fun m σ H' => ∃ (ts : List (List Nat)) (e : Nat), m = l.length - e ∧ σ = [some (.str (S l)), some (.ref f), some (.int (e : Nat)), some (optS (textAt (l.drop e)))] ∧ Fr none H H' ∧ H' f = some (.lst (txs ts)) ∧ e ≤ l.length ∧ ts.length ≤ e ∧
      ∀ us x, Ps (l.drop e) us x → Ps l (ts ++ us) (e + x), ⟨_, [], 0, rfl, rfl, (Fr.new hf).trans f1, f1 _ _ (by simp) upd_same, Nat.zero_le _, Nat.le_refl _, fun us x h => by simpa using h⟩, ?_⟩
    rintro m σ H2 ⟨ts, e, rfl, rfl, f2, hF, he, hts, hps⟩
    walk_at "go"
    cases ht : textAt (l.drop e) with
    | none =>
      show if (!decide (V.non = V.non)) = true then _ else _
      refine w_itn (fun c => absurd rfl c) fun _ => ?_
      walk_at "go"
      intro p hp
      have := hps [] 0 (.stop ht)
      simp only [List.append_nil, Nat.add_zero] at this
      exact kq p f _ ts e this he (by omega) (f2.trans (Fr.new hp)) upd_same (by rw [upd_ne (ne_of_none hF hp)]; exact hF)
    | some t =>
      obtain ⟨t1, t2⟩ := textAt_some ht
      rw [List.length_drop] at t2
      show if (!decide (V.str (S t) = V.non)) = true then _ else _
      refine w_itn (fun _ => ?_) fun c => by cases c
      refine ⟨fun σ' H' => ∃ (ts : List (List Nat)) (e' : Nat), e < e' ∧ σ' = [some (.str (S l)), some (.ref f), some (.int (e' : Nat)), some (optS (textAt (l.drop e')))] ∧ Fr none H H' ∧ H' f = some (.lst (txs ts)) ∧ e' ≤ l.length ∧ ts.length ≤ e' ∧
        ∀ us x, Ps (l.drop e') us x → Ps l (ts ++ us) (e' + x), ?_, ?_⟩
      · rintro σ' H' ⟨us, e', q1, q2, q3, q4, q5, q6, q7⟩
        exact ⟨l.length - e', by omega, us, e', rfl, q2, q3, q4, q5, q6, q7⟩
      · walk_at "go"
        refine ⟨ty_lst (SqL.of hF), ?_⟩
        walk_at "go"
        refine w_app hF (by show (txs ts).length < _; rw [sizeLine_eq]; simp only [txs, List.length_map]; omega) ?_
        walk_at "go"
        refine w_lenS (by rw [S_len, sizeLine_eq]; omega) ?_
        rw [S_len]
        walk_at "go"
        refine ⟨l, e + 7 + t.length, by congr 2 <;> omega, by omega, by omega, fun H3 f3 => ?_⟩
        refine ⟨ts ++ [t], e + 7 + t.length, by omega, ?_, (f2.mut hf).trans f3, ?_, by omega, by rw [List.length_append]; simp; omega, fun us x h => ?_⟩
        · rfl
        · rw [f3 _ _ (by simp) upd_same]
          simp [txs]
          rfl
        · have h' : Ps ((l.drop e).drop (7 + t.length)) us x := by
            rw [List.drop_drop, show e + (7 + t.length) = e + 7 + t.length by omega]
            exact h
          have := hps _ _ (.next ht h')
          rw [List.append_assoc]
          rw [show e + 7 + t.length + x = e + (7 + t.length + x) by omega]
          exact this
end K28

set_option Elab.async false
set_option linter.all false
set_option maxRecDepth 100000
set_option maxHeartbeats 4000000
namespace K28
open PySem PySem.Spec PyProof.Rows L2 Xr Vc Tx M28
variable {P : Program} {w : World} {K : PySem.W.Frag} {mg : Str → Option Value} {base : Heap}
local macro_rules | `(tactic| walk_at "go1") => `(tactic| first
  | with_reducible refine w_seq ?_ | with_reducible refine w_asg ?_ | with_reducible refine w_asgG ?_ | with_reducible refine w_next ?_ | with_reducible refine w_parS ?_ | with_reducible refine w_par ?_ | with_reducible refine w_par3S ?_ | with_reducible refine w_par3 ?_ | with_reducible refine w_ret ?_ | with_reducible refine w_retN ?_ | with_reducible refine w_drop ?_ | with_reducible refine w_ifS ?_
  | with_reducible refine w_var (by with_unfolding_all exact rfl) ?_ | with_reducible refine w_c ?_ | with_reducible refine w_op ?_ | with_reducible refine w_un ?_ | with_reducible refine w_chain ?_ | with_reducible refine w_I0 ?_ | with_reducible refine w_U ?_
  | with_reducible refine w_eq (by with_unfolding_all exact rfl) ?_ | with_reducible refine w_ne (by with_unfolding_all exact rfl) ?_ | with_reducible refine w_isN ?_ | with_reducible refine w_notN ?_
  | with_reducible refine w_cb ?_ | with_reducible refine w_nil ?_ | with_reducible refine w_cons ?_ | with_reducible refine w_call ?_ | with_reducible refine w_callW ?_ | with_reducible refine w_int ?_ | with_reducible refine w_abs ?_ | with_reducible refine w_max2 ?_ | with_reducible refine w_min2 ?_
  | with_reducible refine w_test ?_ | with_reducible refine w_tB ?_ | with_reducible refine w_bl ?_ | with_reducible refine w_blE ?_ | with_reducible refine w_and ?_ | with_reducible refine w_or ?_ | with_reducible refine w_not ?_ | with_reducible refine w_andV ?_ | with_reducible refine w_orV ?_ | with_reducible refine w_notV ?_ | with_reducible refine w_ifE ?_ | with_reducible refine w_yes ?_
  | with_reducible refine w_tup ?_ | with_reducible refine w_lst ?_ | with_reducible refine w_bm ?_ | with_reducible refine w_bm0 ?_ | with_reducible refine w_sl ?_ | with_reducible refine w_noPart ?_ | with_reducible refine w_part ?_ | with_reducible refine w_partI ?_ | with_reducible refine lc_of ?_
  | with_reducible refine w_I (by with_unfolding_all (show (0 : Int) < _; decide)) ?_ | with_reducible refine w_iStr ?_ | with_reducible refine w_strE ?_ | with_reducible refine w_iList ?_ | with_reducible refine w_iTup ?_ | with_reducible refine w_iRng1 ?_ | with_reducible refine w_iEnumS ?_ | with_reducible refine w_enumSE ?_ | with_reducible refine w_iEnumS1 ?_ | with_reducible refine w_iEnum ?_ | with_reducible refine for_of ?_ | with_reducible refine w_nT ?_ | with_reducible refine w_nF ?_ | with_reducible refine iteT ?_ | with_reducible refine iteF ?_ | with_reducible refine w_len (by with_unfolding_all exact rfl) ?_ | with_reducible refine w_rfl (by with_unfolding_all exact rfl) ?_ | with_reducible refine ty_strA ?_ | with_reducible refine w_gsub ?_ | with_reducible refine w_gname ?_ | with_reducible refine w_gcons ?_ | with_reducible refine w_gnil ?_ | with_reducible refine w_inS ?_ | with_reducible refine w_niS ?_ | with_reducible refine w_revS ?_)
local macro_rules | `(tactic| walk_at "go") => `(tactic| repeat' (walk_at "go1"))
def Odd (C : Addr) (H : Hp) (v : V) (E : XK) : Prop := ∀ H1 d, Fr none H H1 → H1 d = none → E (.ref C) (some d) (upd H1 d (.xd [(("given" : Str), v)]))
theorem Odd.fr {C : Addr} {H H1 : Hp} {v : V} {E : XK} (o : Odd C H v E) (f : Fr none H H1) : Odd C H1 v E := fun H2 d f2 n => o H2 d (f.trans f2) n
def NoStr (K : PySem.W.Frag) (H : Hp) (v : V) : Prop := ∃ t, TyX K H v (.type t) ∧ kitB t "str" = some false
def sp_check_text (K : PySem.W.Frag) (C : Addr) : Sp := fun vs H Q E => ∃ (v : V), vs = [v] ∧ (((∃ z, v = .str z) ∧ ∀ H', Fr none H H' → Q .non H') ∨ (NoStr K H v ∧ Odd C H v E))
theorem ok_check_text (T : Txt K mg) : FnOk P w K mg base (L2.CX P w) 3 T.a_check_text T.d_check_text ["text"] (sp_check_text K T.C_InvalidText) := by
  refine T.F_check_text.okX sc_check_text (fun vs H Q E h => ?_) (fun cdv A outer s H vs Q E hr h => ⟨_, (pss_one (ps_if (pt_not (pt_val (pe_callB (call_isiK (K := K) rfl) (by rfl) T.n_isinstance (by decide +kernel) (pa_cons (pv 0) (pa_cons (pe_bltn (v := .ty "str") (u := .type "str") (by rfl) T.n_str (by decide +kernel) rfl) pa_nil))))) (pss_one (LowInvalidText.ps_raiseLow (W := fun cls d _ H => E cls d H) rfl T.low_InvalidText hr (takes_of rfl rfl rfl rfl) (by exact (pa_cons (pv 0) pa_nil)))) pss_nil)), ?_⟩)
  · obtain ⟨v, rfl, _⟩ := h
    rfl
  · obtain ⟨v, rfl, h⟩ := h
    rcases h with ⟨⟨z, rfl⟩, k⟩ | ⟨⟨t, ty, hk⟩, o⟩
    · walk_at "go"
      refine w_isi (b := true) (.base (.str _)) (by decide +kernel) ?_
      walk_at "go"
      exact k _ (Fr.refl _ _)
    · walk_at "go"
      refine w_isi ty hk ?_
      walk_at "go"
      exact ⟨_, rfl, _, rfl, fun d hd => o _ d (Fr.refl _ _) hd⟩
def sp_check_signs (K : PySem.W.Frag) (C : Addr) : Sp := fun vs H Q E => ∃ (v : V) (b : Bool), vs = [v] ∧ Told K H v sg b ∧ (b = true → ∀ H', Fr none H H' → Q .non H') ∧ (b = false → Odd C H v E)
theorem ok_check_signs (T : Txt K mg) : FnOk P w K mg base (L2.CX P w) 5 T.a_check_signs T.d_check_signs ["text"] (sp_check_signs K T.C_InvalidText) := by
  have G_is_signed : FnOk P w K mg base CX0 2 T.a_is_signed T.d_is_signed ["value"] (sp_isg K) := ok_is_signed T
  refine T.F_check_signs.okX sc_check_signs (fun vs H Q E h => ?_) (fun cdv A outer s H vs Q E hr h => ⟨_, (pss_one (ps_if (pt_not (pt_val (pe_call G_is_signed (hr.mono (by decide)) rfl T.g_is_signed T.F_is_signed.kp T.b_is_signed .nil pass0 (pa_cons (pv 0) pa_nil)))) (pss_one (LowInvalidText.ps_raiseLow (W := fun cls d _ H => E cls d H) rfl T.low_InvalidText hr (takes_of rfl rfl rfl rfl) (by exact (pa_cons (pv 0) pa_nil)))) pss_nil)), ?_⟩)
  · obtain ⟨v, b, rfl, _⟩ := h
    rfl
  · obtain ⟨v, b, rfl, h, k1, k2⟩ := h
    walk_at "go"
    refine ⟨v, b, rfl, h, fun H1 f1 => ?_⟩
    cases b with
    | true =>
      walk_at "go"
      exact k1 rfl _ f1
    | false =>
      walk_at "go"
      exact ⟨_, rfl, _, rfl, fun d hd => k2 rfl _ d f1 hd⟩
def sp_check_number : Sp := fun vs H Q _ => ∃ (l : List Nat), vs = [.str (S l)] ∧ isSg l = true ∧ l.length ≤ 100000 ∧ ∀ H', Fr none H H' → Q (.int (chk l : Nat)) H'
theorem ok_check_number (T : Txt K mg) : FnOk P w K mg base (L2.CX P w) 8 T.a_check_number T.d_check_number ["text"] sp_check_number := by
  have G_check_signs : FnOk P w K mg base (L2.CX P w) 5 T.a_check_signs T.d_check_signs ["text"] (sp_check_signs K T.C_InvalidText) := ok_check_signs T
  have G_check_of : FnOk P w K mg base CX0 1 T.a_check_of T.d_check_of ["text"] sp_chk := ok_check_of T
  refine T.F_check_number.okX sc_check_number (fun vs H Q E h => ?_) (fun cdv A outer s H vs Q E hr h => ⟨_, (pss_cons (ps_expr (pe_call G_check_signs (hr.mono (by decide)) rfl T.g_check_signs T.F_check_signs.kp T.b_check_signs .nil (passes_call (W := fun cls d _ H => E cls d H) (takes_of rfl rfl rfl rfl) (fun _ _ _ _ h => h)) (pa_cons (pv 0) pa_nil)))
    (pss_one (ps_ret (pe_call G_check_of (hr.mono (by decide)) rfl T.g_check_of T.F_check_of.kp T.b_check_of .nil pass0 (pa_cons (pv 0) pa_nil))))), ?_⟩)
  · obtain ⟨l, rfl, _⟩ := h
    rfl
  · obtain ⟨l, rfl, hs, hl, k⟩ := h
    walk_at "go"
    refine ⟨.str (S l), true, rfl, .inl ⟨l, rfl, hl, hs.symm⟩, fun _ H1 f1 => ?_, fun z => by cases z⟩
    walk_at "go"
    exact ⟨l, rfl, hs, hl, fun H2 f2 => k _ (f1.trans f2)⟩
def sp_frame (K : PySem.W.Frag) (C : Addr) : Sp := fun vs H Q E => ∃ (v : V), vs = [v] ∧ ((∃ l, v = .str (S l) ∧ Ok l ∧ ∀ H', Fr none H H' → Q (.str (S (fr l))) H') ∨
  (Told K H v sg false ∧ Odd C H v E) ∨ (∃ l, v = .str (S l) ∧ isSg l = true ∧ l.length ≤ 100000 ∧ ¬ (1 ≤ l.length ∧ l.length ≤ 999) ∧ Odd C H v E))
theorem ok_frame (T : Txt K mg) : FnOk P w K mg base (L2.CX P w) 8 T.a_frame T.d_frame ["text"] (sp_frame K T.C_InvalidText) := by
  have G_check_signs : FnOk P w K mg base (L2.CX P w) 5 T.a_check_signs T.d_check_signs ["text"] (sp_check_signs K T.C_InvalidText) := ok_check_signs T
  have G_frame_of : FnOk P w K mg base CX0 2 T.a_frame_of T.d_frame_of ["text"] sp_frame_of := ok_frame_of T
  refine T.F_frame.okX sc_frame (fun vs H Q E h => ?_) (fun cdv A outer s H vs Q E hr h => ⟨_, (pss_cons (ps_expr (pe_call G_check_signs (hr.mono (by decide)) rfl T.g_check_signs T.F_check_signs.kp T.b_check_signs .nil (passes_call (W := fun cls d _ H => E cls d H) (takes_of rfl rfl rfl rfl) (fun _ _ _ _ h => h)) (pa_cons (pv 0) pa_nil)))
    (pss_cons (ps_if (pt_not (pt_chain op_le op_le pe_int (pe_callB call_len_strN (by rfl) T.n_len PySem.boot_len (pa_cons (pv 0) pa_nil)) (pe_glob rfl T.c_LONGEST_FRAMED T.r_LONGEST_FRAMED))) (pss_one (LowInvalidText.ps_raiseLow (W := fun cls d _ H => E cls d H) rfl T.low_InvalidText hr (takes_of rfl rfl rfl rfl) (by exact (pa_cons (pv 0) pa_nil)))) pss_nil)
    (pss_one (ps_ret (pe_call G_frame_of (hr.mono (by decide)) rfl T.g_frame_of T.F_frame_of.kp T.b_frame_of .nil pass0 (pa_cons (pv 0) pa_nil)))))), ?_⟩)
  · obtain ⟨v, rfl, _⟩ := h
    rfl
  · obtain ⟨v, rfl, h⟩ := h
    rcases h with ⟨l, rfl, ok, k⟩ | ⟨h, o⟩ | ⟨l, rfl, hs, hl, hn, o⟩
    · have h1 := ok.lo
      have h2 := ok.hi
      walk_at "go"
      refine ⟨.str (S l), true, rfl, .inl ⟨l, rfl, by omega, ok.sg.symm⟩, fun _ H1 f1 => ?_, fun z => by cases z⟩
      walk_at "go"
      refine w_lenS (by rw [S_len, sizeLine_eq]; omega) ?_
      rw [S_len]
      walk_at "go"
      refine w_ite (fun _ => ?_) fun c => absurd (show (1 : Int) ≤ (l.length : Nat) by omega) c
      walk_at "go"
      refine w_itn (fun c => absurd (show ((l.length : Nat) : Int) ≤ 999 by omega) c) fun _ => ?_
      walk_at "go"
      exact ⟨l, rfl, ok, fun H2 f2 => k _ (f1.trans f2)⟩
    · walk_at "go"
      exact ⟨v, false, rfl, h, (fun z => by cases z), fun _ => o⟩
    · walk_at "go"
      refine ⟨.str (S l), true, rfl, .inl ⟨l, rfl, hl, hs.symm⟩, fun _ H1 f1 => ?_, fun z => by cases z⟩
      walk_at "go"
      refine w_lenS (by rw [S_len, sizeLine_eq]; omega) ?_
      rw [S_len]
      walk_at "go"
      refine w_ite (fun c1 => ?_) fun c1 => ?_
      · walk_at "go"
        refine w_itn (fun _ => ?_) fun c2 => absurd (show 1 ≤ l.length ∧ l.length ≤ 999 by omega) hn
        walk_at "go"
        exact ⟨_, rfl, _, rfl, fun d hd => o _ d f1 hd⟩
      · walk_at "go"
        exact ⟨_, rfl, _, rfl, fun d hd => o _ d f1 hd⟩
def sp_frames_in (K : PySem.W.Frag) (C : Addr) : Sp := fun vs H Q E => ∃ (v : V), vs = [v] ∧ ((∃ l, v = .str (S l) ∧ l.length ≤ 50000 ∧ ∀ p q H' ts e, Ps l ts e → e ≤ l.length → ts.length ≤ l.length → Fr none H H' → H' p = some (.tup [.ref q, .int (e : Nat)]) → H' q = some (.tup (txs ts)) → Q (.ref p) H') ∨
  (NoStr K H v ∧ Odd C H v E))
theorem ok_frames_in (T : Txt K mg) : FnOk P w K mg base (L2.CX P w) 6 T.a_frames_in T.d_frames_in ["text"] (sp_frames_in K T.C_InvalidText) := by
  have G_check_text : FnOk P w K mg base (L2.CX P w) 3 T.a_check_text T.d_check_text ["text"] (sp_check_text K T.C_InvalidText) := ok_check_text T
  have G_frames_by : FnOk P w K mg base CX0 3 T.a_frames_by T.d_frames_by ["stream"] sp_frames_by := ok_frames_by T
  refine T.F_frames_in.okX sc_frames_in (fun vs H Q E h => ?_) (fun cdv A outer s H vs Q E hr h => ⟨_, (pss_cons (ps_expr (pe_call G_check_text (hr.mono (by decide)) rfl T.g_check_text T.F_check_text.kp T.b_check_text .nil (passes_call (W := fun cls d _ H => E cls d H) (takes_of rfl rfl rfl rfl) (fun _ _ _ _ h => h)) (pa_cons (pv 0) pa_nil)))
    (pss_cons (ps_asg (pe_call G_frames_by (hr.mono (by decide)) rfl T.g_frames_by T.F_frames_by.kp T.b_frames_by .nil pass0 (pa_cons (pv 0) pa_nil)) (pg_tupK (K := K) (n := 2) rfl rfl (pgs_cons (pg_name (i := 1) sc_frames_in.nd rfl (Or.inl rfl)) (pgs_cons (pg_name (i := 2) sc_frames_in.nd rfl (Or.inl rfl)) pgs_nil))))
    (pss_one (ps_ret (pe_tup (pa_cons (pe_callTy (call_tuple_ofK (K := K) rfl) (by rfl) T.n_tuple (by decide +kernel) (pa_cons (pv 1) pa_nil)) (pa_cons (pv 2) pa_nil))))))), ?_⟩)
  · obtain ⟨v, rfl, _⟩ := h
    rfl
  · obtain ⟨v, rfl, h⟩ := h
    rcases h with ⟨l, rfl, hl, k⟩ | ⟨h, o⟩
    · walk_at "go"
      refine ⟨.str (S l), rfl, .inl ⟨⟨_, rfl⟩, fun H1 f1 => ?_⟩⟩
      walk_at "go"
      refine ⟨l, rfl, hl, fun p f H2 ts e hp he hts f2 h1 h2 => ?_⟩
      refine w_gtup (SqT.of h1) rfl ?_
      walk_at "go"
      refine w_tupL (SqL.of h2) fun q hq => ?_
      walk_at "go"
      intro r hr'
      have nqr : q ≠ r := fun z => by
        rw [z, upd_same] at hr'
        cases hr'
      refine k r q _ ts e hp he hts ((f1.trans f2).trans ((Fr.new hq).trans (Fr.new hr'))) upd_same ?_
      rw [upd_ne nqr, upd_same]
    · walk_at "go"
      exact ⟨v, rfl, .inr ⟨h, o⟩⟩
def sp_opened (K : PySem.W.Frag) (C : Addr) : Sp := fun vs H _ E => ∃ (v : V), vs = [v] ∧ Told K H v sg false ∧ Odd C H v E
theorem ok_opened (T : Txt K mg) : FnOk P w K mg base (L2.CX P w) 8 T.a_opened T.d_opened ["log"] (sp_opened K T.C_InvalidText) := by
  have G_check_signs : FnOk P w K mg base (L2.CX P w) 5 T.a_check_signs T.d_check_signs ["text"] (sp_check_signs K T.C_InvalidText) := ok_check_signs T
  refine T.F_opened.okX sc_opened (fun vs H Q E h => ?_) (fun cdv A outer s H vs Q E hr h => ⟨_, (pss_cons (ps_expr (pe_call G_check_signs (hr.mono (by decide)) rfl T.g_check_signs T.F_check_signs.kp T.b_check_signs .nil (passes_call (W := fun cls d _ H => E cls d H) (takes_of rfl rfl rfl rfl) (fun _ _ _ _ h => h)) (pa_cons (pv 0) pa_nil)))
    (pss_cons ps_never
    (pss_one ps_never))), ?_⟩)
  · obtain ⟨v, rfl, _⟩ := h
    rfl
  · obtain ⟨v, rfl, h, o⟩ := h
    walk_at "go"
    exact ⟨v, false, rfl, h, (fun z => by cases z), fun _ => o⟩
end K28

set_option Elab.async false
set_option linter.all false
set_option maxRecDepth 100000
set_option maxHeartbeats 4000000
namespace K28
open PySem PySem.Spec PyProof.Rows L2 Xr Vc Tx M28
variable {P : Program} {w : World} {K : PySem.W.Frag} {mg : Str → Option Value} {base : Heap}
local macro_rules | `(tactic| walk_at "go1") => `(tactic| first
  | with_reducible refine w_seq ?_ | with_reducible refine w_asg ?_ | with_reducible refine w_asgG ?_ | with_reducible refine w_next ?_ | with_reducible refine w_parS ?_ | with_reducible refine w_par ?_ | with_reducible refine w_par3S ?_ | with_reducible refine w_par3 ?_ | with_reducible refine w_ret ?_ | with_reducible refine w_retN ?_ | with_reducible refine w_drop ?_ | with_reducible refine w_ifS ?_
  | with_reducible refine w_var (by with_unfolding_all exact rfl) ?_ | with_reducible refine w_c ?_ | with_reducible refine w_op ?_ | with_reducible refine w_un ?_ | with_reducible refine w_chain ?_ | with_reducible refine w_I0 ?_ | with_reducible refine w_U ?_
  | with_reducible refine w_eq (by with_unfolding_all exact rfl) ?_ | with_reducible refine w_ne (by with_unfolding_all exact rfl) ?_ | with_reducible refine w_isN ?_ | with_reducible refine w_notN ?_
  | with_reducible refine w_cb ?_ | with_reducible refine w_nil ?_ | with_reducible refine w_cons ?_ | with_reducible refine w_call ?_ | with_reducible refine w_callW ?_ | with_reducible refine w_int ?_ | with_reducible refine w_abs ?_ | with_reducible refine w_max2 ?_ | with_reducible refine w_min2 ?_
  | with_reducible refine w_test ?_ | with_reducible refine w_tB ?_ | with_reducible refine w_bl ?_ | with_reducible refine w_blE ?_ | with_reducible refine w_and ?_ | with_reducible refine w_or ?_ | with_reducible refine w_not ?_ | with_reducible refine w_andV ?_ | with_reducible refine w_orV ?_ | with_reducible refine w_notV ?_ | with_reducible refine w_ifE ?_ | with_reducible refine w_yes ?_
  | with_reducible refine w_tup ?_ | with_reducible refine w_lst ?_ | with_reducible refine w_bm ?_ | with_reducible refine w_bm0 ?_ | with_reducible refine w_sl ?_ | with_reducible refine w_noPart ?_ | with_reducible refine w_part ?_ | with_reducible refine w_partI ?_ | with_reducible refine lc_of ?_
  | with_reducible refine w_I (by with_unfolding_all (show (0 : Int) < _; decide)) ?_ | with_reducible refine w_iStr ?_ | with_reducible refine w_strE ?_ | with_reducible refine w_iList ?_ | with_reducible refine w_iTup ?_ | with_reducible refine w_iRng1 ?_ | with_reducible refine w_iEnumS ?_ | with_reducible refine w_enumSE ?_ | with_reducible refine w_iEnumS1 ?_ | with_reducible refine w_iEnum ?_ | with_reducible refine for_of ?_ | with_reducible refine w_nT ?_ | with_reducible refine w_nF ?_ | with_reducible refine iteT ?_ | with_reducible refine iteF ?_ | with_reducible refine w_len (by with_unfolding_all exact rfl) ?_ | with_reducible refine w_rfl (by with_unfolding_all exact rfl) ?_ | with_reducible refine ty_strA ?_ | with_reducible refine w_gsub ?_ | with_reducible refine w_gname ?_ | with_reducible refine w_gcons ?_ | with_reducible refine w_gnil ?_ | with_reducible refine w_inS ?_ | with_reducible refine w_niS ?_ | with_reducible refine w_revS ?_)
local macro_rules | `(tactic| walk_at "go") => `(tactic| repeat' (walk_at "go1"))
theorem Bag.frN {H H' : Hp} {b : Addr} (h : Bag H b) (s : Fr none H H') : Bag H' b := h.free s
theorem walk_enumL {K : PySem.W.Frag} {a : Addr} {xs : List V} : Walk (Ite K a) xs.length (fun H => SqL K H a xs) (YPair (fun i => some (.int (i : Nat))) (fun i => xs[i]?)) := walk_enum
def sp_bag (K : PySem.W.Frag) : Sp := fun vs H Q _ => ∃ (a : Addr) (ns : List Int) (k : Nat), vs = [.ref a, .int (k : Nat)] ∧ SqL K H a (ns.map V.int) ∧ ns.length ≤ 100000 ∧ ∀ p H', Fr none H H' → Bag H' p → H p = none → Q (.ref p) H'
theorem ok__law_bag (T : Txt K mg) : FnOk P w K mg base CX0 1 T.a__law_bag T.d__law_bag ["script", "at"] (sp_bag K) := by
  refine T.F__law_bag.ok sc__law_bag (fun vs H Q E h => ?_) (fun cdv A outer s H vs Q E hr h => ⟨_, (pss_cons (ps_set (i := 2) sc__law_bag.nd rfl (Or.inl rfl) (pe_op op_add pe_int (pe_op op_mul pe_int (pv 1))))
    (pss_cons (ps_for PassesOwn.never rfl (pi_enumK (K := K) rfl (by rfl) T.n_enumerate (pa_cons (pe_slice (sl_listK (K := K) rfl) (pv 0) po_none (po_some pe_int)) pa_nil)) (pg_tupK (K := K) (n := 2) rfl rfl (pgs_cons (pg_name (i := 3) sc__law_bag.nd rfl (Or.inl rfl)) (pgs_cons (pg_name (i := 4) sc__law_bag.nd rfl (Or.inl rfl)) pgs_nil))) (pss_one (ps_set (i := 2) sc__law_bag.nd rfl (Or.inl rfl) (pe_op op_mod (pe_callTy call_int1N (by rfl) T.n_int (by decide +kernel) (pa_cons (pe_op op_add (pe_op op_add (pe_op op_add (pe_op op_mul (pv 2) pe_int) (pe_op op_mod (pe_callTy call_int1N (by rfl) T.n_int (by decide +kernel) (pa_cons (pv 4) pa_nil)) pe_int)) (pe_op op_mul pe_int (pv 3))) pe_int) pa_nil)) pe_int))))
    (pss_cons (ps_set (i := 5) sc__law_bag.nd rfl (Or.inl rfl) (pe_ifExp (pt_cmpR op_lt (pv 1) (pe_callB (call_lenK (K := K) rfl) (by rfl) T.n_len PySem.boot_len (pa_cons (pv 0) pa_nil)) (nomark _)) (pe_callTy call_int1N (by rfl) T.n_int (by decide +kernel) (pa_cons (pe_ix (ix_listK (K := K) rfl) (pv 0) (pv 1) (fun _ _ => rfl)) pa_nil)) pe_int))
    (pss_cons (ps_set (i := 6) sc__law_bag.nd rfl (Or.inl rfl) (pe_ifExp (pt_cmpR op_ge (pe_callB call_absN (by rfl) T.n_abs (by decide +kernel) (pa_cons (pv 5) pa_nil)) (pe_op op_pow pe_int pe_int) (nomark _)) (pe_op op_mod (pe_callB call_absN (by rfl) T.n_abs (by decide +kernel) (pa_cons (pv 5) pa_nil)) pe_int) pe_int))
    (pss_one (ps_ret (pe_lst (pa_cons (pv 6) (pa_cons (pe_op op_mod (pe_callTy call_int1N (by rfl) T.n_int (by decide +kernel) (pa_cons (pe_op op_add (pv 2) (pe_op op_mul pe_int (pe_op op_mod (pe_callTy call_int1N (by rfl) T.n_int (by decide +kernel) (pa_cons (pv 5) pa_nil)) pe_int))) pa_nil)) pe_int) (pa_cons pe_int pa_nil)))))))))), ?_⟩)
  · obtain ⟨a, ns, k, rfl, _⟩ := h
    rfl
  · obtain ⟨a, ns, k, rfl, hS, hl, kq⟩ := h
    walk_at "go"
    refine w_I (.inl ⟨by decide, by decide⟩) ?_
    walk_at "go"
    refine w_slL hS fun p hp => ?_
    walk_at "go"
    refine w_enumE (SqL.of upd_same) ?_
    refine for_it (walk_enum (xs := cutV (ns.map V.int) none (some 9))) (fun i σ H' => ∃ (u : Int) (v1 v2 : Option V), σ = [some (.ref a), some (.int (k : Nat)), some (.int u), v1, v2, none, none] ∧ Fr none (upd H p (.lst (cutV (ns.map V.int) none (some 9)))) H') ⟨_, none, none, rfl, Fr.refl _ _⟩ ?_ ?_ ?_
    · rintro i σ H' _ ⟨u, v1, v2, _, f⟩
      exact SqL.of (f _ _ (by simp) upd_same)
    · rintro i x σ H1 H2 hi ⟨u, v1, v2, rfl, f⟩ ⟨t, y, z, rfl, ht, rfl, ey, ez⟩
      cases ey
      obtain ⟨m, rfl⟩ : ∃ m : Int, z = .int m := by
        unfold cutV at ez
        have hm := List.mem_of_mem_drop (List.mem_of_mem_take (List.mem_of_getElem? ez))
        obtain ⟨m, _, e⟩ := List.mem_map.mp hm
        exact ⟨m, e.symm⟩
      refine w_gtup (SqT.of upd_same) rfl ?_
      walk_at "go"
      refine w_I (.inr ⟨by decide, by decide⟩) ?_
      walk_at "go"
      refine w_I (.inl ⟨by decide, by decide⟩) ?_
      walk_at "go"
      exact ⟨_, _, _, rfl, f.then_new ht⟩
    · rintro σ H1 ⟨u, v1, v2, rfl, f⟩
      have f0 : Fr none H H1 := (Fr.new hp).trans f
      have hS1 : SqL K H1 a (ns.map V.int) := f0.sql (by simp) hS
      walk_at "go"
      refine w_lenL hS1 ?_
      walk_at "go"
      refine w_ite (fun c => ?_) fun _ => ?_
      · walk_at "go"
        rw [List.length_map] at c
        obtain ⟨m, hm⟩ : ∃ m, ns[k]? = some m := ⟨_, List.getElem?_eq_getElem (by omega)⟩
        refine w_ixL (v := .int m) hS1 (atI_nat (by rw [List.getElem?_map, hm]; rfl)) ?_
        walk_at "go"
        refine w_I ⟨by decide, by decide, by decide⟩ ?_
        walk_at "go"
        refine w_ite (fun _ => ?_) fun _ => ?_
        all_goals
          walk_at "go"
          refine w_I (.inl ⟨by decide, by decide⟩) ?_
          walk_at "go"
          intro q hq
          exact kq q _ (f0.trans (Fr.new hq)) ⟨_, _, 0, by first | exact Int.emod_nonneg _ (by decide) | decide, by first | exact Int.lt_trans (Int.emod_lt_of_pos _ (by decide)) (by decide) | decide, Int.emod_nonneg _ (by decide), Int.emod_lt_of_pos _ (by decide), Int.le_refl _, upd_same⟩ (f0.back hq)
      · walk_at "go"
        refine w_I ⟨by decide, by decide, by decide⟩ ?_
        walk_at "go"
        refine w_ite (fun _ => ?_) fun _ => ?_
        all_goals
          walk_at "go"
          refine w_I (.inl ⟨by decide, by decide⟩) ?_
          walk_at "go"
          intro q hq
          exact kq q _ (f0.trans (Fr.new hq)) ⟨_, _, 0, by first | exact Int.emod_nonneg _ (by decide) | decide, by first | exact Int.lt_trans (Int.emod_lt_of_pos _ (by decide)) (by decide) | decide, Int.emod_nonneg _ (by decide), Int.emod_lt_of_pos _ (by decide), Int.le_refl _, upd_same⟩ (f0.back hq)
def sp_one (K : PySem.W.Frag) : Sp := fun vs H Q _ => ∃ (b : Addr) (sv : V), vs = [.ref b, sv] ∧ Bag H b ∧
  ((∃ l, sv = .str (S l) ∧ 0 < l.length ∧ l.length < 100000 ∧ ∀ c H', c ∈ l → Fr (some b) H H' → Bag H' b → Q (.str (S [c])) H') ∨
   ∃ a xs, sv = .ref a ∧ SqL K H a xs ∧ a ≠ b ∧ 0 < xs.length ∧ xs.length < 100000 ∧ ∀ x H', x ∈ xs → Fr (some b) H H' → Bag H' b → Q x H')
theorem ok__law_one (T : Txt K mg) : FnOk P w K mg base CX0 2 T.a__law_one T.d__law_one ["bag", "some"] (sp_one K) := by
  have G__law_draw : FnOk P w K mg base CX0 1 T.a__law_draw T.d__law_draw ["bag", "many"] sp_draw := ok__law_draw T
  refine T.F__law_one.ok sc__law_one (fun vs H Q E h => ?_) (fun cdv A outer s H vs Q E hr h => ⟨_, (pss_one (ps_ret (pe_ix (ix_seqK (K := K) rfl) (pv 1) (pe_call G__law_draw (hr.mono (by decide)) rfl T.g__law_draw T.F__law_draw.kp T.b__law_draw .nil pass0 (pa_cons (pv 0) (pa_cons (pe_callB (call_lenK (K := K) rfl) (by rfl) T.n_len PySem.boot_len (pa_cons (pv 1) pa_nil)) pa_nil))) (fun _ _ => rfl)))), ?_⟩)
  · obtain ⟨b, sv, rfl, _⟩ := h
    rfl
  · obtain ⟨b, sv, rfl, B, h⟩ := h
    rcases h with ⟨l, rfl, l0, l1, k⟩ | ⟨a, xs, rfl, hS, ne, l0, l1, k⟩
    · have hz : (S l).length ≤ sizeLine := by rw [S_len, sizeLine_eq]; omega
      walk_at "go"
      refine w_lenZ hz ?_
      rw [S_len]
      walk_at "go"
      refine ⟨b, _, rfl, B, by omega, by omega, fun r H1 hr' f1 B1 => ?_⟩
      have hr2 : r < l.length := by omega
      refine .inr (.inr (w_ixS (c := l[r]) hz (by rw [S_list]; exact atI_nat (List.getElem?_eq_getElem hr2)) ?_))
      exact k _ _ (List.getElem_mem hr2) f1 B1
    · walk_at "go"
      refine w_lenL hS ?_
      walk_at "go"
      refine ⟨b, _, rfl, B, by omega, by omega, fun r H1 hr' f1 B1 => ?_⟩
      have hr2 : r < xs.length := by omega
      refine .inl (w_ixL (v := xs[r]) (f1.sql (fun z => ne (Option.some.inj z).symm) hS) (atI_nat (List.getElem?_eq_getElem hr2)) ?_)
      exact k _ _ (List.getElem_mem hr2) f1 B1
def sp_signs : Sp := fun vs H Q _ => vs = [] ∧ Q (.str (S sg)) H
theorem ok__law_signs (T : Txt K mg) : FnOk P w K mg base CX0 1 T.a__law_signs T.d__law_signs [] sp_signs := by
  refine T.F__law_signs.ok sc__law_signs (fun vs H Q E h => ?_) (fun cdv A outer s H vs Q E hr h => ⟨_, (pss_one (ps_ret pe_str)), ?_⟩)
  · obtain ⟨rfl, _⟩ := h
    rfl
  · obtain ⟨rfl, k⟩ := h
    walk_at "go"
    rw [sg_str]
    exact k
end K28

set_option Elab.async false
set_option linter.all false
set_option maxRecDepth 100000
set_option maxHeartbeats 4000000
namespace K28
open PySem PySem.Spec PyProof.Rows L2 Xr Vc Tx M28
variable {P : Program} {w : World} {K : PySem.W.Frag} {mg : Str → Option Value} {base : Heap}
local macro_rules | `(tactic| walk_at "go1") => `(tactic| first
  | with_reducible refine w_seq ?_ | with_reducible refine w_asg ?_ | with_reducible refine w_asgG ?_ | with_reducible refine w_next ?_ | with_reducible refine w_parS ?_ | with_reducible refine w_par ?_ | with_reducible refine w_par3S ?_ | with_reducible refine w_par3 ?_ | with_reducible refine w_ret ?_ | with_reducible refine w_retN ?_ | with_reducible refine w_drop ?_ | with_reducible refine w_ifS ?_
  | with_reducible refine w_var (by with_unfolding_all exact rfl) ?_ | with_reducible refine w_c ?_ | with_reducible refine w_op ?_ | with_reducible refine w_un ?_ | with_reducible refine w_chain ?_ | with_reducible refine w_I0 ?_ | with_reducible refine w_U ?_
  | with_reducible refine w_eq (by with_unfolding_all exact rfl) ?_ | with_reducible refine w_ne (by with_unfolding_all exact rfl) ?_ | with_reducible refine w_isN ?_ | with_reducible refine w_notN ?_
  | with_reducible refine w_cb ?_ | with_reducible refine w_nil ?_ | with_reducible refine w_cons ?_ | with_reducible refine w_call ?_ | with_reducible refine w_callW ?_ | with_reducible refine w_int ?_ | with_reducible refine w_abs ?_ | with_reducible refine w_max2 ?_ | with_reducible refine w_min2 ?_
  | with_reducible refine w_test ?_ | with_reducible refine w_tB ?_ | with_reducible refine w_bl ?_ | with_reducible refine w_blE ?_ | with_reducible refine w_and ?_ | with_reducible refine w_or ?_ | with_reducible refine w_not ?_ | with_reducible refine w_andV ?_ | with_reducible refine w_orV ?_ | with_reducible refine w_notV ?_ | with_reducible refine w_ifE ?_ | with_reducible refine w_yes ?_
  | with_reducible refine w_tup ?_ | with_reducible refine w_lst ?_ | with_reducible refine w_bm ?_ | with_reducible refine w_bm0 ?_ | with_reducible refine w_sl ?_ | with_reducible refine w_noPart ?_ | with_reducible refine w_part ?_ | with_reducible refine w_partI ?_ | with_reducible refine lc_of ?_
  | with_reducible refine w_I (by with_unfolding_all (show (0 : Int) < _; decide)) ?_ | with_reducible refine w_iStr ?_ | with_reducible refine w_strE ?_ | with_reducible refine w_iList ?_ | with_reducible refine w_iTup ?_ | with_reducible refine w_iRng1 ?_ | with_reducible refine w_iEnumS ?_ | with_reducible refine w_enumSE ?_ | with_reducible refine w_iEnumS1 ?_ | with_reducible refine w_iEnum ?_ | with_reducible refine for_of ?_ | with_reducible refine w_nT ?_ | with_reducible refine w_nF ?_ | with_reducible refine iteT ?_ | with_reducible refine iteF ?_ | with_reducible refine w_len (by with_unfolding_all exact rfl) ?_ | with_reducible refine w_rfl (by with_unfolding_all exact rfl) ?_ | with_reducible refine ty_strA ?_ | with_reducible refine w_gsub ?_ | with_reducible refine w_gname ?_ | with_reducible refine w_gcons ?_ | with_reducible refine w_gnil ?_ | with_reducible refine w_inS ?_ | with_reducible refine w_niS ?_ | with_reducible refine w_revS ?_)
local macro_rules | `(tactic| walk_at "go") => `(tactic| repeat' (walk_at "go1"))
def sp_lframe : Sp := fun vs H Q _ => ∃ (l : List Nat), vs = [.str (S l)] ∧ Ok l ∧ ∀ H', Fr none H H' → Q (.str (S (fr l))) H'
theorem ok__law_frame (T : Txt K mg) : FnOk P w K mg base CX0 1 T.a__law_frame T.d__law_frame ["text"] sp_lframe := by
  refine T.F__law_frame.ok sc__law_frame (fun vs H Q E h => ?_) (fun cdv A outer s H vs Q E hr h => ⟨_, (pss_cons (ps_set (i := 1) sc__law_frame.nd rfl (Or.inr rfl) pe_str)
    (pss_cons (ps_set (i := 2) sc__law_frame.nd rfl (Or.inl rfl) (pe_callB (cr_sumK (K := K) rfl rfl) (by rfl) T.n_sum (by decide +kernel) (pa_cons (pe_lc (own := [("k", 3), ("sign", 4)]) (tt := tYes) rfl sc__law_frame.nd (pi_enumS (by rfl) T.n_enumerate (pa_cons (pv 0) pa_nil)) (blkOk_by (own := [("k", 3), ("sign", 4)]) (N := ["text", "signs", "check", "k", "sign"]) (sc := defScope s__law_frame) (by decide +kernel)) (fun _ _ _ _ _ => (pg_tupK (K := K) (n := 2) rfl rfl (pgs_cons (pg_name (i := 3) sc__law_frame.nd rfl (Or.inl rfl)) (pgs_cons (pg_name (i := 4) sc__law_frame.nd rfl (Or.inl rfl)) pgs_nil)))) (fun _ _ _ _ _ => pts_nil) (fun _ _ _ _ _ => (pe_op op_mul (pe_op op_add (pv 3) pe_int) (pe_op op_add (pe_bmK (K := K) rfl (pe_bm PySem.F.plainAttrs_str PySem.F.slot_str_index PySem.F.type_str_index mt_sindexK (pv 1) (pa_cons (pv 4) pa_nil))) pe_int)))) pa_nil)))
    (pss_one (ps_ret (pe_op op_add_strN (pe_op op_add_strN (pe_slice sl_str (pe_callTy call_str_intN (by rfl) T.n_str (by decide +kernel) (pa_cons (pe_op op_add pe_int (pe_callB call_len_strN (by rfl) T.n_len PySem.boot_len (pa_cons (pv 0) pa_nil))) pa_nil)) (po_some pe_int) po_none) (pe_slice sl_str (pe_callTy call_str_intN (by rfl) T.n_str (by decide +kernel) (pa_cons (pe_op op_add pe_int (pe_op op_mod (pe_callTy call_int1N (by rfl) T.n_int (by decide +kernel) (pa_cons (pv 2) pa_nil)) pe_int)) pa_nil)) (po_some pe_int) po_none)) (pv 0)))))), ?_⟩)
  · obtain ⟨l, rfl, _⟩ := h
    rfl
  · obtain ⟨l, rfl, ok, k⟩ := h
    have h1 := ok.lo
    have h2 := ok.hi
    walk_at "go"
    refine lc_go walk_enumS (M := none) Bg.none (fun _ _ => trivial) (fun i acc => acc = ((wts l).take i).map V.int) ?_ rfl ?_ ?_
    · rintro i acc _ rfl
      simp only [List.length_map, List.length_take, wts_len]
      omega
    · rintro i x H1 H2 acc Zt Zf hi f B rfl ⟨t, c, rfl, ht, rfl, hc⟩ kt kf
      have hc' := cps_at hc
      refine w_gtup (SqT.of upd_same) rfl ?_
      walk_at "go"
      rw [sg_str]
      obtain ⟨rest, he⟩ := occ_some (mem_sg ok.sg hc')
      refine w_sindex he ?_
      walk_at "go"
      have h38 := ix_lt c (mem_sg ok.sg hc')
      refine w_I (.inr ⟨by omega, by omega⟩) ?_
      refine kt _ _ (Fr.new ht) Bg.none ?_
      rw [take_next (wts_at (by rw [cps_size] at hi; exact hi)), wt_at hc', List.map_append, List.map_cons, List.map_nil, Int.zero_add]
    · rintro p H1 acc hp f B e rfl
      rw [cps_size, List.take_of_length_le (by rw [wts_len]; exact Nat.le_refl _)] at e
      walk_at "go"
      refine w_sum (SqL.of e) ?_
      walk_at "go"
      refine w_lenS (by rw [S_len, sizeLine_eq]; omega) ?_
      rw [S_len]
      walk_at "go"
      refine w_strI (i := 10000 + (l.length : Nat)) (log_small (by omega) (by omega)) ?_
      walk_at "go"
      rw [show (10000 : Int) + (l.length : Nat) = ((10000 + l.length : Nat) : Int) by omega, str_num]
      have n4 : (numL (10000 + l.length)).length ≤ 1000 := by
        have := congrArg List.length (cut4 l.length (by omega))
        rw [List.length_drop, d4_len] at this
        omega
      refine w_slS (by rw [S_len, sizeLine_eq]; omega) ?_
      rw [show (1 : Int) = ((1 : Nat) : Int) from rfl, cut_from, cut4 _ (by omega)]
      walk_at "go"
      have hc := chk_lt l
      rw [wts_sum, show ((csum 0 l : Nat) : Int) % 997 = ((chk l : Nat) : Int) from rfl]
      refine w_strI (i := 1000 + (chk l : Nat)) (log_small (by omega) (by omega)) ?_
      walk_at "go"
      rw [show (1000 : Int) + (chk l : Nat) = ((1000 + chk l : Nat) : Int) by omega, str_num]
      have n3 : (numL (1000 + chk l)).length ≤ 1000 := by
        have := congrArg List.length (cut3 (chk l) (by omega))
        rw [List.length_drop, d3_len] at this
        omega
      refine w_slS (by rw [S_len, sizeLine_eq]; omega) ?_
      rw [cut_from, cut3 _ (by omega)]
      refine w_addS (by rw [S_len, S_len, sizeLine_eq]; simp [d4_len, d3_len]) ?_
      walk_at "go"
      rw [S_app]
      refine w_addS (by rw [S_len, S_len, sizeLine_eq]; simp [d4_len, d3_len]; omega) ?_
      rw [S_app, List.append_assoc]
      exact k _ f
/-- the sign at a place so many further -/
def sp_put : Sp := fun vs H Q _ => ∃ (a m : List Nat) (c : Nat) (d : Int), vs = [.str (S (a ++ c :: m)), .int (a.length : Nat), .int d] ∧ c ∈ sg ∧ (a ++ c :: m).length ≤ 100000 ∧
  ∀ c' H', c' ∈ sg → ((ix c' : Nat) : Int) = ((ix c : Nat) + d) % 38 → Fr none H H' → Q (.str (S (a ++ c' :: m))) H'
theorem ok__law_put_sign (T : Txt K mg) : FnOk P w K mg base CX0 2 T.a__law_put_sign T.d__law_put_sign ["text", "at", "by"] sp_put := by
  have G__law_signs : FnOk P w K mg base CX0 1 T.a__law_signs T.d__law_signs [] sp_signs := ok__law_signs T
  refine T.F__law_put_sign.ok sc__law_put_sign (fun vs H Q E h => ?_) (fun cdv A outer s H vs Q E hr h => ⟨_, (pss_cons (ps_set (i := 3) sc__law_put_sign.nd rfl (Or.inl rfl) (pe_ix ix_str (pe_call0 G__law_signs (hr.mono (by decide)) rfl T.g__law_signs T.F__law_signs.kp T.b__law_signs .nil pass0) (pe_op op_mod (pe_callTy call_int1N (by rfl) T.n_int (by decide +kernel) (pa_cons (pe_op op_add (pe_bmK (K := K) rfl (pe_bm PySem.F.plainAttrs_str PySem.F.slot_str_index PySem.F.type_str_index mt_sindexK (pe_call0 G__law_signs (hr.mono (by decide)) rfl T.g__law_signs T.F__law_signs.kp T.b__law_signs .nil pass0) (pa_cons (pe_ix ix_str (pv 0) (pv 1) (fun _ _ => rfl)) pa_nil))) (pv 2)) pa_nil)) pe_int) (fun _ _ => rfl)))
    (pss_one (ps_ret (pe_op op_add_strN (pe_op op_add_strN (pe_slice sl_str (pv 0) po_none (po_some (pv 1))) (pv 3)) (pe_slice sl_str (pv 0) (po_some (pe_op op_add (pv 1) pe_int)) po_none))))), ?_⟩)
  · obtain ⟨a, m, c, d, rfl, _⟩ := h
    rfl
  · obtain ⟨a, m, c, d, rfl, hc, hl, k⟩ := h
    have hz : (S (a ++ c :: m)).length ≤ sizeLine := by rw [S_len, sizeLine_eq]; omega
    have h38 := ix_lt c hc
    obtain ⟨j, hj⟩ : ∃ j : Nat, (((ix c : Nat) : Int) + d) % 38 = (j : Nat) := ⟨_, (Int.toNat_of_nonneg (Int.emod_nonneg _ (by decide))).symm⟩
    have hj38 : j < 38 := by
      have := Int.emod_lt_of_pos (((ix c : Nat) : Int) + d) (show (0 : Int) < 38 by decide)
      omega
    obtain ⟨c', hc1, hc2, hc3⟩ : ∃ c', sg[j]? = some c' ∧ c' ∈ sg ∧ ix c' = j := by
      have h := at_ix j hj38
      cases e : sg[j]? with
      | none => rw [e] at h; cases h
      | some c' =>
        rw [e] at h
        exact ⟨c', rfl, List.mem_of_getElem? e, Option.some.inj h⟩
    walk_at "go"
    refine ⟨rfl, ?_⟩
    walk_at "go"
    refine ⟨rfl, ?_⟩
    walk_at "go"
    refine w_ixS (c := c) hz (by rw [S_list]; exact atI_nat (by simp)) ?_
    walk_at "go"
    obtain ⟨rest, he⟩ := occ_some hc
    refine w_sindex he ?_
    walk_at "go"
    rw [hj]
    refine w_ixS (c := c') (by rw [S_len, sg_len]; decide) (by rw [S_list]; exact atI_nat hc1) ?_
    walk_at "go"
    refine w_slS hz ?_
    rw [cut_to, List.take_left' rfl]
    walk_at "go"
    rw [S_one]
    simp only [List.length_append, List.length_cons] at hl
    refine w_addS (by rw [S_len, S_len, sizeLine_eq]; simp; omega) ?_
    walk_at "go"
    refine w_slS hz ?_
    rw [show ((a.length : Nat) : Int) + 1 = ((a.length + 1 : Nat) : Int) by omega, cut_from, S_app]
    have e : (a ++ c :: m).drop (a.length + 1) = m := by
      rw [show a ++ c :: m = (a ++ [c]) ++ m by simp, List.drop_left' (by simp)]
    rw [e]
    refine w_addS (by rw [S_len, S_len, sizeLine_eq]; simp; omega) ?_
    rw [S_app, List.append_assoc]
    exact k c' _ hc2 (by rw [hc3, hj]) (Fr.refl _ _)
end K28

set_option Elab.async false
set_option linter.all false
set_option maxRecDepth 100000
set_option maxHeartbeats 4000000
namespace K28
open PySem PySem.Spec PyProof.Rows L2 Xr Vc Tx M28
variable {P : Program} {w : World} {K : PySem.W.Frag} {mg : Str → Option Value} {base : Heap}
local macro_rules | `(tactic| walk_at "go1") => `(tactic| first
  | with_reducible refine w_seq ?_ | with_reducible refine w_asg ?_ | with_reducible refine w_asgG ?_ | with_reducible refine w_next ?_ | with_reducible refine w_parS ?_ | with_reducible refine w_par ?_ | with_reducible refine w_par3S ?_ | with_reducible refine w_par3 ?_ | with_reducible refine w_ret ?_ | with_reducible refine w_retN ?_ | with_reducible refine w_drop ?_ | with_reducible refine w_ifS ?_
  | with_reducible refine w_var (by with_unfolding_all exact rfl) ?_ | with_reducible refine w_c ?_ | with_reducible refine w_op ?_ | with_reducible refine w_un ?_ | with_reducible refine w_chain ?_ | with_reducible refine w_I0 ?_ | with_reducible refine w_U ?_
  | with_reducible refine w_eq (by with_unfolding_all exact rfl) ?_ | with_reducible refine w_ne (by with_unfolding_all exact rfl) ?_ | with_reducible refine w_isN ?_ | with_reducible refine w_notN ?_
  | with_reducible refine w_cb ?_ | with_reducible refine w_nil ?_ | with_reducible refine w_cons ?_ | with_reducible refine w_call ?_ | with_reducible refine w_callW ?_ | with_reducible refine w_int ?_ | with_reducible refine w_abs ?_ | with_reducible refine w_max2 ?_ | with_reducible refine w_min2 ?_
  | with_reducible refine w_test ?_ | with_reducible refine w_tB ?_ | with_reducible refine w_bl ?_ | with_reducible refine w_blE ?_ | with_reducible refine w_and ?_ | with_reducible refine w_or ?_ | with_reducible refine w_not ?_ | with_reducible refine w_andV ?_ | with_reducible refine w_orV ?_ | with_reducible refine w_notV ?_ | with_reducible refine w_ifE ?_ | with_reducible refine w_yes ?_
  | with_reducible refine w_tup ?_ | with_reducible refine w_lst ?_ | with_reducible refine w_bm ?_ | with_reducible refine w_bm0 ?_ | with_reducible refine w_sl ?_ | with_reducible refine w_noPart ?_ | with_reducible refine w_part ?_ | with_reducible refine w_partI ?_ | with_reducible refine lc_of ?_
  | with_reducible refine w_I (by with_unfolding_all (show (0 : Int) < _; decide)) ?_ | with_reducible refine w_iStr ?_ | with_reducible refine w_strE ?_ | with_reducible refine w_iList ?_ | with_reducible refine w_iTup ?_ | with_reducible refine w_iRng1 ?_ | with_reducible refine w_iEnumS ?_ | with_reducible refine w_enumSE ?_ | with_reducible refine w_iEnumS1 ?_ | with_reducible refine w_iEnum ?_ | with_reducible refine for_of ?_ | with_reducible refine w_nT ?_ | with_reducible refine w_nF ?_ | with_reducible refine iteT ?_ | with_reducible refine iteF ?_ | with_reducible refine w_len (by with_unfolding_all exact rfl) ?_ | with_reducible refine w_rfl (by with_unfolding_all exact rfl) ?_ | with_reducible refine ty_strA ?_ | with_reducible refine w_gsub ?_ | with_reducible refine w_gname ?_ | with_reducible refine w_gcons ?_ | with_reducible refine w_gnil ?_ | with_reducible refine w_inS ?_ | with_reducible refine w_niS ?_ | with_reducible refine w_revS ?_)
local macro_rules | `(tactic| walk_at "go") => `(tactic| repeat' (walk_at "go1"))
theorem Bag.dft {H H' : Hp} {b a : Addr} {o : HO} (h : H a = some o) (f : Fr (some b) H H') (n : a ≠ b) : H' a = some o := f _ _ (fun z => n (Option.some.inj z).symm) h
/-- a drawn text -/
def sp_drawn : Sp := fun vs H Q _ => ∃ (b : Addr), vs = [.ref b] ∧ Bag H b ∧ ∀ l H', Ok l → Fr (some b) H H' → Bag H' b → Q (.str (S l)) H'
theorem all_sg {ls : List (List Nat)} (h : ∀ x ∈ ls, ∃ c ∈ sg, x = [c]) : isSg ls.flatten = true := by
  unfold isSg
  rw [List.all_eq_true]
  intro c hc
  obtain ⟨x, hx, hcx⟩ := List.mem_flatten.mp hc
  obtain ⟨d, hd, rfl⟩ := h x hx
  simp at hcx
  rw [hcx]
  exact decide_eq_true hd
theorem len_one {ls : List (List Nat)} (h : ∀ x ∈ ls, ∃ c ∈ sg, x = [c]) : ls.flatten.length = ls.length := by
  induction ls with
  | nil => rfl
  | cons x r ih =>
    obtain ⟨c, _, rfl⟩ := h x List.mem_cons_self
    rw [List.flatten_cons, List.length_append, ih fun y hy => h y (List.mem_cons_of_mem _ hy)]
    simp
    omega
/-- signs drawn one by one -/
def Signs (n : Nat) (acc : List V) : Prop := ∃ ls : List (List Nat), acc = (ls.map S).map V.str ∧ ls.length = n ∧ ∀ x ∈ ls, ∃ c ∈ sg, x = [c]
theorem Signs.next {n : Nat} {acc : List V} {c : Nat} (h : Signs n acc) (hc : c ∈ sg) : Signs (n + 1) (acc ++ [.str (S [c])]) := by
  obtain ⟨ls, rfl, hl, ha⟩ := h
  refine ⟨ls ++ [[c]], by simp, by simp [hl], fun x hx => ?_⟩
  rcases List.mem_append.mp hx with h | h
  · exact ha x h
  · simp at h
    exact ⟨c, hc, h⟩
theorem Signs.len {n : Nat} {acc : List V} (h : Signs n acc) : acc.length = n := by
  obtain ⟨ls, rfl, hl, _⟩ := h
  simp [hl]
theorem isSg_take {l : List Nat} (h : isSg l = true) (n : Nat) : isSg (l.take n) = true := by
  unfold isSg at h ⊢
  rw [List.all_eq_true] at h ⊢
  exact fun c hc => h c (List.mem_of_mem_take hc)
theorem isSg_rep {l : List Nat} (h : isSg l = true) (n : Nat) : isSg (List.replicate n l).flatten = true := by
  unfold isSg at h ⊢
  rw [List.all_eq_true] at h ⊢
  intro c hc
  obtain ⟨x, hx, hcx⟩ := List.mem_flatten.mp hc
  rw [List.eq_of_mem_replicate hx] at hcx
  exact h c hcx
theorem rep_len (l : List Nat) (n : Nat) : (List.replicate n l).flatten.length = n * l.length := by
  simp [List.length_flatten]
theorem sum_one {ls : List (List Nat)} (h : ∀ x ∈ ls, ∃ c ∈ sg, x = [c]) : ((ls.map S).map (·.length)).sum = ls.length := by
  induction ls with
  | nil => rfl
  | cons x r ih =>
    obtain ⟨c, _, rfl⟩ := h x List.mem_cons_self
    rw [List.map_cons, List.map_cons, List.sum_cons, ih fun y hy => h y (List.mem_cons_of_mem _ hy), S_len]
    simp
    omega
theorem empty_S : (Str.ofString "") = S [] := by decide +kernel
theorem ok__law_text_drawn (T : Txt K mg) : FnOk P w K mg base CX0 3 T.a__law_text_drawn T.d__law_text_drawn ["bag"] sp_drawn := by
  have G__law_draw : FnOk P w K mg base CX0 1 T.a__law_draw T.d__law_draw ["bag", "many"] sp_draw := ok__law_draw T
  have G__law_one : FnOk P w K mg base CX0 2 T.a__law_one T.d__law_one ["bag", "some"] (sp_one K) := ok__law_one T
  have G__law_signs : FnOk P w K mg base CX0 1 T.a__law_signs T.d__law_signs [] sp_signs := ok__law_signs T
  refine T.F__law_text_drawn.ok sc__law_text_drawn (fun vs H Q E h => ?_) (fun cdv A outer s H vs Q E hr h => ⟨_, (pss_cons (ps_set (i := 1) sc__law_text_drawn.nd rfl (Or.inl rfl) (pe_call G__law_one (hr.mono (by decide)) rfl T.g__law_one T.F__law_one.kp T.b__law_one .nil pass0 (pa_cons (pv 0) (pa_cons (pe_lst (pa_cons pe_int (pa_cons pe_int (pa_cons pe_int (pa_cons (pe_op op_add pe_int (pe_call G__law_draw (hr.mono (by decide)) rfl T.g__law_draw T.F__law_draw.kp T.b__law_draw .nil pass0 (pa_cons (pv 0) (pa_cons pe_int pa_nil)))) (pa_cons (pe_op op_add pe_int (pe_call G__law_draw (hr.mono (by decide)) rfl T.g__law_draw T.F__law_draw.kp T.b__law_draw .nil pass0 (pa_cons (pv 0) (pa_cons pe_int pa_nil)))) (pa_cons (pe_op op_add pe_int (pe_call G__law_draw (hr.mono (by decide)) rfl T.g__law_draw T.F__law_draw.kp T.b__law_draw .nil pass0 (pa_cons (pv 0) (pa_cons pe_int pa_nil)))) (pa_cons pe_int pa_nil)))))))) pa_nil))))
    (pss_cons (ps_if (pt_cmpR op_lt (pv 1) pe_int (nomark _)) (pss_one (ps_ret (pe_bmK (K := K) rfl (pe_bm PySem.F.plainAttrs_str PySem.F.slot_str_join PySem.F.type_str_join (mt_joinK (K := K) rfl) pe_str (pa_cons (pe_lc (own := [("turn", 3)]) (g := gName 3) (tt := tYes) rfl sc__law_text_drawn.nd (pi_range1 (by rfl) T.n_range (pa_cons (pv 1) pa_nil)) (blkOk_by (own := [("turn", 3)]) (N := ["bag", "many", "few", "turn"]) (sc := defScope s__law_text_drawn) (by decide +kernel)) (fun _ _ _ _ _ => (pg_name (i := 3) sc__law_text_drawn.nd rfl (Or.inl rfl))) (fun _ _ _ _ _ => pts_nil) (fun _ _ _ _ _ => (pe_call G__law_one (hr.mono (by decide)) rfl T.g__law_one T.F__law_one.kp T.b__law_one .nil pass0 (pa_cons (pv 0) (pa_cons (pe_call0 G__law_signs (hr.mono (by decide)) rfl T.g__law_signs T.F__law_signs.kp T.b__law_signs .nil pass0) pa_nil))))) pa_nil))))) pss_nil)
    (pss_cons (ps_set (i := 2) sc__law_text_drawn.nd rfl (Or.inl rfl) (pe_bmK (K := K) rfl (pe_bm PySem.F.plainAttrs_str PySem.F.slot_str_join PySem.F.type_str_join (mt_joinK (K := K) rfl) pe_str (pa_cons (pe_lc (own := [("turn", 3)]) (g := gName 3) (tt := tYes) rfl sc__law_text_drawn.nd (pi_range1 (by rfl) T.n_range (pa_cons pe_int pa_nil)) (blkOk_by (own := [("turn", 3)]) (N := ["bag", "many", "few", "turn"]) (sc := defScope s__law_text_drawn) (by decide +kernel)) (fun _ _ _ _ _ => (pg_name (i := 3) sc__law_text_drawn.nd rfl (Or.inl rfl))) (fun _ _ _ _ _ => pts_nil) (fun _ _ _ _ _ => (pe_call G__law_one (hr.mono (by decide)) rfl T.g__law_one T.F__law_one.kp T.b__law_one .nil pass0 (pa_cons (pv 0) (pa_cons (pe_call0 G__law_signs (hr.mono (by decide)) rfl T.g__law_signs T.F__law_signs.kp T.b__law_signs .nil pass0) pa_nil))))) pa_nil))))
    (pss_one (ps_ret (pe_slice sl_str (pe_op op_mul_strI (pv 2) pe_int) po_none (po_some (pv 1)))))))), ?_⟩)
  · obtain ⟨b, rfl, _⟩ := h
    rfl
  · obtain ⟨b, rfl, B, k⟩ := h
    walk_at "go"
    refine ⟨b, 40, rfl, B, by decide, by decide, fun r1 H1 h1 f1 B1 => ?_⟩
    walk_at "go"
    refine ⟨b, 20, rfl, B1, by decide, by decide, fun r2 H2 h2 f2 B2 => ?_⟩
    walk_at "go"
    refine ⟨b, 10, rfl, B2, by decide, by decide, fun r3 H3 h3 f3 B3 => ?_⟩
    walk_at "go"
    intro p hp
    have nbp : b ≠ p := B3.ne hp
    walk_at "go"
    refine ⟨b, _, rfl, B3.new hp, .inr ⟨p, _, rfl, SqL.of upd_same, Ne.symm nbp, by simp, by simp, fun x H4 hx f4 B4 => ?_⟩⟩
    obtain ⟨n, rfl, n1, n2⟩ : ∃ n : Nat, x = .int (n : Nat) ∧ 1 ≤ n ∧ n ≤ 999 := by
      simp only [List.mem_cons, List.not_mem_nil, or_false] at hx
      rcases hx with rfl | rfl | rfl | rfl | rfl | rfl | rfl
      · exact ⟨1, rfl, by decide, by decide⟩
      · exact ⟨2, rfl, by decide, by decide⟩
      · exact ⟨3, rfl, by decide, by decide⟩
      · exact ⟨1 + r1, by rw [Int.natCast_add]; rfl, by omega, by omega⟩
      · exact ⟨5 + r2, by rw [Int.natCast_add]; rfl, by omega, by omega⟩
      · exact ⟨990 + r3, by rw [Int.natCast_add]; rfl, by omega, by omega⟩
      · exact ⟨999, rfl, by decide, by decide⟩
    have f04 : Fr (some b) H H4 := f1.trans (f2.trans (f3.trans ((Fr.new hp).trans f4)))
    walk_at "go"
    refine w_ite (fun c => ?_) fun c => ?_
    · walk_at "go"
      refine w_rngE (by omega) (by omega) ?_
      refine lc_go (walk_range (lo := 0) (n := n)) (M := some b) (Bg.some B4) (fun _ _ => trivial) (fun i acc => Signs i acc) (fun i acc hi h => by rw [h.len]; omega) ⟨[], rfl, rfl, fun _ h => by cases h⟩ ?_ ?_
      · rintro i x H5 H6 acc Zt Zf hi f B5 p5 ⟨rfl, rfl⟩ kt kf
        walk_at "go"
        refine ⟨rfl, ?_⟩
        walk_at "go"
        refine ⟨b, _, rfl, B5.get, .inl ⟨sg, rfl, by decide, by decide, fun c' H7 hc' f7 B7 => ?_⟩⟩
        exact kt _ _ f7 (Bg.some B7) (p5.next hc')
      · rintro q H5 acc hq f B5 e ⟨ls, rfl, hl, ha⟩
        walk_at "go"
        rw [empty_S]
        have e0 : (S []).length = 0 := rfl
        refine w_join (ys := ls.map S) (SqL.of e) (by rw [sum_one ha, e0]; omega) ?_
        rw [join_S]
        have hlen := len_one ha
        exact k _ _ ⟨all_sg ha, by omega, by omega⟩ (f04.trans f) B5.get
    · walk_at "go"
      refine w_rngE (by decide) (by decide) ?_
      refine lc_go (walk_range (lo := 0) (n := 7)) (M := some b) (Bg.some B4) (fun _ _ => trivial) (fun i acc => Signs i acc) (fun i acc hi h => by rw [h.len]; omega) ⟨[], rfl, rfl, fun _ h => by cases h⟩ ?_ ?_
      · rintro i x H5 H6 acc Zt Zf hi f B5 p5 ⟨rfl, rfl⟩ kt kf
        walk_at "go"
        refine ⟨rfl, ?_⟩
        walk_at "go"
        refine ⟨b, _, rfl, B5.get, .inl ⟨sg, rfl, by decide, by decide, fun c' H7 hc' f7 B7 => ?_⟩⟩
        exact kt _ _ f7 (Bg.some B7) (p5.next hc')
      · rintro q H5 acc hq f B5 e ⟨ls, rfl, hl, ha⟩
        walk_at "go"
        rw [empty_S]
        have e0 : (S []).length = 0 := rfl
        refine w_join (ys := ls.map S) (SqL.of e) (by rw [sum_one ha, e0]; omega) ?_
        rw [join_S]
        have hlen := len_one ha
        walk_at "go"
        refine w_mulS (n := ((200 : Nat) : Int)) (mul_ok (by rw [S_len]; omega) (by decide)) ?_
        rw [mul_S]
        have hrep := rep_len ls.flatten 200
        walk_at "go"
        refine w_slS (by rw [S_len, sizeLine_eq]; omega) ?_
        rw [cut_to]
        have htl : ((List.replicate 200 ls.flatten).flatten.take n).length = n := by rw [List.length_take]; omega
        exact k _ _ ⟨isSg_take (isSg_rep (all_sg ha) 200) n, by omega, by omega⟩ (f04.trans f) B5.get
theorem set_len {a m : List Nat} {c c' : Nat} : (a ++ c' :: m).length = (a ++ c :: m).length := by simp
theorem isSg_mid {a m : List Nat} {c : Nat} : isSg (a ++ c :: m) = true ↔ isSg a = true ∧ c ∈ sg ∧ isSg m = true := by
  simp only [isSg, List.all_append, List.all_cons, Bool.and_eq_true, decide_eq_true_eq]
theorem split_at {l : List Nat} {i c : Nat} (h : l[i]? = some c) : l = l.take i ++ c :: l.drop (i + 1) := by
  obtain ⟨hi, e⟩ := List.getElem?_eq_some_iff.mp h
  rw [← e, List.getElem_cons_drop, List.take_append_drop]
/-- a text with the same check -/
def sp_kept : Sp := fun vs H Q _ => ∃ (b : Addr) (l : List Nat), vs = [.ref b, .str (S l)] ∧ Bag H b ∧ Ok l ∧ ∀ l' H', Ok l' → l'.length = l.length → chk l' = chk l → Fr (some b) H H' → Bag H' b → Q (.str (S l')) H'
theorem csum_two {a m m2 : List Nat} {c c' d d' : Nat} : (csum 0 (a ++ c' :: (m ++ d' :: m2)) : Int) - csum 0 (a ++ c :: (m ++ d :: m2)) = (a.length + 1) * ((ix c' : Int) - ix c) + (a.length + 1 + m.length + 1) * ((ix d' : Int) - ix d) := by
  rw [csum_app, csum_app]
  simp only [csum, Nat.zero_add]
  rw [csum_app, csum_app]
  simp only [csum]
  push_cast
  simp only [Int.mul_sub, Int.mul_add]
  omega
theorem ok__law_kept_check (T : Txt K mg) : FnOk P w K mg base CX0 3 T.a__law_kept_check T.d__law_kept_check ["bag", "text"] sp_kept := by
  have G__law_draw : FnOk P w K mg base CX0 1 T.a__law_draw T.d__law_draw ["bag", "many"] sp_draw := ok__law_draw T
  have G__law_put_sign : FnOk P w K mg base CX0 2 T.a__law_put_sign T.d__law_put_sign ["text", "at", "by"] sp_put := ok__law_put_sign T
  have G__law_signs : FnOk P w K mg base CX0 1 T.a__law_signs T.d__law_signs [] sp_signs := ok__law_signs T
  refine T.F__law_kept_check.ok sc__law_kept_check (fun vs H Q E h => ?_) (fun cdv A outer s H vs Q E hr h => ⟨_, (pss_cons (ps_for PassesOwn.never rfl (pi_range1 (by rfl) T.n_range (pa_cons (pe_op op_fdiv (pe_callB call_len_strN (by rfl) T.n_len PySem.boot_len (pa_cons (pv 1) pa_nil)) pe_int) pa_nil)) (pg_name (i := 2) sc__law_kept_check.nd rfl (Or.inl rfl)) (pss_cons (ps_set (i := 3) sc__law_kept_check.nd rfl (Or.inl rfl) (pe_op op_modN (pe_callTy call_int1N (by rfl) T.n_int (by decide +kernel) (pa_cons (pe_op op_add (pv 2) (pe_call G__law_draw (hr.mono (by decide)) rfl T.g__law_draw T.F__law_draw.kp T.b__law_draw .nil pass0 (pa_cons (pv 0) (pa_cons pe_int pa_nil)))) pa_nil)) (pe_callB (call_max2N rfl) (by rfl) T.n_max (by decide +kernel) (pa_cons pe_int (pa_cons (pe_op op_fdiv (pe_callB call_len_strN (by rfl) T.n_len PySem.boot_len (pa_cons (pv 1) pa_nil)) pe_int) pa_nil)))))
    (pss_cons (ps_asg (pe_lc (own := [("spot", 6)]) (g := gName 6) (tt := tYes) rfl sc__law_kept_check.nd (pi_tupK (K := K) rfl (pe_tup (pa_cons (pv 3) (pa_cons (pe_op op_add (pe_op op_mul pe_int (pv 3)) pe_int) pa_nil)))) (blkOk_by (own := [("spot", 6)]) (N := ["bag", "text", "turn", "at", "one", "two", "spot"]) (sc := defScope s__law_kept_check) (by decide +kernel)) (fun _ _ _ _ _ => (pg_name (i := 6) sc__law_kept_check.nd rfl (Or.inl rfl))) (fun _ _ _ _ _ => pts_nil) (fun _ _ _ _ _ => (pe_bmK (K := K) rfl (pe_bm PySem.F.plainAttrs_str PySem.F.slot_str_index PySem.F.type_str_index mt_sindexK (pe_call0 G__law_signs (hr.mono (by decide)) rfl T.g__law_signs T.F__law_signs.kp T.b__law_signs .nil pass0) (pa_cons (pe_ix ix_str (pv 1) (pv 6) (fun _ _ => rfl)) pa_nil))))) (pg_lstK (K := K) (n := 2) rfl rfl (pgs_cons (pg_name (i := 4) sc__law_kept_check.nd rfl (Or.inl rfl)) (pgs_cons (pg_name (i := 5) sc__law_kept_check.nd rfl (Or.inl rfl)) pgs_nil))))
    (pss_one (ps_if (PW.pt (pw_and (pt_cmpR op_lt (pe_op op_add (pv 4) pe_int) pe_int (nomark _)) (pw_and1 (pt_cmpR op_gt (pv 5) pe_int (nomark _))))) (pss_one (ps_ret (pe_call G__law_put_sign (hr.mono (by decide)) rfl T.g__law_put_sign T.F__law_put_sign.kp T.b__law_put_sign .nil pass0 (pa_cons (pe_call G__law_put_sign (hr.mono (by decide)) rfl T.g__law_put_sign T.F__law_put_sign.kp T.b__law_put_sign .nil pass0 (pa_cons (pv 1) (pa_cons (pv 3) (pa_cons pe_int pa_nil)))) (pa_cons (pe_op op_add (pe_op op_mul pe_int (pv 3)) pe_int) (pa_cons (pe_un un_neg pe_int) pa_nil)))))) pss_nil)))))
    (pss_one (ps_ret (pv 1)))), ?_⟩)
  · obtain ⟨b, l, rfl, _⟩ := h
    rfl
  · obtain ⟨b, l, rfl, B, ok, k⟩ := h
    have h1 := ok.lo
    have h2 := ok.hi
    have hz : (S l).length ≤ sizeLine := by rw [S_len, sizeLine_eq]; omega
    walk_at "go"
    refine w_lenS hz ?_
    rw [S_len]
    walk_at "go"
    refine w_I ⟨by decide, by decide⟩ ?_
    walk_at "go"
    refine w_rngE (by omega) (by omega) ?_
    refine for_it (walk_range (lo := 0) (n := ((l.length : Nat) / 2 : Int).toNat)) (fun i σ H' => ∃ v1 v2 v3 v4 v5, σ = [some (.ref b), some (.str (S l)), v1, v2, v3, v4, v5] ∧ Fr (some b) H H' ∧ Bag H' b) ⟨none, none, none, none, none, rfl, Fr.refl _ _, B⟩ (fun _ _ _ _ _ => trivial) ?_ ?_
    · rintro i x σ H1 H2 hi ⟨v1, v2, v3, v4, v5, rfl, f, B1⟩ ⟨rfl, rfl⟩
      walk_at "go"
      refine ⟨b, 7, rfl, B1, by decide, by decide, fun r H3 hr3 f3 B3 => ?_⟩
      walk_at "go"
      refine w_lenS hz ?_
      rw [S_len]
      walk_at "go"
      refine w_I ⟨by decide, by decide⟩ ?_
      walk_at "go"
      have hmax : (if (l.length : Int) / 2 > 1 then (l.length : Int) / 2 else 1) = ((max 1 (l.length / 2) : Nat) : Int) := by
        split <;> omega
      rw [hmax]
      refine w_I (by omega) ?_
      rw [Int.fmod_eq_emod_of_nonneg _ (by omega)]
      obtain ⟨at_, hat, hat2⟩ : ∃ a : Nat, (0 + (i : Int) + (r : Int)) % ((max 1 (l.length / 2) : Nat) : Int) = (a : Nat) ∧ 2 * a + 1 < l.length := by
        have hpos : (0 : Int) < ((max 1 (l.length / 2) : Nat) : Int) := by omega
        have := Int.emod_lt_of_pos (0 + (i : Int) + (r : Int)) hpos
        have h0 := Int.emod_nonneg (0 + (i : Int) + (r : Int)) (b := ((max 1 (l.length / 2) : Nat) : Int)) (by omega)
        exact ⟨_, (Int.toNat_of_nonneg h0).symm, by omega⟩
      rw [hat]
      walk_at "go"
      refine w_I (.inl ⟨by decide, by decide⟩) ?_
      walk_at "go"
      intro p hp
      have nbp : b ≠ p := B3.ne hp
      rw [show (2 : Int) * (at_ : Nat) + 1 = ((2 * at_ + 1 : Nat) : Int) by omega]
      refine w_tupE (SqT.of upd_same) ?_
      obtain ⟨c0, e0⟩ : ∃ c, l[at_]? = some c := ⟨_, List.getElem?_eq_getElem (by omega)⟩
      obtain ⟨c1, e1⟩ : ∃ c, l[2 * at_ + 1]? = some c := ⟨_, List.getElem?_eq_getElem hat2⟩
      have m0 := mem_sg ok.sg e0
      have m1 := mem_sg ok.sg e1
      have h0 := ix_lt c0 m0
      have h1' := ix_lt c1 m1
      refine lc_go (walk_tup (xs := [.int (at_ : Nat), .int (2 * at_ + 1 : Nat)])) (M := some b) (Bg.some (B3.new hp)) (fun H' f' => SqT.of (f' _ _ (fun z => nbp (Option.some.inj z)) upd_same)) (fun i acc => acc = (([ix c0, ix c1] : List Nat).take i).map fun (n : Nat) => V.int n) ?_ rfl ?_ ?_
      · rintro i acc hi rfl
        simp
        omega
      · rintro j x H5 H6 acc Zt Zf hj f5 B5 rfl ⟨rfl, hx⟩ kt kf
        walk_at "go"
        refine ⟨rfl, ?_⟩
        walk_at "go"
        match j, hj, hx with
        | 0, _, hx =>
          cases hx
          refine w_ixS (c := c0) hz (by rw [S_list]; exact atI_nat e0) ?_
          walk_at "go"
          obtain ⟨rest, he⟩ := occ_some m0
          exact w_sindex he (kt _ _ (Fr.refl _ _) B5 rfl)
        | 1, _, hx =>
          cases hx
          refine w_ixS (c := c1) hz (by rw [S_list]; exact atI_nat e1) ?_
          walk_at "go"
          obtain ⟨rest, he⟩ := occ_some m1
          exact w_sindex he (kt _ _ (Fr.refl _ _) B5 rfl)
      · rintro q H5 acc hq f5 B5 e rfl
        refine w_glst (SqL.of e) rfl ?_
        show gCons (gName 4) (gCons (gName 5) gNil) [V.int ((ix c0 : Nat) : Int), V.int ((ix c1 : Nat) : Int)] _ _ _
        have f05 : Fr (some b) H H5 := f.trans (f3.trans ((Fr.new hp).trans f5))
        walk_at "go"
        have next : ∀ σ' : L2.St, (∃ v1 v2 v3 v4 v5 : Option V, σ' = ([some (V.ref b), some (V.str (S l)), v1, v2, v3, v4, v5] : L2.St)) → ∃ v1 v2 v3 v4 v5 : Option V, σ' = ([some (V.ref b), some (V.str (S l)), v1, v2, v3, v4, v5] : L2.St) ∧ Fr (some b) H H5 ∧ Bag H5 b := by
          rintro σ' ⟨v1, v2, v3, v4, v5, rfl⟩
          exact ⟨v1, v2, v3, v4, v5, rfl, f05, B5.get⟩
        refine w_ite (fun c2 => ?_) fun c2 => ?_
        · walk_at "go"
          refine w_ite (fun c3 => ?_) fun c3 => ?_
          · walk_at "go"
            -- both signs are put
            have sp0 := split_at e0
            generalize ea : l.take at_ = a at sp0
            generalize em : l.drop (at_ + 1) = m at sp0
            have la : a.length = at_ := by rw [← ea, List.length_take]; omega
            have e1' : m[at_]? = some c1 := by
              rw [← em, List.getElem?_drop, show at_ + 1 + at_ = 2 * at_ + 1 by omega]
              exact e1
            have sp1 := split_at e1'
            generalize ea1 : m.take at_ = a1 at sp1
            generalize em1 : m.drop (at_ + 1) = m2 at sp1
            have lm : at_ < m.length := (List.getElem?_eq_some_iff.mp e1').1
            have la1 : a1.length = at_ := by rw [← ea1, List.length_take]; omega
            have hs := ok.sg
            rw [sp0] at hs
            obtain ⟨s1, s2, s3⟩ := isSg_mid.mp hs
            rw [sp1] at s3
            obtain ⟨s4, s5, s6⟩ := isSg_mid.mp s3
            have hll : l.length = a.length + 1 + m.length := by rw [sp0]; simp; omega
            have hml : m.length = a1.length + 1 + m2.length := by rw [sp1]; simp; omega
            refine ⟨a, m, c0, 2, by rw [← sp0, la]; rfl, m0, by rw [← sp0]; omega, fun c0' H6 k0 k1 f6 => ?_⟩
            walk_at "go"
            refine w_I (.inl ⟨by decide, by decide⟩) ?_
            walk_at "go"
            rw [sp1]
            have c2' : ((ix c0 : Nat) : Int) + 2 < 38 := c2
            have c3' : (0 : Int) < ((ix c1 : Nat) : Int) := c3
            refine ⟨a ++ c0' :: a1, m2, c1, -1, ?_, m1, by simp; omega, fun c1' H7 k2 k3 f7 => ?_⟩
            · rw [List.append_assoc, List.cons_append, show (a ++ c0' :: a1).length = 2 * at_ + 1 by simp; omega]
              rw [show (2 : Int) * (at_ : Nat) + 1 = ((2 * at_ + 1 : Nat) : Int) by omega]
              rfl
            · have e2 : ((a ++ c0' :: a1) ++ c1' :: m2) = a ++ c0' :: (a1 ++ c1' :: m2) := by simp
              rw [e2]
              have hl' : (a ++ c0' :: (a1 ++ c1' :: m2)).length = l.length := by
                simp only [List.length_append, List.length_cons]
                omega
              refine k _ _ ⟨isSg_mid.mpr ⟨s1, k0, isSg_mid.mpr ⟨s4, k2, s6⟩⟩, by omega, by omega⟩ hl' ?_ (f05.trans (Fr.of (f6.trans f7))) (B5.get.free (f6.trans f7))
              unfold chk
              rw [chk_eq_iff]
              have hl2 : l = a ++ c0 :: (a1 ++ c1 :: m2) := by rw [← sp1]; exact sp0
              have h38' := ix_lt c0' k0
              have h38'' := ix_lt c1' k2
              have i0 : ((ix c0' : Nat) : Int) - ix c0 = 2 := by omega
              have i1 : ((ix c1' : Nat) : Int) - ix c1 = -1 := by omega
              rw [hl2, csum_two, i0, i1, la, la1]
              exact ⟨0, by omega⟩
          · walk_at "go"
            exact next _ ⟨_, _, _, _, _, rfl⟩
        · walk_at "go"
          exact next _ ⟨_, _, _, _, _, rfl⟩
    · rintro σ H1 ⟨v1, v2, v3, v4, v5, rfl, f, B1⟩
      walk_at "go"
      exact k l _ ok rfl rfl f B1
end K28

set_option Elab.async false
set_option linter.all false
set_option maxRecDepth 100000
set_option maxHeartbeats 4000000
namespace K28
open PySem PySem.Spec PyProof.Rows L2 Xr Vc Tx M28
variable {P : Program} {w : World} {K : PySem.W.Frag} {mg : Str → Option Value} {base : Heap}
local macro_rules | `(tactic| walk_at "go1") => `(tactic| first
  | with_reducible refine w_seq ?_ | with_reducible refine w_asg ?_ | with_reducible refine w_asgG ?_ | with_reducible refine w_next ?_ | with_reducible refine w_parS ?_ | with_reducible refine w_par ?_ | with_reducible refine w_par3S ?_ | with_reducible refine w_par3 ?_ | with_reducible refine w_ret ?_ | with_reducible refine w_retN ?_ | with_reducible refine w_drop ?_ | with_reducible refine w_ifS ?_
  | with_reducible refine w_var (by with_unfolding_all exact rfl) ?_ | with_reducible refine w_c ?_ | with_reducible refine w_op ?_ | with_reducible refine w_un ?_ | with_reducible refine w_chain ?_ | with_reducible refine w_I0 ?_ | with_reducible refine w_U ?_
  | with_reducible refine w_eq (by with_unfolding_all exact rfl) ?_ | with_reducible refine w_ne (by with_unfolding_all exact rfl) ?_ | with_reducible refine w_isN ?_ | with_reducible refine w_notN ?_
  | with_reducible refine w_cb ?_ | with_reducible refine w_nil ?_ | with_reducible refine w_cons ?_ | with_reducible refine w_call ?_ | with_reducible refine w_callW ?_ | with_reducible refine w_int ?_ | with_reducible refine w_abs ?_ | with_reducible refine w_max2 ?_ | with_reducible refine w_min2 ?_
  | with_reducible refine w_test ?_ | with_reducible refine w_tB ?_ | with_reducible refine w_bl ?_ | with_reducible refine w_blE ?_ | with_reducible refine w_and ?_ | with_reducible refine w_or ?_ | with_reducible refine w_not ?_ | with_reducible refine w_andV ?_ | with_reducible refine w_orV ?_ | with_reducible refine w_notV ?_ | with_reducible refine w_ifE ?_ | with_reducible refine w_yes ?_
  | with_reducible refine w_tup ?_ | with_reducible refine w_lst ?_ | with_reducible refine w_bm ?_ | with_reducible refine w_bm0 ?_ | with_reducible refine w_sl ?_ | with_reducible refine w_noPart ?_ | with_reducible refine w_part ?_ | with_reducible refine w_partI ?_ | with_reducible refine lc_of ?_
  | with_reducible refine w_I (by with_unfolding_all (show (0 : Int) < _; decide)) ?_ | with_reducible refine w_iStr ?_ | with_reducible refine w_strE ?_ | with_reducible refine w_iList ?_ | with_reducible refine w_iTup ?_ | with_reducible refine w_iRng1 ?_ | with_reducible refine w_iEnumS ?_ | with_reducible refine w_enumSE ?_ | with_reducible refine w_iEnumS1 ?_ | with_reducible refine w_iEnum ?_ | with_reducible refine for_of ?_ | with_reducible refine w_nT ?_ | with_reducible refine w_nF ?_ | with_reducible refine iteT ?_ | with_reducible refine iteF ?_ | with_reducible refine w_len (by with_unfolding_all exact rfl) ?_ | with_reducible refine w_rfl (by with_unfolding_all exact rfl) ?_ | with_reducible refine ty_strA ?_ | with_reducible refine w_gsub ?_ | with_reducible refine w_gname ?_ | with_reducible refine w_gcons ?_ | with_reducible refine w_gnil ?_ | with_reducible refine w_inS ?_ | with_reducible refine w_niS ?_ | with_reducible refine w_revS ?_)
local macro_rules | `(tactic| walk_at "go") => `(tactic| repeat' (walk_at "go1"))
theorem DpAll.len {H : Hp} : ∀ {xs : List V} {ds : List PyData}, DpAll K H xs ds → xs.length = ds.length
  | _, _, .nil => rfl
  | _, _, .cons _ a => congrArg (· + 1) (DpAll.len a)
theorem DpAll.get {H : Hp} : ∀ {xs : List V} {ds : List PyData}, DpAll K H xs ds → ∀ i, i < ds.length → ∃ v d, xs[i]? = some v ∧ Dp K H v d ∧ d ∈ ds ∧ ds[i]? = some d
  | _, _, .nil, i, h => absurd h (Nat.not_lt_zero i)
  | _, _, .cons h _, 0, _ => ⟨_, _, rfl, h, List.mem_cons_self, rfl⟩
  | _, _, .cons _ a, i + 1, hi => by
    obtain ⟨v, d, h1, h2, h3, h4⟩ := DpAll.get a i (Nat.lt_of_succ_lt_succ hi)
    exact ⟨v, d, h1, h2, List.mem_cons_of_mem _ h3, h4⟩
/-- data so deep at most, no list longer than a bound -/
def okd : Nat → PyData → Bool
  | _, .none => true
  | _, .bool _ => true
  | _, .int _ => true
  | _, .str x => PyData.strOk x
  | 0, .list _ => false
  | 0, .tuple _ => false
  | n + 1, .list ds => decide (ds.length ≤ 100000) && ds.all (okd n)
  | n + 1, .tuple ds => decide (ds.length ≤ 100000) && ds.all (okd n)
  | _, .dict _ => false
/-- the same data twice -/
def sp_same (K : PySem.W.Frag) (n : Nat) : Sp := fun vs H Q _ => ∃ (g u : V) (d : PyData), vs = [g, u] ∧ Dp K H g d ∧ Dp K H u d ∧ okd n d = true ∧ ∀ H', Fr none H H' → Q (.bl true) H'
theorem w_all_true {p : Addr} {H : Hp} {Q : VK} {n : Nat} (h : SqL K H p ((List.replicate n true).map V.bl)) (k : Q (.bl true) H) : rAll K [.ref p] H Q :=
  w_all h (by rw [show (List.replicate n true).all id = true by simp]; exact k)
theorem rep_snoc (n : Nat) : (List.replicate n true).map V.bl ++ [.bl true] = (List.replicate (n + 1) true).map V.bl := by
  rw [List.replicate_succ', List.map_append]
  rfl
theorem okd_lst {n : Nat} {ds : List PyData} (h : okd n (.list ds) = true) : ∃ m, n = m + 1 ∧ ds.length ≤ 100000 ∧ ∀ d ∈ ds, okd m d = true := by
  cases n with
  | zero => cases h
  | succ m =>
    simp only [okd, Bool.and_eq_true, decide_eq_true_eq, List.all_eq_true] at h
    exact ⟨m, rfl, h.1, h.2⟩
theorem okd_tup {n : Nat} {ds : List PyData} (h : okd n (.tuple ds) = true) : ∃ m, n = m + 1 ∧ ds.length ≤ 100000 ∧ ∀ d ∈ ds, okd m d = true := by
  cases n with
  | zero => cases h
  | succ m =>
    simp only [okd, Bool.and_eq_true, decide_eq_true_eq, List.all_eq_true] at h
    exact ⟨m, rfl, h.1, h.2⟩
theorem shaped_str {n : Nat} {x : Str} (h : okd n (.str x) = true) : SeqAt.shaped (.str x) = true := by
  have h' : PyData.strOk x = true := by simpa [okd] using h
  unfold SeqAt.shaped
  rw [show PyData.canLay0 (.str x) = true by simpa [PyData.canLay0] using h']
  rfl
theorem iteT' {p : Prop} [Decidable p] {A B : Prop} (h : p) (k : A) : if decide p = true then A else B := by rw [decide_eq_true h]; exact iteT k
theorem same_step (T : Txt K mg) (n m : Nat) (sp' : Sp) (G__law_same : FnOk P w K mg base CX0 (n + 1) T.a__law_same T.d__law_same ["given", "due"] sp')
    (hsp : ∀ g u d H Q E, Dp K H g d → Dp K H u d → (∃ m', m = m' + 1 ∧ okd m' d = true) → (∀ H', Fr none H H' → Q (.bl true) H') → sp' [g, u] H Q E) :
    FnOk P w K mg base CX0 (n + 2) T.a__law_same T.d__law_same ["given", "due"] (sp_same K m) := by
  refine T.F__law_same.ok sc__law_same (fun vs H Q E h => ?_) (fun cdv A outer s H vs Q E hrec h => ?_)
  · obtain ⟨g, u, d, rfl, _⟩ := h
    rfl
  · have hr := hrec
    refine ⟨_, (pss_cons (ps_if (pt_cmpR op_isNN (pv 1) pe_non (nomark _)) (pss_one (ps_ret (pe_cmpR op_isNN (pv 0) pe_non (nomark _)))) pss_nil)
    (pss_cons (ps_if (PW.pt (pw_or (pt_val (pe_callB (call_isiK (K := K) rfl) (by rfl) T.n_isinstance (by decide +kernel) (pa_cons (pv 1) (pa_cons (pe_bltn (v := .ty "tuple") (u := .type "tuple") (by rfl) T.n_tuple (by decide +kernel) rfl) pa_nil)))) (pw_or1 (pt_val (pe_callB (call_isiK (K := K) rfl) (by rfl) T.n_isinstance (by decide +kernel) (pa_cons (pv 1) (pa_cons (pe_bltn (v := .ty "list") (u := .type "list") (by rfl) T.n_list (by decide +kernel) rfl) pa_nil))))))) (pss_cons (ps_set (i := 2) sc__law_same.nd rfl (Or.inl rfl) (pe_ifExp (pt_val (pe_callB (call_isiK (K := K) rfl) (by rfl) T.n_isinstance (by decide +kernel) (pa_cons (pv 1) (pa_cons (pe_bltn (v := .ty "tuple") (u := .type "tuple") (by rfl) T.n_tuple (by decide +kernel) rfl) pa_nil)))) (pe_callB (call_isiK (K := K) rfl) (by rfl) T.n_isinstance (by decide +kernel) (pa_cons (pv 0) (pa_cons (pe_bltn (v := .ty "tuple") (u := .type "tuple") (by rfl) T.n_tuple (by decide +kernel) rfl) pa_nil))) (pe_callB (call_isiK (K := K) rfl) (by rfl) T.n_isinstance (by decide +kernel) (pa_cons (pv 0) (pa_cons (pe_bltn (v := .ty "list") (u := .type "list") (by rfl) T.n_list (by decide +kernel) rfl) pa_nil)))))
    (pss_one (ps_ret (pe_and (pv 2) (pe_and (pe_cmpR op_eq (pe_callB (call_lenK (K := K) rfl) (by rfl) T.n_len PySem.boot_len (pa_cons (pv 0) pa_nil)) (pe_callB (call_lenK (K := K) rfl) (by rfl) T.n_len PySem.boot_len (pa_cons (pv 1) pa_nil)) (nomark _)) (pe_one (pe_callB (cr_allK (K := K) rfl rfl) (by rfl) T.n_all (by decide +kernel) (pa_cons (pe_lc (own := [("k", 3)]) (g := gName 3) (tt := tYes) rfl sc__law_same.nd (pi_range1 (by rfl) T.n_range (pa_cons (pe_callB (call_lenK (K := K) rfl) (by rfl) T.n_len PySem.boot_len (pa_cons (pv 1) pa_nil)) pa_nil)) (blkOk_by (own := [("k", 3)]) (N := ["given", "due", "alike", "k"]) (sc := defScope s__law_same) (by decide +kernel)) (fun _ _ _ _ _ => (pg_name (i := 3) sc__law_same.nd rfl (Or.inl rfl))) (fun _ _ _ _ _ => pts_nil) (fun _ _ _ _ _ => (pe_call G__law_same hrec rfl T.g__law_same T.F__law_same.kp T.b__law_same .nil pass0 (pa_cons (pe_ix (ix_seqK (K := K) rfl) (pv 0) (pv 3) (fun _ _ => rfl)) (pa_cons (pe_ix (ix_seqK (K := K) rfl) (pv 1) (pv 3) (fun _ _ => rfl)) pa_nil))))) pa_nil)))))))) pss_nil)
    (pss_cons (ps_if (pt_val (pe_callB (call_isiK (K := K) rfl) (by rfl) T.n_isinstance (by decide +kernel) (pa_cons (pv 1) (pa_cons (pe_bltn (v := .ty "int") (u := .type "int") (by rfl) T.n_int (by decide +kernel) rfl) pa_nil)))) (pss_one (ps_ret (pe_and (pe_callB (call_isiK (K := K) rfl) (by rfl) T.n_isinstance (by decide +kernel) (pa_cons (pv 0) (pa_cons (pe_bltn (v := .ty "int") (u := .type "int") (by rfl) T.n_int (by decide +kernel) rfl) pa_nil))) (pe_and (pe_cmpR op_eq (pe_callB (call_isiK (K := K) rfl) (by rfl) T.n_isinstance (by decide +kernel) (pa_cons (pv 0) (pa_cons (pe_bltn (v := .ty "bool") (u := .type "bool") (by rfl) T.n_bool (by decide +kernel) rfl) pa_nil))) (pe_callB (call_isiK (K := K) rfl) (by rfl) T.n_isinstance (by decide +kernel) (pa_cons (pv 1) (pa_cons (pe_bltn (v := .ty "bool") (u := .type "bool") (by rfl) T.n_bool (by decide +kernel) rfl) pa_nil))) (nomark _)) (pe_one (pe_cmpR (op_eqDK (K := K) rfl (hu64 hr)) (pv 0) (pv 1) (nomark _))))))) pss_nil)
    (pss_one (ps_ret (pe_and (pe_callB (call_isiK (K := K) rfl) (by rfl) T.n_isinstance (by decide +kernel) (pa_cons (pv 1) (pa_cons (pe_bltn (v := .ty "str") (u := .type "str") (by rfl) T.n_str (by decide +kernel) rfl) pa_nil))) (pe_and (pe_callB (call_isiK (K := K) rfl) (by rfl) T.n_isinstance (by decide +kernel) (pa_cons (pv 0) (pa_cons (pe_bltn (v := .ty "str") (u := .type "str") (by rfl) T.n_str (by decide +kernel) rfl) pa_nil))) (pe_one (pe_cmpR (op_eqDK (K := K) rfl (hu64 hr)) (pv 0) (pv 1) (nomark _)))))))))), ?_⟩
    obtain ⟨g, u, d, rfl, hg, hu, hd, k⟩ := h
    cases hg with
    | non =>
      cases hu
      walk_at "go"
      refine w_ite (fun _ => ?_) fun c => absurd rfl c
      walk_at "go"
      exact k _ (Fr.refl _ _)
    | bl b =>
      cases hu
      have tu : TyX K H (.bl b) (.type "bool") := .base (.bl b)
      walk_at "go"
      refine w_ite (fun c => nomatch c) fun _ => ?_
      walk_at "go"
      refine w_isi (b := false) tu (by decide +kernel) ?_
      walk_at "go"
      refine w_isi (b := false) tu (by decide +kernel) ?_
      walk_at "go"
      refine w_isi (b := true) tu (by decide +kernel) ?_
      walk_at "go"
      refine w_isi (b := true) tu (by decide +kernel) ?_
      walk_at "go"
      refine w_isi (b := true) tu (by decide +kernel) ?_
      walk_at "go"
      refine w_isi (b := true) tu (by decide +kernel) ?_
      walk_at "go"
      refine iteT' rfl ?_
      walk_at "go"
      refine ⟨_, _, .bl b, .bl b, rfl, rfl, ?_⟩
      rw [show PyData.eqv (.bool b) (.bool b) = true by cases b <;> rfl]
      exact k _ (Fr.refl _ _)
    | int i =>
      cases hu
      have tu : TyX K H (.int i) (.type "int") := .base (.int i)
      walk_at "go"
      refine w_ite (fun c => nomatch c) fun _ => ?_
      walk_at "go"
      refine w_isi (b := false) tu (by decide +kernel) ?_
      walk_at "go"
      refine w_isi (b := false) tu (by decide +kernel) ?_
      walk_at "go"
      refine w_isi (b := true) tu (by decide +kernel) ?_
      walk_at "go"
      refine w_isi (b := true) tu (by decide +kernel) ?_
      walk_at "go"
      refine w_isi (b := false) tu (by decide +kernel) ?_
      walk_at "go"
      refine w_isi (b := false) tu (by decide +kernel) ?_
      walk_at "go"
      refine iteT' rfl ?_
      walk_at "go"
      refine ⟨_, _, .int i, .int i, rfl, rfl, ?_⟩
      rw [show PyData.eqv (.int i) (.int i) = true by simp [PyData.eqv]]
      exact k _ (Fr.refl _ _)
    | str x =>
      cases hu
      have tu : TyX K H (.str x) (.type "str") := .base (.str x)
      walk_at "go"
      refine w_ite (fun c => nomatch c) fun _ => ?_
      walk_at "go"
      refine w_isi (b := false) tu (by decide +kernel) ?_
      walk_at "go"
      refine w_isi (b := false) tu (by decide +kernel) ?_
      walk_at "go"
      refine w_isi (b := false) tu (by decide +kernel) ?_
      walk_at "go"
      refine w_isi (b := true) tu (by decide +kernel) ?_
      walk_at "go"
      refine w_isi (b := true) tu (by decide +kernel) ?_
      walk_at "go"
      refine ⟨_, _, .str x, .str x, shaped_str hd, shaped_str hd, ?_⟩
      rw [show PyData.eqv (.str x) (.str x) = true by simp [PyData.eqv]]
      exact k _ (Fr.refl _ _)
    | lst h a =>
      rename_i ds
      cases hu with | lst h2 a2 => ?_
      obtain ⟨m', rfl, hl, hm⟩ := okd_lst hd
      have tu := tyx_lst h2
      have tg := tyx_lst h
      walk_at "go"
      refine w_ite (fun c => nomatch c) fun _ => ?_
      walk_at "go"
      refine w_isi (b := false) tu (by decide +kernel) ?_
      walk_at "go"
      refine w_isi (b := true) tu (by decide +kernel) ?_
      walk_at "go"
      refine w_isi (b := false) tu (by decide +kernel) ?_
      walk_at "go"
      refine w_isi (b := true) tg (by decide +kernel) ?_
      walk_at "go"
      refine w_lenL h ?_
      walk_at "go"
      refine w_lenL h2 ?_
      walk_at "go"
      rw [(DpAll.len a), (DpAll.len a2)]
      refine iteT' (by simp) ?_
      walk_at "go"
      refine w_lenL h2 ?_
      rw [(DpAll.len a2)]
      walk_at "go"
      refine w_rngE (by omega) (by omega) ?_
      refine lc_go (walk_range (lo := 0) (n := ds.length)) (M := none) Bg.none (fun _ _ => trivial) (fun i acc => acc = (List.replicate i true).map V.bl) (fun i acc hi h => by rw [h]; simp; omega) rfl ?_ ?_
      · rintro i x H5 H6 acc Zt Zf hi f B5 rfl ⟨rfl, rfl⟩ kt kf
        walk_at "go"
        obtain ⟨v1, d1, e1, p1, q1, r1⟩ := DpAll.get a i hi
        obtain ⟨v2, d2, e2, p2, q2, r2⟩ := DpAll.get a2 i hi
        obtain rfl : d1 = d2 := Option.some.inj (r1.symm.trans r2)
        refine .inl (w_ixL (v := v1) (f.sql (by simp) h) (by rw [show (0 : Int) + (i : Nat) = ((i : Nat) : Int) by omega]; exact atI_nat e1) ?_)
        walk_at "go"
        refine .inl (w_ixL (v := v2) (f.sql (by simp) h2) (by rw [show (0 : Int) + (i : Nat) = ((i : Nat) : Int) by omega]; exact atI_nat e2) ?_)
        walk_at "go"
        refine hsp _ _ d1 _ _ _ (Vc.Dp.fr f p1) (Vc.Dp.fr f p2) ⟨m', rfl, hm _ q1⟩ fun H7 f7 => ?_
        exact kt _ _ f7 Bg.none (rep_snoc i)
      · rintro q H5 acc hq f B5 e rfl
        walk_at "go"
        exact w_all_true (SqL.of e) (k _ f)
    | tup h a =>
      rename_i ds
      cases hu with | tup h2 a2 => ?_
      obtain ⟨m', rfl, hl, hm⟩ := okd_tup hd
      have tu := tyx_tup h2
      have tg := tyx_tup h
      walk_at "go"
      refine w_ite (fun c => nomatch c) fun _ => ?_
      walk_at "go"
      refine w_isi (b := true) tu (by decide +kernel) ?_
      walk_at "go"
      refine w_isi (b := true) tu (by decide +kernel) ?_
      walk_at "go"
      refine w_isi (b := true) tg (by decide +kernel) ?_
      walk_at "go"
      refine w_lenT h ?_
      walk_at "go"
      refine w_lenT h2 ?_
      walk_at "go"
      rw [(DpAll.len a), (DpAll.len a2)]
      refine iteT' (by simp) ?_
      walk_at "go"
      refine w_lenT h2 ?_
      rw [(DpAll.len a2)]
      walk_at "go"
      refine w_rngE (by omega) (by omega) ?_
      refine lc_go (walk_range (lo := 0) (n := ds.length)) (M := none) Bg.none (fun _ _ => trivial) (fun i acc => acc = (List.replicate i true).map V.bl) (fun i acc hi h => by rw [h]; simp; omega) rfl ?_ ?_
      · rintro i x H5 H6 acc Zt Zf hi f B5 rfl ⟨rfl, rfl⟩ kt kf
        walk_at "go"
        obtain ⟨v1, d1, e1, p1, q1, r1⟩ := DpAll.get a i hi
        obtain ⟨v2, d2, e2, p2, q2, r2⟩ := DpAll.get a2 i hi
        obtain rfl : d1 = d2 := Option.some.inj (r1.symm.trans r2)
        refine .inr (.inl (w_ixT (v := v1) (f.sqt (by simp) h) (by rw [show (0 : Int) + (i : Nat) = ((i : Nat) : Int) by omega]; exact atI_nat e1) ?_))
        walk_at "go"
        refine .inr (.inl (w_ixT (v := v2) (f.sqt (by simp) h2) (by rw [show (0 : Int) + (i : Nat) = ((i : Nat) : Int) by omega]; exact atI_nat e2) ?_))
        walk_at "go"
        refine hsp _ _ d1 _ _ _ (Vc.Dp.fr f p1) (Vc.Dp.fr f p2) ⟨m', rfl, hm _ q1⟩ fun H7 f7 => ?_
        exact kt _ _ f7 Bg.none (rep_snoc i)
      · rintro q H5 acc hq f B5 e rfl
        walk_at "go"
        exact w_all_true (SqL.of e) (k _ f)
theorem ok_same0 (T : Txt K mg) : FnOk P w K mg base CX0 1 T.a__law_same T.d__law_same ["given", "due"] (fun _ _ _ _ => False) :=
  T.F__law_same.ok sc__law_same (fun _ _ _ _ h => h.elim) (fun _ _ _ _ _ _ _ _ _ h => h.elim)
theorem ok__law_same (T : Txt K mg) : ∀ n, FnOk P w K mg base CX0 (n + 2) T.a__law_same T.d__law_same ["given", "due"] (sp_same K n)
  | 0 => same_step T 0 0 _ (ok_same0 T) (fun _ _ _ _ _ _ _ _ ⟨_, h, _⟩ _ => nomatch h)
  | n + 1 => same_step T (n + 1) (n + 1) _ (ok__law_same T n) (fun g u d _ _ _ a b ⟨m, e, h⟩ k => ⟨g, u, d, rfl, a, b, by cases e; exact h, k⟩)
end K28

set_option Elab.async false
set_option linter.all false
set_option maxRecDepth 100000
set_option maxHeartbeats 4000000
namespace K28
open PySem PySem.Spec PyProof.Rows L2 Xr Vc Tx M28
variable {P : Program} {w : World} {K : PySem.W.Frag} {mg : Str → Option Value} {base : Heap}
local macro_rules | `(tactic| walk_at "go1") => `(tactic| first
  | with_reducible refine w_seq ?_ | with_reducible refine w_asg ?_ | with_reducible refine w_asgG ?_ | with_reducible refine w_next ?_ | with_reducible refine w_parS ?_ | with_reducible refine w_par ?_ | with_reducible refine w_par3S ?_ | with_reducible refine w_par3 ?_ | with_reducible refine w_ret ?_ | with_reducible refine w_retN ?_ | with_reducible refine w_drop ?_ | with_reducible refine w_ifS ?_
  | with_reducible refine w_var (by with_unfolding_all exact rfl) ?_ | with_reducible refine w_c ?_ | with_reducible refine w_op ?_ | with_reducible refine w_un ?_ | with_reducible refine w_chain ?_ | with_reducible refine w_I0 ?_ | with_reducible refine w_U ?_
  | with_reducible refine w_eq (by with_unfolding_all exact rfl) ?_ | with_reducible refine w_ne (by with_unfolding_all exact rfl) ?_ | with_reducible refine w_isN ?_ | with_reducible refine w_notN ?_
  | with_reducible refine w_cb ?_ | with_reducible refine w_nil ?_ | with_reducible refine w_cons ?_ | with_reducible refine w_call ?_ | with_reducible refine w_callW ?_ | with_reducible refine w_int ?_ | with_reducible refine w_abs ?_ | with_reducible refine w_max2 ?_ | with_reducible refine w_min2 ?_
  | with_reducible refine w_test ?_ | with_reducible refine w_tB ?_ | with_reducible refine w_bl ?_ | with_reducible refine w_blE ?_ | with_reducible refine w_and ?_ | with_reducible refine w_or ?_ | with_reducible refine w_not ?_ | with_reducible refine w_andV ?_ | with_reducible refine w_orV ?_ | with_reducible refine w_notV ?_ | with_reducible refine w_ifE ?_ | with_reducible refine w_yes ?_
  | with_reducible refine w_tup ?_ | with_reducible refine w_lst ?_ | with_reducible refine w_bm ?_ | with_reducible refine w_bm0 ?_ | with_reducible refine w_sl ?_ | with_reducible refine w_noPart ?_ | with_reducible refine w_part ?_ | with_reducible refine w_partI ?_ | with_reducible refine lc_of ?_
  | with_reducible refine w_I (by with_unfolding_all (show (0 : Int) < _; decide)) ?_ | with_reducible refine w_iStr ?_ | with_reducible refine w_strE ?_ | with_reducible refine w_iList ?_ | with_reducible refine w_iTup ?_ | with_reducible refine w_iRng1 ?_ | with_reducible refine w_iEnumS ?_ | with_reducible refine w_enumSE ?_ | with_reducible refine w_iEnumS1 ?_ | with_reducible refine w_iEnum ?_ | with_reducible refine for_of ?_ | with_reducible refine w_nT ?_ | with_reducible refine w_nF ?_ | with_reducible refine iteT ?_ | with_reducible refine iteF ?_ | with_reducible refine w_len (by with_unfolding_all exact rfl) ?_ | with_reducible refine w_rfl (by with_unfolding_all exact rfl) ?_ | with_reducible refine ty_strA ?_ | with_reducible refine w_gsub ?_ | with_reducible refine w_gname ?_ | with_reducible refine w_gcons ?_ | with_reducible refine w_gnil ?_ | with_reducible refine w_inS ?_ | with_reducible refine w_niS ?_ | with_reducible refine w_revS ?_)
local macro_rules | `(tactic| walk_at "go") => `(tactic| repeat' (walk_at "go1"))
/-- texts as data -/
def dtx (ts : List (List Nat)) : List PyData := ts.map fun t => .str (S t)
theorem dp_tx {H : Hp} : ∀ ts : List (List Nat), DpAll K H (txs ts) (dtx ts)
  | [] => .nil
  | _ :: r => .cons (.str _) (dp_tx r)
theorem sg_small : ∀ c ∈ sg, c < 1114112 := by decide +kernel
theorem strOk_S {l : List Nat} (h : isSg l = true) : PyData.strOk (S l) = true := by
  unfold isSg at h
  rw [List.all_eq_true] at h
  have h2 : (l.toArray.all fun c => decide (c < 0x110000)) = true := by
    rw [List.all_toArray, List.all_eq_true]
    exact fun c hc => decide_eq_true (sg_small c (of_decide_eq_true (h c hc)))
  exact h2
theorem okd_tx {ts : List (List Nat)} (h : ∀ t ∈ ts, Ok t) (n : Nat) : ∀ d ∈ dtx ts, okd n d = true := by
  intro d hd
  obtain ⟨t, ht, rfl⟩ := List.mem_map.mp hd
  unfold okd
  exact strOk_S (h t ht).sg
theorem lay_tx : ∀ {ts : List (List Nat)} (h : ∀ t ∈ ts, Ok t), PyData.canLayAll0 (dtx ts) = true
  | [], _ => rfl
  | t :: r, h => by
    show (PyData.canLay0 (.str (S t)) && PyData.canLayAll0 (dtx r)) = true
    rw [lay_tx fun x hx => h x (List.mem_cons_of_mem _ hx), Bool.and_true]
    show PyData.strOk (S t) = true
    exact strOk_S (h t List.mem_cons_self).sg
theorem depth_tx : ∀ ts : List (List Nat), PyData.depthAll (dtx ts) = 0
  | [] => rfl
  | t :: r => by
    show max (PyData.depth (.str (S t))) (PyData.depthAll (dtx r)) = 0
    rw [depth_tx r]
    rfl
theorem shaped_tx {ts : List (List Nat)} (h : ∀ t ∈ ts, Ok t) : SeqAt.shaped (.tuple (dtx ts)) = true := by
  unfold SeqAt.shaped
  rw [show PyData.canLay0 (.tuple (dtx ts)) = true from lay_tx h, Bool.true_and]
  refine decide_eq_true ?_
  show PyData.depthAll (dtx ts) + 1 ≤ 64
  rw [depth_tx]
  decide
theorem Ps.pos {l : List Nat} {ts : List (List Nat)} {e : Nat} (h : Ps l ts e) (ne : ts ≠ []) : 0 < e := by
  cases h with
  | stop => exact absurd rfl ne
  | next _ _ => omega
theorem Ps.zero {l : List Nat} {e : Nat} (h : Ps l [] e) : e = 0 := by
  cases h
  rfl
/-- texts, a rest that reads so -/
def sp_stream (K : PySem.W.Frag) : Sp := fun vs H Q _ => ∃ (a : Addr) (ts : List (List Nat)) (r : List Nat) (b : Bool) (us : List (List Nat)) (e : Nat),
  vs = [.ref a, .str (S r), .bl b] ∧ SqL K H a (txs ts) ∧ (∀ t ∈ ts, Ok t) ∧ ts.length ≤ 4 ∧ r.length ≤ 10000 ∧ Ps r us e ∧ (b = true → us ≠ []) ∧ (b = false → us = []) ∧ ∀ H', Fr none H H' → Q (.bl true) H'
def lg (ts : List (List Nat)) (i : Nat) : List Nat := ((ts.take i).map fr).flatten
theorem lg_next {ts : List (List Nat)} {i : Nat} {t : List Nat} (h : ts[i]? = some t) : lg ts i ++ fr t = lg ts (i + 1) := by
  unfold lg
  obtain ⟨hi, e⟩ := List.getElem?_eq_some_iff.mp h
  rw [List.take_succ_eq_append_getElem hi, List.map_append, List.flatten_append, e]
  simp
theorem lg_len {ts : List (List Nat)} (h : ∀ t ∈ ts, Ok t) : ∀ i, (lg ts i).length ≤ 1006 * i
  | 0 => by simp [lg]
  | i + 1 => by
    have ih := lg_len h i
    by_cases hi : i < ts.length
    · have e := List.getElem?_eq_getElem hi
      rw [← lg_next e, List.length_append, fr_len]
      have := (h _ (List.getElem_mem hi)).hi
      omega
    · unfold lg at ih ⊢
      rw [List.take_of_length_le (by omega)] at ih ⊢
      omega
theorem lg_all (ts : List (List Nat)) : lg ts ts.length = (ts.map fr).flatten := by
  unfold lg
  rw [List.take_length]
theorem ok__law_stream_right (T : Txt K mg) : FnOk P w K mg base CX0 7 T.a__law_stream_right T.d__law_stream_right ["texts", "rest", "is_read"] (sp_stream K) := by
  have G__law_frame : FnOk P w K mg base CX0 1 T.a__law_frame T.d__law_frame ["text"] sp_lframe := ok__law_frame T
  have G_frames_in : FnOk P w K mg base (L2.CX P w) 6 T.a_frames_in T.d_frames_in ["text"] (sp_frames_in K T.C_InvalidText) := ok_frames_in T
  have G__law_same : FnOk P w K mg base CX0 4 T.a__law_same T.d__law_same ["given", "due"] (sp_same K 2) := ok__law_same T 2
  refine T.F__law_stream_right.ok sc__law_stream_right (fun vs H Q E h => ?_) (fun cdv A outer s H vs Q E hr h => ⟨_, (pss_cons (ps_par (i := 3) (j := 4) rfl sc__law_stream_right.nd rfl rfl (by decide) rfl rfl (pa_cons pe_str (pa_cons (pe_lst pa_nil) pa_nil)) (by rfl))
    (pss_cons (ps_for PassesOwn.never rfl (pi_listK (K := K) rfl (pv 0)) (pg_name (i := 5) sc__law_stream_right.nd rfl (Or.inl rfl)) (pss_cons (ps_set (i := 3) sc__law_stream_right.nd rfl (Or.inl rfl) (pe_op op_add_strN (pv 3) (pe_call G__law_frame (hr.mono (by decide)) rfl T.g__law_frame T.F__law_frame.kp T.b__law_frame .nil pass0 (pa_cons (pv 5) pa_nil))))
    (pss_one (ps_expr (pe_bmK (K := K) rfl (pe_bm PySem.F.plainAttrs_list PySem.F.slot_list_append PySem.F.type_list_append mt_append (pv 4) (pa_cons (pe_callB call_len_strN (by rfl) T.n_len PySem.boot_len (pa_cons (pv 3) pa_nil)) pa_nil)))))))
    (pss_cons (ps_set (i := 6) sc__law_stream_right.nd rfl (Or.inl rfl) (pe_call G_frames_in (hr.mono (by decide)) rfl T.g_frames_in T.F_frames_in.kp T.b_frames_in .nil passL (pa_cons (pe_op op_add_strN (pv 3) (pv 1)) pa_nil)))
    (pss_cons (ps_if (pt_not (pt_val (pv 2))) (pss_one (ps_ret (pe_call G__law_same (hr.mono (by decide)) rfl T.g__law_same T.F__law_same.kp T.b__law_same .nil pass0 (pa_cons (pv 6) (pa_cons (pe_tup (pa_cons (pe_callTy (call_tuple_ofK (K := K) rfl) (by rfl) T.n_tuple (by decide +kernel) (pa_cons (pv 0) pa_nil)) (pa_cons (pe_callB call_len_strN (by rfl) T.n_len PySem.boot_len (pa_cons (pv 3) pa_nil)) pa_nil))) pa_nil))))) pss_nil)
    (pss_one (ps_ret (pe_and (pe_cmpR (op_eqDK (K := K) rfl (hu64 hr)) (pe_slice (sl_tupAK (K := K) rfl) (pe_ix (ix_tupK (K := K) rfl) (pv 6) pe_int (fun _ _ => rfl)) po_none (po_some (pe_callB (call_lenK (K := K) rfl) (by rfl) T.n_len PySem.boot_len (pa_cons (pv 0) pa_nil)))) (pe_callTy (call_tuple_ofK (K := K) rfl) (by rfl) T.n_tuple (by decide +kernel) (pa_cons (pv 0) pa_nil)) (nomark _)) (pe_and (pe_cmpR op_gt (pe_callB (call_lenK (K := K) rfl) (by rfl) T.n_len PySem.boot_len (pa_cons (pe_ix (ix_tupK (K := K) rfl) (pv 6) pe_int (fun _ _ => rfl)) pa_nil)) (pe_callB (call_lenK (K := K) rfl) (by rfl) T.n_len PySem.boot_len (pa_cons (pv 0) pa_nil)) (nomark _)) (pe_one (pe_cmpR op_gt (pe_ix (ix_tupK (K := K) rfl) (pv 6) pe_int (fun _ _ => rfl)) (pe_callB call_len_strN (by rfl) T.n_len PySem.boot_len (pa_cons (pv 3) pa_nil)) (nomark _))))))))))), ?_⟩)
  · obtain ⟨a, ts, r, b, us, e, rfl, _⟩ := h
    rfl
  · obtain ⟨a, ts, r, b, us, e, rfl, hS, ok, h4, hr4, hp, hbt, hbf, k⟩ := h
    walk_at "go"
    intro el hel
    walk_at "go"
    refine w_listE (Fr.sql (M := none) (Fr.new hel) (by simp) hS) ?_
    have hS1 : ∀ H', Fr none H H' → SqL K H' a (txs ts) := fun H' f => f.sql (by simp) hS
    have ltx : (txs ts).length = ts.length := by simp [txs]
    refine for_it walk_list (fun i σ H' => ∃ v5 es, σ = [some (.ref a), some (.str (S r)), some (.bl b), some (.str (S (lg ts i))), some (.ref el), v5, none] ∧ Fr none H H' ∧ H' el = some (.lst es) ∧ es.length = i)
      ⟨none, [], by rw [empty_S]; rfl, Fr.new hel, upd_same, rfl⟩ (fun i σ H' _ ⟨_, _, _, f, _⟩ => hS1 _ f) ?_ ?_
    · rintro i x σ H1 H2 hi ⟨v5, es, rfl, f, he, hl⟩ ⟨rfl, hx⟩
      rw [ltx] at hi
      obtain ⟨t, ht⟩ : ∃ t, ts[i]? = some t := ⟨_, List.getElem?_eq_getElem hi⟩
      have okt := ok t (List.mem_of_getElem? ht)
      simp only [txs, List.getElem?_map, ht, Option.map_some, Option.some.injEq] at hx
      subst hx
      have hll := lg_len ok i
      walk_at "go"
      refine ⟨t, rfl, okt, fun H3 f3 => ?_⟩
      have hfl := fr_len t
      have := okt.hi
      refine w_addS (by rw [S_len, S_len, sizeLine_eq]; omega) ?_
      rw [S_app, lg_next ht]
      walk_at "go"
      have hl2 := lg_len ok (i + 1)
      have hz : (S (lg ts (i + 1))).length ≤ sizeLine := by rw [S_len, sizeLine_eq]; omega
      have hel3 : H3 el = some (.lst es) := f3 _ _ (by simp) he
      refine ⟨ty_lst (SqL.of hel3), ?_⟩
      walk_at "go"
      refine w_lenS hz ?_
      rw [S_len]
      walk_at "go"
      refine w_app hel3 (by rw [sizeLine_eq]; omega) ?_
      walk_at "go"
      exact ⟨_, _, rfl, (f.trans f3).mut hel, upd_same, by simp [hl]⟩
    · rintro σ H1 ⟨v5, es, rfl, f, he, hl⟩
      rw [ltx, lg_all]
      have hll := lg_len ok ts.length
      rw [lg_all] at hll
      have hz : (S (ts.map fr).flatten).length ≤ sizeLine := by rw [S_len, sizeLine_eq]; omega
      walk_at "go"
      refine w_addS (by rw [S_len, S_len, sizeLine_eq]; omega) ?_
      rw [S_app]
      walk_at "go"
      refine ⟨_, rfl, .inl ⟨_, rfl, by rw [List.length_append]; omega, fun p q H2 ts' e' hp' he' hts' f2 h1 h2 => ?_⟩⟩
      obtain ⟨rfl, rfl⟩ := Ps.one hp' (Ps.frames ok hp)
      have f02 := f.trans f2
      walk_at "go"
      refine w_itb (fun hb => ?_) fun hb => ?_
      · have hb' : b = false := by simpa using hb
        have hus := hbf hb'
        subst hus
        have he0 := Ps.zero hp
        subst he0
        rw [List.append_nil] at h2
        walk_at "go"
        refine w_tupL (hS1 _ f02) fun t ht => ?_
        walk_at "go"
        refine w_lenS hz ?_
        rw [S_len]
        walk_at "go"
        intro t2 ht2
        have f23 : Fr none H2 (upd (upd H2 t (.tup (txs ts))) t2 (.tup [.ref t, .int ((ts.map fr).flatten.length : Nat)])) := (Fr.new ht).trans (Fr.new ht2)
        have nt : t ≠ t2 := fun z => by
          rw [← z, upd_same] at ht2
          cases ht2
        refine ⟨_, _, .tuple [.tuple (dtx ts), .int ((ts.map fr).flatten.length : Nat)], rfl,
          Vc.Dp.fr f23 (.tup (SqT.of h1) (.cons (.tup (SqT.of h2) (dp_tx ts)) (.cons (.int _) .nil))),
          .tup (SqT.of upd_same) (.cons (.tup (SqT.of (by rw [upd_ne nt, upd_same])) (dp_tx ts)) (.cons (.int _) .nil)), ?_, fun H4 f4 => k _ (f02.trans (f23.trans f4))⟩
        have hdl : (dtx ts).length = ts.length := by simp [dtx]
        simp only [okd, List.all_cons, List.all_nil, Bool.and_true, Bool.and_eq_true, decide_eq_true_eq, List.length_cons, List.length_nil, List.all_eq_true]
        exact ⟨by decide, by omega, okd_tx ok 0⟩
      · have hb' : b = true := by simpa using hb
        have hus := hbt hb'
        have hep := Ps.pos hp hus
        have hul : 0 < us.length := List.length_pos_iff.mpr hus
        walk_at "go"
        refine w_ixT (SqT.of h1) rfl ?_
        walk_at "go"
        refine w_lenL (hS1 _ f02) ?_
        walk_at "go"
        have e1 : HT.sIx (txs (ts ++ us)).length (txs (ts ++ us)).length (some ((txs ts).length : Int)) = ts.length := by
          rw [HT.sIx_nat]
          simp [txs]
        have e2 : cutV (txs (ts ++ us)) none (some ((txs ts).length : Int)) = txs ts := by
          unfold cutV
          rw [e1, HT.sIx_none]
          simp [txs]
        refine ⟨_, _, rfl, SqT.of h2, fun z => ?_, fun _ s hs => ?_⟩
        · have e0 : (txs (ts ++ us)).length = ts.length + us.length := by simp [txs]
          have z2 := z.2
          rw [e1, e0] at z2
          omega
        · rw [e2]
          walk_at "go"
          have f3 : Fr none H2 (upd H2 s (.tup (txs ts))) := Fr.new hs
          refine w_tupL (hS1 _ (f02.trans f3)) fun t ht => ?_
          have nt : s ≠ t := fun z => by
            rw [← z, upd_same] at ht
            cases ht
          have f34 := f3.trans (Fr.new (o := .tup (txs ts)) ht)
          have hsh := shaped_tx ok
          refine ⟨.tuple (dtx ts), .tuple (dtx ts), .tup (SqT.of (by rw [upd_ne nt, upd_same])) (dp_tx ts), .tup (SqT.of upd_same) (dp_tx ts), hsh, hsh, ?_⟩
          rw [SeqAt.eqv_refl _ (SeqAt.canLay_of_shaped hsh)]
          walk_at "go"
          have h1' := Fr.sqt f34 (by simp) (SqT.of (K := K) h1)
          have h2' := Fr.sqt f34 (by simp) (SqT.of (K := K) h2)
          have e0 : (txs (ts ++ us)).length = ts.length + us.length := by simp [txs]
          refine w_ixT h1' rfl ?_
          walk_at "go"
          refine w_lenT h2' ?_
          walk_at "go"
          refine w_lenL (hS1 _ (f02.trans f34)) ?_
          walk_at "go"
          refine iteT' (by omega) ?_
          walk_at "go"
          refine w_ixT h1' rfl ?_
          walk_at "go"
          refine w_lenS hz ?_
          rw [S_len]
          walk_at "go"
          rw [decide_eq_true (show (((ts.map fr).flatten.length : Nat) : Int) < (((ts.map fr).flatten.length + e : Nat) : Int) by omega)]
          exact k _ (f02.trans f34)
end K28

set_option Elab.async false
set_option linter.all false
set_option maxRecDepth 100000
set_option maxHeartbeats 4000000
namespace K28
open PySem PySem.Spec PyProof.Rows L2 Xr Vc Tx M28
variable {P : Program} {w : World} {K : PySem.W.Frag} {mg : Str → Option Value} {base : Heap}
local macro_rules | `(tactic| walk_at "go1") => `(tactic| first
  | with_reducible refine w_seq ?_ | with_reducible refine w_asg ?_ | with_reducible refine w_asgG ?_ | with_reducible refine w_next ?_ | with_reducible refine w_parS ?_ | with_reducible refine w_par ?_ | with_reducible refine w_par3S ?_ | with_reducible refine w_par3 ?_ | with_reducible refine w_ret ?_ | with_reducible refine w_retN ?_ | with_reducible refine w_drop ?_ | with_reducible refine w_ifS ?_
  | with_reducible refine w_var (by with_unfolding_all exact rfl) ?_ | with_reducible refine w_c ?_ | with_reducible refine w_op ?_ | with_reducible refine w_un ?_ | with_reducible refine w_chain ?_ | with_reducible refine w_I0 ?_ | with_reducible refine w_U ?_
  | with_reducible refine w_eq (by with_unfolding_all exact rfl) ?_ | with_reducible refine w_ne (by with_unfolding_all exact rfl) ?_ | with_reducible refine w_isN ?_ | with_reducible refine w_notN ?_
  | with_reducible refine w_cb ?_ | with_reducible refine w_nil ?_ | with_reducible refine w_cons ?_ | with_reducible refine w_call ?_ | with_reducible refine w_callW ?_ | with_reducible refine w_int ?_ | with_reducible refine w_abs ?_ | with_reducible refine w_max2 ?_ | with_reducible refine w_min2 ?_
  | with_reducible refine w_test ?_ | with_reducible refine w_tB ?_ | with_reducible refine w_bl ?_ | with_reducible refine w_blE ?_ | with_reducible refine w_and ?_ | with_reducible refine w_or ?_ | with_reducible refine w_not ?_ | with_reducible refine w_andV ?_ | with_reducible refine w_orV ?_ | with_reducible refine w_notV ?_ | with_reducible refine w_ifE ?_ | with_reducible refine w_yes ?_
  | with_reducible refine w_tup ?_ | with_reducible refine w_lst ?_ | with_reducible refine w_bm ?_ | with_reducible refine w_bm0 ?_ | with_reducible refine w_sl ?_ | with_reducible refine w_noPart ?_ | with_reducible refine w_part ?_ | with_reducible refine w_partI ?_ | with_reducible refine lc_of ?_
  | with_reducible refine w_I (by with_unfolding_all (show (0 : Int) < _; decide)) ?_ | with_reducible refine w_iStr ?_ | with_reducible refine w_strE ?_ | with_reducible refine w_iList ?_ | with_reducible refine w_iTup ?_ | with_reducible refine w_iRng1 ?_ | with_reducible refine w_iEnumS ?_ | with_reducible refine w_enumSE ?_ | with_reducible refine w_iEnumS1 ?_ | with_reducible refine w_iEnum ?_ | with_reducible refine for_of ?_ | with_reducible refine w_nT ?_ | with_reducible refine w_nF ?_ | with_reducible refine iteT ?_ | with_reducible refine iteF ?_ | with_reducible refine w_len (by with_unfolding_all exact rfl) ?_ | with_reducible refine w_rfl (by with_unfolding_all exact rfl) ?_ | with_reducible refine ty_strA ?_ | with_reducible refine w_gsub ?_ | with_reducible refine w_gname ?_ | with_reducible refine w_gcons ?_ | with_reducible refine w_gnil ?_ | with_reducible refine w_inS ?_ | with_reducible refine w_niS ?_ | with_reducible refine w_revS ?_)
local macro_rules | `(tactic| walk_at "go") => `(tactic| repeat' (walk_at "go1"))
/-! ### what is read of a frame with a thing otherwise -/
theorem fr_take7 (t : List Nat) : (fr t).take 7 = d4 t.length ++ d3 (chk t) := rfl
theorem fr_bent (t b : List Nat) (hl : b.length = t.length) (hc : chk b = chk t) : (fr t).take 7 ++ b = fr b := by
  rw [fr_take7]
  unfold fr
  rw [hl, hc, List.append_assoc]
theorem bent_ps {t b : List Nat} (ht : Ok t) (hb : Ok b) (hl : b.length = t.length) : ∃ us e, Ps ((fr t).take 7 ++ b ++ fr t) us e ∧ (chk b = chk t → us ≠ []) ∧ (chk b ≠ chk t → us = []) := by
  by_cases hc : chk b = chk t
  · have hp := Ps.frames (ts := [b, t]) (by
      intro x hx
      simp at hx
      rcases hx with rfl | rfl
      · exact hb
      · exact ht) (r := []) (.stop (none_short (by decide)))
    refine ⟨[b, t], ([b, t].map fr).flatten.length, ?_, fun _ => ?_, fun n => absurd hc n⟩
    · rw [fr_bent t b hl hc]
      have e : (([b, t].map fr).flatten ++ []) = fr b ++ fr t := by simp
      rw [e] at hp
      simpa using hp
    · simp
  · have := ht.hi
    refine ⟨[], 0, .stop ?_, fun h => absurd h hc, fun _ => rfl⟩
    rw [fr_take7, List.append_assoc, List.append_assoc]
    exact none_bent (by omega) (Nat.lt_of_lt_of_le (chk_lt t) (by decide)) hl hc
theorem put_chk {a m : List Nat} {c c' : Nat} {d : Nat} (hc : c ∈ sg) (hc' : c' ∈ sg) (hd : 1 ≤ d) (hd2 : d ≤ 37) (e : ((ix c' : Nat) : Int) = ((ix c : Nat) + (d : Nat)) % 38) : chk (a ++ c' :: m) = chk (a ++ c :: m) ↔ (a.length + 1) % 997 = 0 := by
  refine chk_one hc' hc fun z => ?_
  subst z
  have := ix_lt c' hc
  omega
/-- two neighbours exchanged -/
def swp (t : List Nat) (s : Nat) : List Nat := t.take s ++ ((t.drop s).take 2).reverse ++ t.drop (s + 2)
theorem swp_two (a m : List Nat) (c d : Nat) : swp (a ++ c :: d :: m) a.length = a ++ d :: c :: m := by
  unfold swp
  rw [List.take_left' rfl, List.drop_left' rfl]
  have : (a ++ c :: d :: m).drop (a.length + 2) = m := by
    rw [List.drop_append, List.drop_of_length_le (by omega), show a.length + 2 - a.length = 2 by omega]
    rfl
  rw [this]
  simp
theorem swp_ok {t : List Nat} (ht : Ok t) {s : Nat} (hs : s < max 1 (t.length - 1)) : Ok (swp t s) ∧ (swp t s).length = t.length ∧ (chk (swp t s) = chk t ↔ swp t s = t) := by
  have h1 := ht.lo
  by_cases h : t.length = 1
  · obtain ⟨c, rfl⟩ := List.length_eq_one_iff.mp h
    obtain rfl : s = 0 := by simp at hs; omega
    have e : swp [c] 0 = [c] := rfl
    rw [e]
    exact ⟨ht, rfl, by simp⟩
  · have hs2 : s + 1 < t.length := by omega
    obtain ⟨c, d, m, e⟩ : ∃ c d m, t = t.take s ++ c :: d :: m := by
      refine ⟨t[s], t[s + 1], t.drop (s + 2), ?_⟩
      rw [List.getElem_cons_drop, List.getElem_cons_drop, List.take_append_drop]
    generalize ea : t.take s = a at e
    have la : a.length = s := by rw [← ea, List.length_take]; omega
    subst e
    rw [← la, swp_two]
    have hsg := ht.sg
    obtain ⟨s1, s2, s3⟩ := isSg_mid.mp hsg
    obtain ⟨s4, s5⟩ : d ∈ sg ∧ isSg m = true := by
      have := isSg_mid (a := []) (c := d) (m := m) |>.mp s3
      exact ⟨this.2.1, this.2.2⟩
    refine ⟨⟨isSg_mid.mpr ⟨s1, s4, isSg_mid (a := []) |>.mpr ⟨rfl, s2, s5⟩⟩, by simp only [List.length_append, List.length_cons]; omega, ?_⟩, by simp, ?_⟩
    · have := ht.hi
      simpa using this
    · by_cases cd : c = d
      · subst cd
        simp
      · constructor
        · intro z
          exact absurd z (chk_swap s4 s2 (fun z => cd z.symm))
        · intro z
          rw [z]
theorem head_plus {t : List Nat} (ht : Ok t) : textAt (d4 (t.length + 1) ++ (d3 (chk t) ++ t)) = none := by
  have := ht.hi
  exact none_long (by omega) (Nat.lt_of_lt_of_le (chk_lt t) (by decide)) (by omega)
theorem chk_plus {t : List Nat} (ht : Ok t) : textAt (d4 t.length ++ (d3 ((chk t + 1) % 997) ++ t)) = none := by
  have := ht.hi
  have h := chk_lt t
  have := none_bent (r := []) (n := t.length) (c := (chk t + 1) % 997) (b := t) (by omega) (by omega) rfl (by omega)
  rwa [List.append_nil] at this
theorem zero_head {t : List Nat} : textAt (d4 0 ++ (d3 (chk t) ++ t)) = none := none_zero (Nat.lt_of_lt_of_le (chk_lt t) (by decide))
theorem zero_all : textAt (d4 0 ++ (d3 0 ++ [])) = none := none_zero (by decide)
theorem dint {x y : Int} : decide (V.int x = V.int y) = true ↔ x = y := by
  rw [decide_eq_true_eq]
  exact ⟨fun h => by injection h, fun h => by rw [h]⟩
theorem dintF {x y : Int} : decide (V.int x = V.int y) = false ↔ x ≠ y := by
  rw [decide_eq_false_iff_not]
  exact ⟨fun h z => h (by rw [z]), fun h z => h (by injection z)⟩
theorem S_inj {a b : List Nat} (h : S a = S b) : a = b := by
  rw [← S_list a, h, S_list]
theorem dstr {a b : List Nat} : decide (V.str (S a) = V.str (S b)) = true ↔ a = b := by
  rw [decide_eq_true_eq]
  exact ⟨fun h => S_inj (by injection h), fun h => by rw [h]⟩
theorem dstrF {a b : List Nat} : decide (V.str (S a) = V.str (S b)) = false ↔ a ≠ b := by
  rw [decide_eq_false_iff_not]
  exact ⟨fun h z => h (by rw [z]), fun h z => h (S_inj (by injection z))⟩
theorem ltx (ts : List (List Nat)) : (txs ts).length = ts.length := by simp [txs]
theorem txs_at {ts : List (List Nat)} {i : Nat} {x : V} (h : (txs ts)[i]? = some x) : ∃ t, ts[i]? = some t ∧ x = .str (S t) := by
  unfold txs at h
  rw [List.getElem?_map] at h
  cases ht : ts[i]? with
  | none => rw [ht] at h; cases h
  | some t =>
    rw [ht] at h
    exact ⟨t, rfl, (Option.some.inj h).symm⟩
/-- the frames of some texts, as values -/
def fvs (ts : List (List Nat)) : List V := ((ts.map fr).map S).map V.str
theorem fvs_next {ts : List (List Nat)} {i : Nat} {t : List Nat} (h : ts[i]? = some t) : fvs (ts.take i) ++ [.str (S (fr t))] = fvs (ts.take (i + 1)) := by
  have e : ts.take (i + 1) = ts.take i ++ [t] := by
    rw [List.take_add_one, h]; rfl
  rw [e]
  simp [fvs]
theorem fvs_len (ts : List (List Nat)) : (fvs ts).length = ts.length := by simp [fvs]
theorem sum_fr (ts : List (List Nat)) : (((ts.map fr).map S).map (·.length)).sum = (ts.map fr).flatten.length := by
  simp [List.length_flatten, Function.comp_def, S_len]
/-- a text in which no frame stands -/
def Nr (x : V) : Prop := ∃ r, x = .str (S r) ∧ r.length ≤ 3000 ∧ textAt r = none
theorem z4_S : (Str.ofString "0000") = S (d4 0) := by decide +kernel
theorem z7_S : (Str.ofString "0000000") = S (d4 0 ++ (d3 0 ++ [])) := by decide +kernel
theorem a_S : (Str.ofString "a") = S [97] := by decide +kernel
theorem b_S : (Str.ofString " ") = S [32] := by decide +kernel
theorem upd_none {H : Hp} {p q : Addr} {o : HO} (h : upd H p o q = none) : q ≠ p ∧ H q = none := by
  have n : q ≠ p := fun z => by
    rw [z, upd_same] at h
    cases h
  exact ⟨n, by rw [upd_ne n] at h; exact h⟩
theorem new_upd {H : Hp} {p q : Addr} {o : HO} (n : q ≠ p) (h : H q = none) : upd H p o q = none := by rw [upd_ne n]; exact h
theorem num4_len {n : Nat} (h : n < 1002) : (numL (10000 + n)).length ≤ 1000 := by
  have := congrArg List.length (cut4 n h)
  rw [List.length_drop, d4_len] at this
  omega
theorem num3_len {n : Nat} (h : n < 1000) : (numL (1000 + n)).length ≤ 1000 := by
  have := congrArg List.length (cut3 n h)
  rw [List.length_drop, d3_len] at this
  omega
abbrev bentN : List Str := ["bag", "texts", "text", "whole", "at", "bent", "spot", "turned", "like", "log", "told", "rests", "own", "rest"]
/-- a bag, texts, one of them -/
def sp_bent (K : PySem.W.Frag) : Sp := fun vs H Q _ => ∃ (b a : Addr) (ts : List (List Nat)) (t : List Nat), vs = [.ref b, .ref a, .str (S t)] ∧ Bag H b ∧ SqL K H a (txs ts) ∧ a ≠ b ∧ (∀ t ∈ ts, Ok t) ∧ ts.length ≤ 4 ∧ ts ≠ [] ∧ Ok t ∧
  ∀ H', Fr (some b) H H' → Bag H' b → Q (.bl true) H'
end K28

set_option Elab.async false
set_option linter.all false
set_option maxRecDepth 100000
set_option maxHeartbeats 4000000
namespace K28
open PySem PySem.Spec PyProof.Rows L2 Xr Vc Tx M28
variable {P : Program} {w : World} {K : PySem.W.Frag} {mg : Str → Option Value} {base : Heap}
local macro_rules | `(tactic| walk_at "go1") => `(tactic| first
  | with_reducible refine w_seq ?_ | with_reducible refine w_asg ?_ | with_reducible refine w_asgG ?_ | with_reducible refine w_next ?_ | with_reducible refine w_parS ?_ | with_reducible refine w_par ?_ | with_reducible refine w_par3S ?_ | with_reducible refine w_par3 ?_ | with_reducible refine w_ret ?_ | with_reducible refine w_retN ?_ | with_reducible refine w_drop ?_ | with_reducible refine w_ifS ?_
  | with_reducible refine w_var (by with_unfolding_all exact rfl) ?_ | with_reducible refine w_c ?_ | with_reducible refine w_op ?_ | with_reducible refine w_un ?_ | with_reducible refine w_chain ?_ | with_reducible refine w_I0 ?_ | with_reducible refine w_U ?_
  | with_reducible refine w_eq (by with_unfolding_all exact rfl) ?_ | with_reducible refine w_ne (by with_unfolding_all exact rfl) ?_ | with_reducible refine w_isN ?_ | with_reducible refine w_notN ?_
  | with_reducible refine w_cb ?_ | with_reducible refine w_nil ?_ | with_reducible refine w_cons ?_ | with_reducible refine w_call ?_ | with_reducible refine w_callW ?_ | with_reducible refine w_int ?_ | with_reducible refine w_abs ?_ | with_reducible refine w_max2 ?_ | with_reducible refine w_min2 ?_
  | with_reducible refine w_test ?_ | with_reducible refine w_tB ?_ | with_reducible refine w_bl ?_ | with_reducible refine w_blE ?_ | with_reducible refine w_and ?_ | with_reducible refine w_or ?_ | with_reducible refine w_not ?_ | with_reducible refine w_andV ?_ | with_reducible refine w_orV ?_ | with_reducible refine w_notV ?_ | with_reducible refine w_ifE ?_ | with_reducible refine w_yes ?_
  | with_reducible refine w_tup ?_ | with_reducible refine w_lst ?_ | with_reducible refine w_bm ?_ | with_reducible refine w_bm0 ?_ | with_reducible refine w_sl ?_ | with_reducible refine w_noPart ?_ | with_reducible refine w_part ?_ | with_reducible refine w_partI ?_ | with_reducible refine lc_of ?_
  | with_reducible refine w_I (by with_unfolding_all (show (0 : Int) < _; decide)) ?_ | with_reducible refine w_iStr ?_ | with_reducible refine w_strE ?_ | with_reducible refine w_iList ?_ | with_reducible refine w_iTup ?_ | with_reducible refine w_iRng1 ?_ | with_reducible refine w_iEnumS ?_ | with_reducible refine w_enumSE ?_ | with_reducible refine w_iEnumS1 ?_ | with_reducible refine w_iEnum ?_ | with_reducible refine for_of ?_ | with_reducible refine w_nT ?_ | with_reducible refine w_nF ?_ | with_reducible refine iteT ?_ | with_reducible refine iteF ?_ | with_reducible refine w_len (by with_unfolding_all exact rfl) ?_ | with_reducible refine w_rfl (by with_unfolding_all exact rfl) ?_ | with_reducible refine ty_strA ?_ | with_reducible refine w_gsub ?_ | with_reducible refine w_gname ?_ | with_reducible refine w_gcons ?_ | with_reducible refine w_gnil ?_ | with_reducible refine w_inS ?_ | with_reducible refine w_niS ?_ | with_reducible refine w_revS ?_)
local macro_rules | `(tactic| walk_at "go") => `(tactic| repeat' (walk_at "go1"))
theorem bent_D (T : Txt K mg) {A : Around} {outer : List Env} {s : Shared} {H0 : Hp} {E : XK} {cdv : Value} (hr : Room 8 (A.deeper (envOfC "_law_bent_right" (defScope s__law_bent_right) s.heap.objs.size T.a__law_bent_right cdv))) :
    ∃ t_, PSs (cxOf CX0 P w K mg base bentN "_law_bent_right" (defScope s__law_bent_right) T.a__law_bent_right cdv A outer s H0 E).nox ((defBody s__law_bent_right).drop 10) t_ ∧
      ∀ (D : Ends) (b a : Addr) (ts : List (List Nat)) (t : List Nat) (H17 : Hp) (v4 v5 v6 v7 v8 v9 v10 v11 v12 v13 : Option V), Bag H17 b → SqL K H17 a (txs ts) → a ≠ b → (∀ t ∈ ts, Ok t) → ts.length ≤ 4 → ts ≠ [] → Ok t → (∀ H', Fr (some b) H17 H' → Bag H' b → D.rt (.bl true) H') →
        t_ D [some (.ref b), some (.ref a), some (.str (S t)), some (.str (S (fr t))), v4, v5, v6, v7, v8, v9, v10, v11, v12, v13] H17 := by
  have G__law_draw : FnOk P w K mg base CX0 1 T.a__law_draw T.d__law_draw ["bag", "many"] sp_draw := ok__law_draw T
  have G__law_one : FnOk P w K mg base CX0 2 T.a__law_one T.d__law_one ["bag", "some"] (sp_one K) := ok__law_one T
  have G__law_stream_right : FnOk P w K mg base CX0 7 T.a__law_stream_right T.d__law_stream_right ["texts", "rest", "is_read"] (sp_stream K) := ok__law_stream_right T
  refine ⟨_, (pss_cons (ps_set (i := 11) sc__law_bent_right.nd rfl (Or.inl rfl) (pe_lst (pa_cons (pe_slice sl_str (pv 3) po_none (po_some (pe_call G__law_draw (hr.mono (by decide)) rfl T.g__law_draw T.F__law_draw.kp T.b__law_draw .nil pass0 (pa_cons (pv 0) (pa_cons (pe_callB call_len_strN (by rfl) T.n_len PySem.boot_len (pa_cons (pv 3) pa_nil)) pa_nil))))) (pa_cons pe_str (pa_cons (pe_op op_add_strN pe_str (pe_slice sl_str (pv 3) (po_some pe_int) po_none)) (pa_cons (pe_op op_add_strN (pe_slice sl_str (pe_callTy call_str_intN (by rfl) T.n_str (by decide +kernel) (pa_cons (pe_op op_add pe_int (pe_callB call_len_strN (by rfl) T.n_len PySem.boot_len (pa_cons (pv 2) pa_nil))) pa_nil)) (po_some pe_int) po_none) (pe_slice sl_str (pv 3) (po_some pe_int) po_none)) pa_nil))))))
    (pss_cons (ps_set (i := 11) sc__law_bent_right.nd rfl (Or.inl rfl) (pe_op op_cat (pv 11) (pe_lst (pa_cons (pe_op op_add_strN (pe_op op_add_strN (pe_slice sl_str (pv 3) po_none (po_some pe_int)) (pe_slice sl_str (pe_callTy call_str_intN (by rfl) T.n_str (by decide +kernel) (pa_cons (pe_op op_add pe_int (pe_op op_mod (pe_callTy call_int1N (by rfl) T.n_int (by decide +kernel) (pa_cons (pe_op op_add (pe_callTy call_int_strN (by rfl) T.n_int (by decide +kernel) (pa_cons (pe_slice sl_str (pv 3) (po_some pe_int) (po_some pe_int)) pa_nil)) pe_int) pa_nil)) pe_int)) pa_nil)) (po_some pe_int) po_none)) (pv 2)) (pa_cons (pe_op op_add_strN pe_str (pv 3)) (pa_cons (pe_op op_add_strN pe_str (pv 3)) pa_nil))))))
    (pss_one (ps_ret (pe_callB (cr_allK (K := K) rfl rfl) (by rfl) T.n_all (by decide +kernel) (pa_cons (pe_lc (own := [("rest", 13)]) (g := gName 13) (tt := tYes) rfl sc__law_bent_right.nd (pi_listK (K := K) rfl (pe_op op_cat (pe_slice (sl_listK (K := K) rfl) (pv 11) po_none (po_some pe_int)) (pe_lst (pa_cons (pe_call G__law_one (hr.mono (by decide)) rfl T.g__law_one T.F__law_one.kp T.b__law_one .nil pass0 (pa_cons (pv 0) (pa_cons (pe_slice (sl_listK (K := K) rfl) (pv 11) (po_some pe_int) po_none) pa_nil))) pa_nil)))) (blkOk_by (own := [("rest", 13)]) (N := ["bag", "texts", "text", "whole", "at", "bent", "spot", "turned", "like", "log", "told", "rests", "own", "rest"]) (sc := defScope s__law_bent_right) (by decide +kernel)) (fun _ _ _ _ _ => (pg_name (i := 13) sc__law_bent_right.nd rfl (Or.inl rfl))) (fun _ _ _ _ _ => pts_nil) (fun _ _ _ _ _ => (pe_call G__law_stream_right (hr.mono (by decide)) rfl T.g__law_stream_right T.F__law_stream_right.kp T.b__law_stream_right .nil pass0 (pa_cons (pv 1) (pa_cons (pv 13) (pa_cons pe_bl pa_nil)))))) pa_nil)))))), ?_⟩
  · intro D b a ts t H17 v4 v5 v6 v7 v8 v9 v10 v11 v12 v13 B17 hS nab ok h4 tne okt k
    have t1 := okt.lo
    have t2 := okt.hi
    have nab' : (some b : Option Addr) ≠ some a := fun z => nab (Option.some.inj z).symm
    have hz : (S t).length ≤ sizeLine := by rw [S_len, sizeLine_eq]; omega
    have hfl := fr_len t
    have hzf : (S (fr t)).length ≤ sizeLine := by rw [S_len, sizeLine_eq]; omega
    have F17 : Fr (some b) H17 H17 := Fr.refl _ _
    walk_at "go"
    refine w_lenS hzf ?_
    rw [S_len, hfl]
    walk_at "go"
    refine ⟨b, _, rfl, B17, by omega, by omega, fun cu H18 hcu f18 B18 => ?_⟩
    have F18 := F17.trans f18
    walk_at "go"
    refine w_slS hzf ?_
    rw [cut_to]
    walk_at "go"
    refine w_slS hzf ?_
    rw [show (4 : Int) = ((4 : Nat) : Int) from rfl, cut_from]
    rw [z4_S]
    have hd4 : (fr t).drop 4 = d3 (chk t) ++ t := rfl
    rw [hd4]
    refine w_addS (b := S (d3 (chk t) ++ t)) (by simp only [S_len, sizeLine_eq, List.length_append, d4_len, d3_len]; omega) ?_
    rw [S_app]
    walk_at "go"
    refine w_lenS hz ?_
    rw [S_len]
    walk_at "go"
    refine w_strI (i := 10001 + (t.length : Nat)) (log_small (by omega) (by omega)) ?_
    walk_at "go"
    rw [show (10001 : Int) + (t.length : Nat) = ((10000 + (t.length + 1) : Nat) : Int) by omega, str_num]
    have n4 := num4_len (n := t.length + 1) (by omega)
    refine w_slS (by rw [S_len, sizeLine_eq]; omega) ?_
    rw [show (1 : Int) = ((1 : Nat) : Int) from rfl, cut_from, cut4 _ (by omega)]
    walk_at "go"
    refine w_slS hzf ?_
    rw [cut_from, hd4]
    refine w_addS (b := S (d3 (chk t) ++ t)) (by simp only [S_len, sizeLine_eq, List.length_append, d4_len, d3_len]; omega) ?_
    rw [S_app]
    walk_at "go"
    intro p19 hp19
    walk_at "go"
    refine w_slS hzf ?_
    rw [cut_to]
    walk_at "go"
    refine w_slS hzf ?_
    rw [show (7 : Int) = ((7 : Nat) : Int) from rfl, cut_nn, show ((fr t).drop 4).take (7 - 4) = d3 (chk t) from rfl]
    walk_at "go"
    have hcl := chk_lt t
    refine w_intS (dg_int (d3_dg _) (List.cons_ne_nil _ _) (by rw [d3_len]; decide)) (by rw [S_len, d3_len]; decide) ?_
    rw [d3_val (by omega)]
    walk_at "go"
    refine w_strI (i := 1000 + ((chk t : Nat) + 1) % 997) (log_small (by omega) (by omega)) ?_
    walk_at "go"
    rw [show (1000 : Int) + ((chk t : Nat) + 1) % 997 = ((1000 + (chk t + 1) % 997 : Nat) : Int) by omega, str_num]
    have n3 := num3_len (n := (chk t + 1) % 997) (by omega)
    refine w_slS (by rw [S_len, sizeLine_eq]; omega) ?_
    rw [cut_from, cut3 _ (by omega)]
    refine w_addS (by simp only [S_len, sizeLine_eq, List.length_take, d3_len]; omega) ?_
    rw [S_app]
    walk_at "go"
    refine w_addS (by simp only [S_len, sizeLine_eq, List.length_append, List.length_take, d3_len]; omega) ?_
    rw [S_app, show ((fr t).take 4 ++ d3 ((chk t + 1) % 997)) ++ t = d4 t.length ++ (d3 ((chk t + 1) % 997) ++ t) from rfl]
    walk_at "go"
    rw [a_S]
    refine w_addS (a := S [97]) (by simp only [S_len, sizeLine_eq, List.length_cons, List.length_nil]; omega) ?_
    rw [S_app]
    walk_at "go"
    rw [b_S]
    refine w_addS (a := S [32]) (by simp only [S_len, sizeLine_eq, List.length_cons, List.length_nil]; omega) ?_
    rw [S_app]
    walk_at "go"
    intro p20 hp20
    have n1920 : p19 ≠ p20 := fun z => by
      rw [← z, upd_same] at hp20
      cases hp20
    refine w_cat (by rw [upd_ne n1920, upd_same]) upd_same (by rw [sizeLine_eq]; exact (by decide : 4 + 3 ≤ 16777216)) fun p21 hp21 => ?_
    obtain ⟨m20, hp20'⟩ := upd_none hp20
    obtain ⟨m21, hp21'⟩ := upd_none hp21
    obtain ⟨m21', hp21''⟩ := upd_none hp21'
    rw [z7_S]
    have r1 : Nr (.str (S ((fr t).take cu))) := ⟨_, rfl, by rw [List.length_take]; omega, none_cut okt (by omega)⟩
    have r2 : Nr (.str (S (d4 0 ++ (d3 0 ++ [])))) := ⟨_, rfl, by decide, zero_all⟩
    have r3 : Nr (.str (S (d4 0 ++ (d3 (chk t) ++ t)))) := ⟨_, rfl, by simp only [List.length_append, d4_len, d3_len]; omega, zero_head⟩
    have r4 : Nr (.str (S (d4 (t.length + 1) ++ (d3 (chk t) ++ t)))) := ⟨_, rfl, by simp only [List.length_append, d4_len, d3_len]; omega, head_plus okt⟩
    have r5 : Nr (.str (S (d4 t.length ++ (d3 ((chk t + 1) % 997) ++ t)))) := ⟨_, rfl, by simp only [List.length_append, d4_len, d3_len]; omega, chk_plus okt⟩
    have r6 : Nr (.str (S ([97] ++ fr t))) := ⟨_, rfl, by simp only [List.length_append, List.length_cons, List.length_nil]; omega, none_odd (by decide)⟩
    have r7 : Nr (.str (S ([32] ++ fr t))) := ⟨_, rfl, by simp only [List.length_append, List.length_cons, List.length_nil]; omega, none_odd (by decide)⟩
    generalize V.str (S ((fr t).take cu)) = x1 at r1
    generalize V.str (S (d4 0 ++ (d3 0 ++ []))) = x2 at r2
    generalize V.str (S (d4 0 ++ (d3 (chk t) ++ t))) = x3 at r3
    generalize V.str (S (d4 (t.length + 1) ++ (d3 (chk t) ++ t))) = x4 at r4
    generalize V.str (S (d4 t.length ++ (d3 ((chk t + 1) % 997) ++ t))) = x5 at r5
    generalize V.str (S ([97] ++ fr t)) = x6 at r6
    generalize V.str (S ([32] ++ fr t)) = x7 at r7
    have f21 : Fr none H18 (upd (upd (upd H18 p19 (.lst [x1, x2, x3, x4])) p20 (.lst [x5, x6, x7])) p21 (.lst ([x1, x2, x3, x4] ++ [x5, x6, x7]))) :=
      (Fr.new hp19).trans ((Fr.new (new_upd m20 hp20')).trans (Fr.new (new_upd m21 (new_upd m21' hp21''))))
    have B21 := B18.free f21
    walk_at "go"
    refine w_slL (SqL.of upd_same) fun p22 hp22 => ?_
    walk_at "go"
    obtain ⟨m22, _⟩ := upd_none hp22
    refine w_slL (a := p21) (xs := [x1, x2, x3, x4, x5, x6, x7]) (SqL.of (by rw [upd_ne (Ne.symm m22), upd_same]; rfl)) fun p23 hp23 => ?_
    obtain ⟨m23, _⟩ := upd_none hp23
    have c1 : cutV ([x1, x2, x3, x4] ++ [x5, x6, x7]) none (some 2) = [x1, x2] := rfl
    have c2 : cutV [x1, x2, x3, x4, x5, x6, x7] (some 2) none = [x3, x4, x5, x6, x7] := rfl
    rw [c1, c2]
    rw [c1] at hp23
    walk_at "go"
    have f23 := (Fr.new (M := none) (o := .lst [x1, x2]) hp22).trans (Fr.new (o := .lst [x3, x4, x5, x6, x7]) hp23)
    have B23 := B21.free f23
    have b22 := B21.ne hp22
    have b23 := (B21.free (Fr.new (o := .lst [x1, x2]) hp22)).ne hp23
    refine ⟨b, _, rfl, B23, .inr ⟨p23, [x3, x4, x5, x6, x7], rfl, SqL.of upd_same, Ne.symm b23, by simp, by simp, fun x H24 hx f24 B24 => ?_⟩⟩
    have rx : Nr x := by
      simp only [List.mem_cons, List.not_mem_nil, or_false] at hx
      rcases hx with rfl | rfl | rfl | rfl | rfl <;> assumption
    have h22 : H24 p22 = some (.lst [x1, x2]) := f24 _ _ (fun z => b22 (Option.some.inj z)) (by rw [upd_ne (Ne.symm m23), upd_same])
    have F24 := F18.trans ((Fr.of (f21.trans f23)).trans f24)
    walk_at "go"
    intro p25 hp25
    have m25 : p22 ≠ p25 := fun z => by
      rw [← z, h22] at hp25
      cases hp25
    refine w_cat (by rw [upd_ne m25]; exact h22) upd_same (by rw [sizeLine_eq]; exact (by decide : 2 + 1 ≤ 16777216)) fun p26 hp26 => ?_
    have F26 := F24.trans ((Fr.new (o := .lst [x]) hp25).trans (Fr.new (o := .lst [x1, x2, x]) hp26))
    have B26 := B24.free ((Fr.new (o := .lst [x]) hp25).trans (Fr.new (o := .lst [x1, x2, x]) hp26))
    walk_at "go"
    refine w_listE (xs := [x1, x2, x]) (SqL.of upd_same) ?_
    refine lc_go (walk_list (xs := [x1, x2, x])) (M := none) Bg.none (fun _ f => Fr.sql f (by simp) (SqL.of upd_same)) (fun i acc => acc = (List.replicate i true).map V.bl) (fun i acc hi h => by rw [h]; simp at hi ⊢; omega) rfl ?_ ?_
    · rintro i y H27 H28 acc Zt Zf hi f27 _ rfl ⟨rfl, hy⟩ kt kf
      obtain ⟨r, rfl, hrl, hrn⟩ : Nr y := by
        have hm := List.mem_of_getElem? hy
        simp only [List.mem_cons, List.not_mem_nil, or_false] at hm
        rcases hm with rfl | rfl | rfl <;> assumption
      walk_at "go"
      refine ⟨a, ts, r, false, [], 0, rfl, (F26.trans (Fr.of f27)).sql nab' hS, ok, h4, by omega, .stop hrn, (fun z => nomatch z), (fun _ => rfl), fun H29 f29 => ?_⟩
      exact kt _ _ f29 Bg.none (rep_snoc i)
    · rintro q H27 acc hq f27 _ e rfl
      walk_at "go"
      exact w_all_true (SqL.of e) (k _ (F26.trans (Fr.of f27)) (B26.free f27))
end K28

set_option Elab.async false
set_option linter.all false
set_option maxRecDepth 100000
set_option maxHeartbeats 4000000
namespace K28
open PySem PySem.Spec PyProof.Rows L2 Xr Vc Tx M28
variable {P : Program} {w : World} {K : PySem.W.Frag} {mg : Str → Option Value} {base : Heap}
local macro_rules | `(tactic| walk_at "go1") => `(tactic| first
  | with_reducible refine w_seq ?_ | with_reducible refine w_asg ?_ | with_reducible refine w_asgG ?_ | with_reducible refine w_next ?_ | with_reducible refine w_parS ?_ | with_reducible refine w_par ?_ | with_reducible refine w_par3S ?_ | with_reducible refine w_par3 ?_ | with_reducible refine w_ret ?_ | with_reducible refine w_retN ?_ | with_reducible refine w_drop ?_ | with_reducible refine w_ifS ?_
  | with_reducible refine w_var (by with_unfolding_all exact rfl) ?_ | with_reducible refine w_c ?_ | with_reducible refine w_op ?_ | with_reducible refine w_un ?_ | with_reducible refine w_chain ?_ | with_reducible refine w_I0 ?_ | with_reducible refine w_U ?_
  | with_reducible refine w_eq (by with_unfolding_all exact rfl) ?_ | with_reducible refine w_ne (by with_unfolding_all exact rfl) ?_ | with_reducible refine w_isN ?_ | with_reducible refine w_notN ?_
  | with_reducible refine w_cb ?_ | with_reducible refine w_nil ?_ | with_reducible refine w_cons ?_ | with_reducible refine w_call ?_ | with_reducible refine w_callW ?_ | with_reducible refine w_int ?_ | with_reducible refine w_abs ?_ | with_reducible refine w_max2 ?_ | with_reducible refine w_min2 ?_
  | with_reducible refine w_test ?_ | with_reducible refine w_tB ?_ | with_reducible refine w_bl ?_ | with_reducible refine w_blE ?_ | with_reducible refine w_and ?_ | with_reducible refine w_or ?_ | with_reducible refine w_not ?_ | with_reducible refine w_andV ?_ | with_reducible refine w_orV ?_ | with_reducible refine w_notV ?_ | with_reducible refine w_ifE ?_ | with_reducible refine w_yes ?_
  | with_reducible refine w_tup ?_ | with_reducible refine w_lst ?_ | with_reducible refine w_bm ?_ | with_reducible refine w_bm0 ?_ | with_reducible refine w_sl ?_ | with_reducible refine w_noPart ?_ | with_reducible refine w_part ?_ | with_reducible refine w_partI ?_ | with_reducible refine lc_of ?_
  | with_reducible refine w_I (by with_unfolding_all (show (0 : Int) < _; decide)) ?_ | with_reducible refine w_iStr ?_ | with_reducible refine w_strE ?_ | with_reducible refine w_iList ?_ | with_reducible refine w_iTup ?_ | with_reducible refine w_iRng1 ?_ | with_reducible refine w_iEnumS ?_ | with_reducible refine w_enumSE ?_ | with_reducible refine w_iEnumS1 ?_ | with_reducible refine w_iEnum ?_ | with_reducible refine for_of ?_ | with_reducible refine w_nT ?_ | with_reducible refine w_nF ?_ | with_reducible refine iteT ?_ | with_reducible refine iteF ?_ | with_reducible refine w_len (by with_unfolding_all exact rfl) ?_ | with_reducible refine w_rfl (by with_unfolding_all exact rfl) ?_ | with_reducible refine ty_strA ?_ | with_reducible refine w_gsub ?_ | with_reducible refine w_gname ?_ | with_reducible refine w_gcons ?_ | with_reducible refine w_gnil ?_ | with_reducible refine w_inS ?_ | with_reducible refine w_niS ?_ | with_reducible refine w_revS ?_)
local macro_rules | `(tactic| walk_at "go") => `(tactic| repeat' (walk_at "go1"))
theorem bent_C (T : Txt K mg) {A : Around} {outer : List Env} {s : Shared} {H0 : Hp} {E : XK} {cdv : Value} (hr : Room 8 (A.deeper (envOfC "_law_bent_right" (defScope s__law_bent_right) s.heap.objs.size T.a__law_bent_right cdv))) :
    ∃ t_, PSs (cxOf CX0 P w K mg base bentN "_law_bent_right" (defScope s__law_bent_right) T.a__law_bent_right cdv A outer s H0 E).nox ((defBody s__law_bent_right).drop 7) t_ ∧
      ∀ (D : Ends) (b a : Addr) (ts : List (List Nat)) (t lk : List Nat) (H8 : Hp) (v4 v5 v6 v7 v9 v10 v11 v12 v13 : Option V), Bag H8 b → SqL K H8 a (txs ts) → a ≠ b → (∀ t ∈ ts, Ok t) → ts.length ≤ 4 → ts ≠ [] → Ok t → Ok lk → lk.length = t.length → chk lk = chk t → (∀ H', Fr (some b) H8 H' → Bag H' b → D.rt (.bl true) H') →
        t_ D [some (.ref b), some (.ref a), some (.str (S t)), some (.str (S (fr t))), v4, v5, v6, v7, some (.str (S lk)), v9, v10, v11, v12, v13] H8 := by
  obtain ⟨t2, p2, q2⟩ := bent_D (P := P) (w := w) (outer := outer) (H0 := H0) (E := E) T hr
  have G__law_frame : FnOk P w K mg base CX0 1 T.a__law_frame T.d__law_frame ["text"] sp_lframe := ok__law_frame T
  have G_check_number : FnOk P w K mg base (L2.CX P w) 8 T.a_check_number T.d_check_number ["text"] sp_check_number := ok_check_number T
  have G_frames_in : FnOk P w K mg base (L2.CX P w) 6 T.a_frames_in T.d_frames_in ["text"] (sp_frames_in K T.C_InvalidText) := ok_frames_in T
  have G__law_same : FnOk P w K mg base CX0 4 T.a__law_same T.d__law_same ["given", "due"] (sp_same K 2) := ok__law_same T 2
  refine ⟨_, (pss_cons (ps_set (i := 9) sc__law_bent_right.nd rfl (Or.inl rfl) (pe_bmK (K := K) rfl (pe_bm PySem.F.plainAttrs_str PySem.F.slot_str_join PySem.F.type_str_join (mt_joinK (K := K) rfl) pe_str (pa_cons (pe_lc (own := [("own", 12)]) (g := gName 12) (tt := tYes) rfl sc__law_bent_right.nd (pi_listK (K := K) rfl (pv 1)) (blkOk_by (own := [("own", 12)]) (N := ["bag", "texts", "text", "whole", "at", "bent", "spot", "turned", "like", "log", "told", "rests", "own", "rest"]) (sc := defScope s__law_bent_right) (by decide +kernel)) (fun _ _ _ _ _ => (pg_name (i := 12) sc__law_bent_right.nd rfl (Or.inl rfl))) (fun _ _ _ _ _ => pts_nil) (fun _ _ _ _ _ => (pe_call G__law_frame (hr.mono (by decide)) rfl T.g__law_frame T.F__law_frame.kp T.b__law_frame .nil pass0 (pa_cons (pv 12) pa_nil)))) pa_nil))))
    (pss_cons (ps_set (i := 10) sc__law_bent_right.nd rfl (Or.inl rfl) (pe_callW0 G_frames_in (hr.mono (by decide)) rfl T.g_frames_in T.F_frames_in.kp T.kb_frames_in_text passL (pk_cons (pe_op op_add_strN (pe_op op_add_strN (pv 9) (pe_slice sl_str (pv 3) po_none (po_some pe_int))) (pv 8)) pk_nil)))
    (pss_cons (ps_if (PW.pt (pw_or (pt_not (pt_val (pe_call G__law_same (hr.mono (by decide)) rfl T.g__law_same T.F__law_same.kp T.b__law_same .nil pass0 (pa_cons (pv 10) (pa_cons (pe_tup (pa_cons (pe_op (op_catAK (K := K) rfl) (pe_callTy (call_tuple_ofK (K := K) rfl) (by rfl) T.n_tuple (by decide +kernel) (pa_cons (pv 1) pa_nil)) (pe_tup (pa_cons (pv 8) pa_nil))) (pa_cons (pe_callB call_len_strN (by rfl) T.n_len PySem.boot_len (pa_cons (pe_op op_add_strN (pv 9) (pv 3)) pa_nil)) pa_nil))) pa_nil))))) (pw_or1 (pt_cmpR op_ne (pe_call G_check_number (hr.mono (by decide)) rfl T.g_check_number T.F_check_number.kp T.b_check_number .nil passL (pa_cons (pv 8) pa_nil)) (pe_call G_check_number (hr.mono (by decide)) rfl T.g_check_number T.F_check_number.kp T.b_check_number .nil passL (pa_cons (pv 2) pa_nil)) (nomark _))))) (pss_one (ps_ret pe_bl)) pss_nil)
    p2))), ?_⟩
  · intro D b a ts t lk H8 v4 v5 v6 v7 v9 v10 v11 v12 v13 B8 hS nab ok h4 tne okt oklk hlk hck k
    have t1 := okt.lo
    have t2 := okt.hi
    have nab' : (some b : Option Addr) ≠ some a := fun z => nab (Option.some.inj z).symm
    have hz : (S t).length ≤ sizeLine := by rw [S_len, sizeLine_eq]; omega
    have hfl := fr_len t
    have hzf : (S (fr t)).length ≤ sizeLine := by rw [S_len, sizeLine_eq]; omega
    have F8 : Fr (some b) H8 H8 := Fr.refl _ _
    walk_at "go"
    have hS8 : SqL K H8 a (txs ts) := F8.sql nab' hS
    have hll := lg_len ok ts.length
    rw [lg_all] at hll
    refine w_listE hS8 ?_
    refine lc_go walk_list (M := none) Bg.none (fun _ f => Fr.sql f (by simp) hS8) (fun i acc => acc = fvs (ts.take i)) ?_ rfl ?_ ?_
    · rintro i acc hi rfl
      rw [ltx] at hi
      rw [fvs_len, List.length_take]
      omega
    · rintro i x H9 H10 acc Zt Zf hi f _ rfl ⟨rfl, hx⟩ kt kf
      obtain ⟨u, hu, rfl⟩ := txs_at hx
      walk_at "go"
      refine ⟨u, rfl, ok u (List.mem_of_getElem? hu), fun H11 f11 => ?_⟩
      exact kt _ _ f11 Bg.none (fvs_next hu)
    rintro q9 H9 acc _ f9 _ e9 rfl
    rw [ltx, List.take_length] at e9
    have F9 := F8.trans (Fr.of f9)
    have B9 := B8.free f9
    walk_at "go"
    rw [empty_S]
    refine w_join (ys := (ts.map fr).map S) (SqL.of e9) (by rw [sum_fr, show (S []).length = 0 from rfl]; omega) ?_
    rw [join_S]
    have hzl : (S (ts.map fr).flatten).length ≤ sizeLine := by rw [S_len, sizeLine_eq]; omega
    walk_at "go"
    refine w_slS hzf ?_
    rw [show (7 : Int) = ((7 : Nat) : Int) from rfl, cut_to]
    refine w_addS (by simp only [S_len, sizeLine_eq, List.length_take]; omega) ?_
    rw [S_app]
    walk_at "go"
    have lk1 := oklk.lo
    have lk2 := oklk.hi
    refine w_addS (by simp only [S_len, sizeLine_eq, List.length_append, List.length_take]; omega) ?_
    rw [S_app, List.append_assoc, fr_bent t lk hlk hck]
    walk_at "go"
    have hpl := Ps.frames (ts := ts ++ [lk]) (r := []) (us := []) (e := 0) (fun x hx => by
      rcases List.mem_append.mp hx with h | h
      · exact ok x h
      · simp at h
        rw [h]
        exact oklk) (.stop (none_short (by decide)))
    have efl : ((ts ++ [lk]).map fr).flatten = (ts.map fr).flatten ++ fr lk := by simp
    rw [efl, List.append_nil, List.append_nil, Nat.add_zero] at hpl
    have hfk := fr_len lk
    refine ⟨_, rfl, .inl ⟨_, rfl, by rw [List.length_append]; omega, fun p10 q10 H10 ts' e' hp' he' hts' f10 h1 h2 => ?_⟩⟩
    obtain ⟨rfl, rfl⟩ := Ps.one hp' hpl
    have F10 := F9.trans (Fr.of f10)
    have B10 := B9.free f10
    walk_at "go"
    refine w_tupL (F10.sql nab' hS) fun p11 hp11 => ?_
    walk_at "go"
    intro p12 hp12
    have n1112 : p11 ≠ p12 := fun z => by
      rw [← z, upd_same] at hp12
      cases hp12
    have n0 : txs ts ≠ [] := fun z => tne (List.eq_nil_of_length_eq_zero (by rw [← ltx, z]; rfl))
    refine ⟨p11, p12, txs ts, [.str (S lk)], rfl, rfl, SqT.of (by rw [upd_ne n1112, upd_same]), SqT.of upd_same, by rw [ltx, sizeLine_eq]; simp; omega, fun z => absurd z n0, fun _ z => by simp at z, fun _ _ p13 hp13 => ?_⟩
    walk_at "go"
    refine w_addS (by simp only [S_len, sizeLine_eq]; omega) ?_
    rw [S_app]
    walk_at "go"
    refine w_lenS (z := S ((ts.map fr).flatten ++ fr t)) (by rw [S_len, sizeLine_eq, List.length_append]; omega) ?_
    rw [S_len]
    walk_at "go"
    intro p14 hp14
    walk_at "go"
    have n1314 : p13 ≠ p14 := fun z => by
      rw [← z, upd_same] at hp14
      cases hp14
    have etx : txs ts ++ [.str (S lk)] = txs (ts ++ [lk]) := by simp [txs]
    have okl : ∀ t ∈ ts ++ [lk], Ok t := fun x hx => by
      rcases List.mem_append.mp hx with h | h
      · exact ok x h
      · simp at h
        rw [h]
        exact oklk
    have eln : ((ts.map fr).flatten ++ fr lk).length = ((ts.map fr).flatten ++ fr t).length := by
      rw [List.length_append, List.length_append]
      omega
    rw [eln] at h1
    rw [etx]
    generalize hN : ((ts.map fr).flatten ++ fr t).length = N at h1
    have f14 : Fr none H10 (upd (upd (upd (upd H10 p11 (.tup (txs ts))) p12 (.tup [.str (S lk)])) p13 (.tup (txs (ts ++ [lk])))) p14 (.tup [.ref p13, .int (N : Nat)])) := by
      rw [etx] at hp14
      exact (Fr.new hp11).trans ((Fr.new hp12).trans ((Fr.new hp13).trans (Fr.new hp14)))
    refine ⟨_, _, .tuple [.tuple (dtx (ts ++ [lk])), .int (N : Nat)], rfl,
      Vc.Dp.fr f14 (.tup (SqT.of h1) (.cons (.tup (SqT.of h2) (dp_tx _)) (.cons (.int _) .nil))),
      .tup (SqT.of upd_same) (.cons (.tup (SqT.of (by rw [upd_ne n1314, upd_same])) (dp_tx _)) (.cons (.int _) .nil)), ?_, fun H15 f15 => ?_⟩
    · have hdl : (dtx (ts ++ [lk])).length = ts.length + 1 := by simp [dtx]
      simp only [okd, List.all_cons, List.all_nil, Bool.and_true, Bool.and_eq_true, decide_eq_true_eq, List.length_cons, List.length_nil, List.all_eq_true]
      exact ⟨by decide, by omega, okd_tx okl 0⟩
    have F15 := F10.trans (Fr.of (f14.trans f15))
    have B15 := B10.free (f14.trans f15)
    walk_at "go"
    refine ⟨lk, rfl, oklk.sg, by omega, fun H16 f16 => ?_⟩
    walk_at "go"
    refine ⟨t, rfl, okt.sg, by omega, fun H17 f17 => ?_⟩
    have F17 := F15.trans (Fr.of (f16.trans f17))
    have B17 := B15.free (f16.trans f17)
    rw [hck]
    walk_at "go"
    refine w_itn (fun z => absurd rfl z) fun _ => ?_
    walk_at "go"
    exact q2 _ b a ts t H17 _ _ _ _ _ _ _ _ _ _ B17 (F17.sql nab' hS) nab ok h4 tne okt fun H' f B => k _ (F17.trans f) B
end K28

set_option Elab.async false
set_option linter.all false
set_option maxRecDepth 100000
set_option maxHeartbeats 4000000
namespace K28
open PySem PySem.Spec PyProof.Rows L2 Xr Vc Tx M28
variable {P : Program} {w : World} {K : PySem.W.Frag} {mg : Str → Option Value} {base : Heap}
local macro_rules | `(tactic| walk_at "go1") => `(tactic| first
  | with_reducible refine w_seq ?_ | with_reducible refine w_asg ?_ | with_reducible refine w_asgG ?_ | with_reducible refine w_next ?_ | with_reducible refine w_parS ?_ | with_reducible refine w_par ?_ | with_reducible refine w_par3S ?_ | with_reducible refine w_par3 ?_ | with_reducible refine w_ret ?_ | with_reducible refine w_retN ?_ | with_reducible refine w_drop ?_ | with_reducible refine w_ifS ?_
  | with_reducible refine w_var (by with_unfolding_all exact rfl) ?_ | with_reducible refine w_c ?_ | with_reducible refine w_op ?_ | with_reducible refine w_un ?_ | with_reducible refine w_chain ?_ | with_reducible refine w_I0 ?_ | with_reducible refine w_U ?_
  | with_reducible refine w_eq (by with_unfolding_all exact rfl) ?_ | with_reducible refine w_ne (by with_unfolding_all exact rfl) ?_ | with_reducible refine w_isN ?_ | with_reducible refine w_notN ?_
  | with_reducible refine w_cb ?_ | with_reducible refine w_nil ?_ | with_reducible refine w_cons ?_ | with_reducible refine w_call ?_ | with_reducible refine w_callW ?_ | with_reducible refine w_int ?_ | with_reducible refine w_abs ?_ | with_reducible refine w_max2 ?_ | with_reducible refine w_min2 ?_
  | with_reducible refine w_test ?_ | with_reducible refine w_tB ?_ | with_reducible refine w_bl ?_ | with_reducible refine w_blE ?_ | with_reducible refine w_and ?_ | with_reducible refine w_or ?_ | with_reducible refine w_not ?_ | with_reducible refine w_andV ?_ | with_reducible refine w_orV ?_ | with_reducible refine w_notV ?_ | with_reducible refine w_ifE ?_ | with_reducible refine w_yes ?_
  | with_reducible refine w_tup ?_ | with_reducible refine w_lst ?_ | with_reducible refine w_bm ?_ | with_reducible refine w_bm0 ?_ | with_reducible refine w_sl ?_ | with_reducible refine w_noPart ?_ | with_reducible refine w_part ?_ | with_reducible refine w_partI ?_ | with_reducible refine lc_of ?_
  | with_reducible refine w_I (by with_unfolding_all (show (0 : Int) < _; decide)) ?_ | with_reducible refine w_iStr ?_ | with_reducible refine w_strE ?_ | with_reducible refine w_iList ?_ | with_reducible refine w_iTup ?_ | with_reducible refine w_iRng1 ?_ | with_reducible refine w_iEnumS ?_ | with_reducible refine w_enumSE ?_ | with_reducible refine w_iEnumS1 ?_ | with_reducible refine w_iEnum ?_ | with_reducible refine for_of ?_ | with_reducible refine w_nT ?_ | with_reducible refine w_nF ?_ | with_reducible refine iteT ?_ | with_reducible refine iteF ?_ | with_reducible refine w_len (by with_unfolding_all exact rfl) ?_ | with_reducible refine w_rfl (by with_unfolding_all exact rfl) ?_ | with_reducible refine ty_strA ?_ | with_reducible refine w_gsub ?_ | with_reducible refine w_gname ?_ | with_reducible refine w_gcons ?_ | with_reducible refine w_gnil ?_ | with_reducible refine w_inS ?_ | with_reducible refine w_niS ?_ | with_reducible refine w_revS ?_)
local macro_rules | `(tactic| walk_at "go") => `(tactic| repeat' (walk_at "go1"))
theorem bent_B (T : Txt K mg) {A : Around} {outer : List Env} {s : Shared} {H0 : Hp} {E : XK} {cdv : Value} (hr : Room 8 (A.deeper (envOfC "_law_bent_right" (defScope s__law_bent_right) s.heap.objs.size T.a__law_bent_right cdv))) :
    ∃ t_, PSs (cxOf CX0 P w K mg base bentN "_law_bent_right" (defScope s__law_bent_right) T.a__law_bent_right cdv A outer s H0 E).nox ((defBody s__law_bent_right).drop 3) t_ ∧
      ∀ (D : Ends) (b a : Addr) (ts : List (List Nat)) (t : List Nat) (H5 : Hp) (v4 v5 v6 v7 v8 v9 v10 v11 v12 v13 : Option V), Bag H5 b → SqL K H5 a (txs ts) → a ≠ b → (∀ t ∈ ts, Ok t) → ts.length ≤ 4 → ts ≠ [] → Ok t → (∀ H', Fr (some b) H5 H' → Bag H' b → D.rt (.bl true) H') →
        t_ D [some (.ref b), some (.ref a), some (.str (S t)), some (.str (S (fr t))), v4, v5, v6, v7, v8, v9, v10, v11, v12, v13] H5 := by
  obtain ⟨t2, pX, qX⟩ := bent_C (P := P) (w := w) (outer := outer) (H0 := H0) (E := E) T hr
  have G__law_draw : FnOk P w K mg base CX0 1 T.a__law_draw T.d__law_draw ["bag", "many"] sp_draw := ok__law_draw T
  have G__law_kept_check : FnOk P w K mg base CX0 3 T.a__law_kept_check T.d__law_kept_check ["bag", "text"] sp_kept := ok__law_kept_check T
  have G__law_stream_right : FnOk P w K mg base CX0 7 T.a__law_stream_right T.d__law_stream_right ["texts", "rest", "is_read"] (sp_stream K) := ok__law_stream_right T
  refine ⟨_, (pss_cons (ps_set (i := 6) sc__law_bent_right.nd rfl (Or.inl rfl) (pe_call G__law_draw (hr.mono (by decide)) rfl T.g__law_draw T.F__law_draw.kp T.b__law_draw .nil pass0 (pa_cons (pv 0) (pa_cons (pe_callB (call_max2N rfl) (by rfl) T.n_max (by decide +kernel) (pa_cons pe_int (pa_cons (pe_op op_sub (pe_callB call_len_strN (by rfl) T.n_len PySem.boot_len (pa_cons (pv 2) pa_nil)) pe_int) pa_nil))) pa_nil))))
    (pss_cons (ps_set (i := 7) sc__law_bent_right.nd rfl (Or.inl rfl) (pe_op op_add_strN (pe_op op_add_strN (pe_slice sl_str (pv 2) po_none (po_some (pv 6))) (pe_revS (pe_slice sl_str (pv 2) (po_some (pv 6)) (po_some (pe_op op_add (pv 6) pe_int))))) (pe_slice sl_str (pv 2) (po_some (pe_op op_add (pv 6) pe_int)) po_none)))
    (pss_cons (ps_if (pt_not (pt_val (pe_call G__law_stream_right (hr.mono (by decide)) rfl T.g__law_stream_right T.F__law_stream_right.kp T.b__law_stream_right .nil pass0 (pa_cons (pv 1) (pa_cons (pe_op op_add_strN (pe_op op_add_strN (pe_slice sl_str (pv 3) po_none (po_some pe_int)) (pv 7)) (pv 3)) (pa_cons (pe_cmpR op_eq (pv 7) (pv 2) (nomark _)) pa_nil)))))) (pss_one (ps_ret pe_bl)) pss_nil)
    (pss_cons (ps_set (i := 8) sc__law_bent_right.nd rfl (Or.inl rfl) (pe_call G__law_kept_check (hr.mono (by decide)) rfl T.g__law_kept_check T.F__law_kept_check.kp T.b__law_kept_check .nil pass0 (pa_cons (pv 0) (pa_cons (pv 2) pa_nil))))
    pX)))), ?_⟩
  · intro D b a ts t H5 v4 v5 v6 v7 v8 v9 v10 v11 v12 v13 B5 hS nab ok h4 tne okt k
    have t1 := okt.lo
    have t2 := okt.hi
    have nab' : (some b : Option Addr) ≠ some a := fun z => nab (Option.some.inj z).symm
    have hz : (S t).length ≤ sizeLine := by rw [S_len, sizeLine_eq]; omega
    have hfl := fr_len t
    have hzf : (S (fr t)).length ≤ sizeLine := by rw [S_len, sizeLine_eq]; omega
    have F5 : Fr (some b) H5 H5 := Fr.refl _ _
    walk_at "go"
    refine w_lenS hz ?_
    rw [S_len]
    walk_at "go"
    have hmax : (if (t.length : Int) - 1 > 1 then (t.length : Int) - 1 else 1) = ((max 1 (t.length - 1) : Nat) : Int) := by
      split <;> omega
    rw [hmax]
    refine ⟨b, _, rfl, B5, by omega, by omega, fun sp H6 hsp f6 B6 => ?_⟩
    have F6 := F5.trans f6
    have hsp' : sp < max 1 (t.length - 1) := by omega
    obtain ⟨oks, hls, hcs⟩ := swp_ok okt hsp'
    walk_at "go"
    refine w_slS hz ?_
    rw [cut_to]
    walk_at "go"
    refine w_slS hz ?_
    rw [show (sp : Int) + 2 = ((sp + 2 : Nat) : Int) by omega, cut_nn, show sp + 2 - sp = 2 by omega]
    refine ⟨_, rfl, by rw [S_len, sizeLine_eq, List.length_take]; omega, ?_⟩
    rw [S_list]
    refine w_addS (b := S ((t.drop sp).take 2).reverse) (by simp only [S_len, sizeLine_eq, List.length_append, List.length_reverse, List.length_take, List.length_drop]; omega) ?_
    rw [S_app]
    walk_at "go"
    refine w_slS hz ?_
    rw [show (sp : Int) + 2 = ((sp + 2 : Nat) : Int) by omega, cut_from]
    refine w_addS (by simp only [S_len, sizeLine_eq, List.length_append, List.length_reverse, List.length_take, List.length_drop]; omega) ?_
    rw [S_app, show (t.take sp ++ ((t.drop sp).take 2).reverse) ++ t.drop (sp + 2) = swp t sp from rfl]
    generalize swp t sp = tn at oks hls hcs
    walk_at "go"
    refine w_slS hzf ?_
    rw [show (7 : Int) = ((7 : Nat) : Int) from rfl, cut_to]
    walk_at "go"
    refine w_addS (by rw [S_len, S_len, sizeLine_eq, List.length_take]; omega) ?_
    rw [S_app]
    walk_at "go"
    refine w_addS (by rw [S_len, S_len, sizeLine_eq, List.length_append, List.length_take]; omega) ?_
    rw [S_app]
    walk_at "go"
    obtain ⟨us2, e2, p2, q2, q2'⟩ := bent_ps okt oks hls
    have hlr2 : ((fr t).take 7 ++ tn ++ fr t).length ≤ 3000 := by
      rw [List.length_append, List.length_append, List.length_take]
      omega
    refine ⟨a, ts, _, _, us2, e2, rfl, F6.sql nab' hS, ok, h4, by omega, p2, fun hb => q2 (hcs.mpr (dstr.mp hb)), fun hb => q2' fun z => dstrF.mp hb (hcs.mp z), fun H7 f7 => ?_⟩
    have F7 := F6.trans (Fr.of f7)
    have B7 := B6.free f7
    walk_at "go"
    refine ⟨b, t, rfl, B7, okt, fun lk H8 oklk hlk hck f8 B8 => ?_⟩
    have F8 := F7.trans f8
    walk_at "go"
    exact qX _ b a ts t lk H8 _ _ _ _ _ _ _ _ _ B8 (F8.sql nab' hS) nab ok h4 tne okt oklk hlk hck fun H' f B => k _ (F8.trans f) B
end K28

set_option Elab.async false
set_option linter.all false
set_option maxRecDepth 100000
set_option maxHeartbeats 4000000
namespace K28
open PySem PySem.Spec PyProof.Rows L2 Xr Vc Tx M28
variable {P : Program} {w : World} {K : PySem.W.Frag} {mg : Str → Option Value} {base : Heap}
local macro_rules | `(tactic| walk_at "go1") => `(tactic| first
  | with_reducible refine w_seq ?_ | with_reducible refine w_asg ?_ | with_reducible refine w_asgG ?_ | with_reducible refine w_next ?_ | with_reducible refine w_parS ?_ | with_reducible refine w_par ?_ | with_reducible refine w_par3S ?_ | with_reducible refine w_par3 ?_ | with_reducible refine w_ret ?_ | with_reducible refine w_retN ?_ | with_reducible refine w_drop ?_ | with_reducible refine w_ifS ?_
  | with_reducible refine w_var (by with_unfolding_all exact rfl) ?_ | with_reducible refine w_c ?_ | with_reducible refine w_op ?_ | with_reducible refine w_un ?_ | with_reducible refine w_chain ?_ | with_reducible refine w_I0 ?_ | with_reducible refine w_U ?_
  | with_reducible refine w_eq (by with_unfolding_all exact rfl) ?_ | with_reducible refine w_ne (by with_unfolding_all exact rfl) ?_ | with_reducible refine w_isN ?_ | with_reducible refine w_notN ?_
  | with_reducible refine w_cb ?_ | with_reducible refine w_nil ?_ | with_reducible refine w_cons ?_ | with_reducible refine w_call ?_ | with_reducible refine w_callW ?_ | with_reducible refine w_int ?_ | with_reducible refine w_abs ?_ | with_reducible refine w_max2 ?_ | with_reducible refine w_min2 ?_
  | with_reducible refine w_test ?_ | with_reducible refine w_tB ?_ | with_reducible refine w_bl ?_ | with_reducible refine w_blE ?_ | with_reducible refine w_and ?_ | with_reducible refine w_or ?_ | with_reducible refine w_not ?_ | with_reducible refine w_andV ?_ | with_reducible refine w_orV ?_ | with_reducible refine w_notV ?_ | with_reducible refine w_ifE ?_ | with_reducible refine w_yes ?_
  | with_reducible refine w_tup ?_ | with_reducible refine w_lst ?_ | with_reducible refine w_bm ?_ | with_reducible refine w_bm0 ?_ | with_reducible refine w_sl ?_ | with_reducible refine w_noPart ?_ | with_reducible refine w_part ?_ | with_reducible refine w_partI ?_ | with_reducible refine lc_of ?_
  | with_reducible refine w_I (by with_unfolding_all (show (0 : Int) < _; decide)) ?_ | with_reducible refine w_iStr ?_ | with_reducible refine w_strE ?_ | with_reducible refine w_iList ?_ | with_reducible refine w_iTup ?_ | with_reducible refine w_iRng1 ?_ | with_reducible refine w_iEnumS ?_ | with_reducible refine w_enumSE ?_ | with_reducible refine w_iEnumS1 ?_ | with_reducible refine w_iEnum ?_ | with_reducible refine for_of ?_ | with_reducible refine w_nT ?_ | with_reducible refine w_nF ?_ | with_reducible refine iteT ?_ | with_reducible refine iteF ?_ | with_reducible refine w_len (by with_unfolding_all exact rfl) ?_ | with_reducible refine w_rfl (by with_unfolding_all exact rfl) ?_ | with_reducible refine ty_strA ?_ | with_reducible refine w_gsub ?_ | with_reducible refine w_gname ?_ | with_reducible refine w_gcons ?_ | with_reducible refine w_gnil ?_ | with_reducible refine w_inS ?_ | with_reducible refine w_niS ?_ | with_reducible refine w_revS ?_)
local macro_rules | `(tactic| walk_at "go") => `(tactic| repeat' (walk_at "go1"))
theorem ok__law_bent_right (T : Txt K mg) : FnOk P w K mg base CX0 9 T.a__law_bent_right T.d__law_bent_right ["bag", "texts", "text"] (sp_bent K) := by
  have G__law_draw : FnOk P w K mg base CX0 1 T.a__law_draw T.d__law_draw ["bag", "many"] sp_draw := ok__law_draw T
  have G__law_frame : FnOk P w K mg base CX0 1 T.a__law_frame T.d__law_frame ["text"] sp_lframe := ok__law_frame T
  have G__law_put_sign : FnOk P w K mg base CX0 2 T.a__law_put_sign T.d__law_put_sign ["text", "at", "by"] sp_put := ok__law_put_sign T
  have G__law_stream_right : FnOk P w K mg base CX0 7 T.a__law_stream_right T.d__law_stream_right ["texts", "rest", "is_read"] (sp_stream K) := ok__law_stream_right T
  refine T.F__law_bent_right.ok (N := bentN) sc__law_bent_right (fun vs H Q E h => ?_) (fun cdv A outer s H vs Q E hr h => ?_)
  · obtain ⟨b, a, ts, t, rfl, _⟩ := h
    rfl
  obtain ⟨t2, pX, qX⟩ := bent_B (P := P) (w := w) (outer := outer) (H0 := H) (E := E) T hr
  refine ⟨_, (pss_cons (ps_par (i := 3) (j := 4) rfl sc__law_bent_right.nd rfl rfl (by decide) rfl rfl (pa_cons (pe_call G__law_frame (hr.mono (by decide)) rfl T.g__law_frame T.F__law_frame.kp T.b__law_frame .nil pass0 (pa_cons (pv 2) pa_nil)) (pa_cons (pe_call G__law_draw (hr.mono (by decide)) rfl T.g__law_draw T.F__law_draw.kp T.b__law_draw .nil pass0 (pa_cons (pv 0) (pa_cons (pe_callB call_len_strN (by rfl) T.n_len PySem.boot_len (pa_cons (pv 2) pa_nil)) pa_nil))) pa_nil)) (by rfl))
    (pss_cons (ps_set (i := 5) sc__law_bent_right.nd rfl (Or.inl rfl) (pe_call G__law_put_sign (hr.mono (by decide)) rfl T.g__law_put_sign T.F__law_put_sign.kp T.b__law_put_sign .nil pass0 (pa_cons (pv 2) (pa_cons (pv 4) (pa_cons (pe_op op_add pe_int (pe_call G__law_draw (hr.mono (by decide)) rfl T.g__law_draw T.F__law_draw.kp T.b__law_draw .nil pass0 (pa_cons (pv 0) (pa_cons pe_int pa_nil)))) pa_nil)))))
    (pss_cons (ps_if (pt_not (pt_val (pe_call G__law_stream_right (hr.mono (by decide)) rfl T.g__law_stream_right T.F__law_stream_right.kp T.b__law_stream_right .nil pass0 (pa_cons (pv 1) (pa_cons (pe_op op_add_strN (pe_op op_add_strN (pe_slice sl_str (pv 3) po_none (po_some pe_int)) (pv 5)) (pv 3)) (pa_cons (pe_cmpR op_eq (pe_op op_mod (pe_callTy call_int1N (by rfl) T.n_int (by decide +kernel) (pa_cons (pe_op op_add (pv 4) pe_int) pa_nil)) pe_int) pe_int (nomark _)) pa_nil)))))) (pss_one (ps_ret pe_bl)) pss_nil)
    pX))), ?_⟩
  · obtain ⟨b, a, ts, t, rfl, B, hS, nab, ok, h4, tne, okt, k⟩ := h
    have t1 := okt.lo
    have t2 := okt.hi
    have nab' : (some b : Option Addr) ≠ some a := fun z => nab (Option.some.inj z).symm
    have hz : (S t).length ≤ sizeLine := by rw [S_len, sizeLine_eq]; omega
    have hfl := fr_len t
    have hzf : (S (fr t)).length ≤ sizeLine := by rw [S_len, sizeLine_eq]; omega
    walk_at "go"
    refine ⟨t, rfl, okt, fun H1 f1 => ?_⟩
    walk_at "go"
    refine w_lenS hz ?_
    rw [S_len]
    walk_at "go"
    refine ⟨b, _, rfl, B.free f1, by omega, by omega, fun at_ H2 hat f2 B2 => ?_⟩
    have hat' : at_ < t.length := by omega
    have F2 : Fr (some b) H H2 := (Fr.of f1).trans f2
    walk_at "go"
    refine ⟨b, 37, rfl, B2, by decide, by decide, fun d H3 hd f3 B3 => ?_⟩
    have F3 := F2.trans f3
    walk_at "go"
    obtain ⟨c0, e0⟩ : ∃ c, t[at_]? = some c := ⟨_, List.getElem?_eq_getElem hat'⟩
    have m0 := mem_sg okt.sg e0
    have sp0 := split_at e0
    generalize ea : t.take at_ = aa at sp0
    generalize em : t.drop (at_ + 1) = mm at sp0
    have la : aa.length = at_ := by rw [← ea, List.length_take]; omega
    refine ⟨aa, mm, c0, ((1 + d : Nat) : Int), by rw [← sp0, la]; rfl, m0, by rw [← sp0]; omega, fun c1 H4 m1 hc1 f4 => ?_⟩
    have F4 := F3.trans (Fr.of f4)
    have B4 := B3.free f4
    have okb : Ok (aa ++ c1 :: mm) := by
      have hs := okt.sg
      rw [sp0] at hs
      obtain ⟨s1, s2, s3⟩ := isSg_mid.mp hs
      have hl : (aa ++ c1 :: mm).length = t.length := by rw [sp0]; simp
      exact ⟨isSg_mid.mpr ⟨s1, m1, s3⟩, by omega, by omega⟩
    have hlb : (aa ++ c1 :: mm).length = t.length := by rw [sp0]; simp
    have hcb : chk (aa ++ c1 :: mm) = chk t ↔ (at_ + 1) % 997 = 0 := by
      have := put_chk (a := aa) (m := mm) m0 m1 (by omega) (by omega) hc1
      rw [← sp0, la] at this
      exact this
    generalize aa ++ c1 :: mm = bn at okb hlb hcb
    have hzb : (S bn).length ≤ sizeLine := by rw [S_len, sizeLine_eq]; omega
    walk_at "go"
    refine w_slS (by rw [S_len, sizeLine_eq]; omega) ?_
    rw [show (7 : Int) = ((7 : Nat) : Int) from rfl, cut_to]
    walk_at "go"
    refine w_addS (by rw [S_len, S_len, sizeLine_eq, List.length_take]; omega) ?_
    rw [S_app]
    walk_at "go"
    refine w_addS (by rw [S_len, S_len, sizeLine_eq, List.length_append, List.length_take]; omega) ?_
    rw [S_app]
    walk_at "go"
    obtain ⟨us1, e1, p1, q1, q1'⟩ := bent_ps okt okb hlb
    have hlr : ((fr t).take 7 ++ bn ++ fr t).length ≤ 3000 := by
      rw [List.length_append, List.length_append, List.length_take]
      omega
    refine ⟨a, ts, _, _, us1, e1, rfl, F4.sql nab' hS, ok, h4, by omega, p1, fun hb => q1 (hcb.mpr ?_), fun hb => q1' fun z => ?_, fun H5 f5 => ?_⟩
    · have := dint.mp hb
      omega
    · have := dintF.mp hb
      have := hcb.mp z
      omega
    have F5 := F4.trans (Fr.of f5)
    have B5 := B4.free f5
    walk_at "go"
    exact qX _ b a ts t H5 _ _ _ _ _ _ _ _ _ _ B5 (F5.sql nab' hS) nab ok h4 tne okt fun H' f B => k _ (F5.trans f) B
end K28

set_option Elab.async false
set_option linter.all false
set_option maxRecDepth 100000
set_option maxHeartbeats 4000000
namespace K28
open PySem PySem.Spec PyProof.Rows L2 Xr Vc Tx M28
variable {P : Program} {w : World} {K : PySem.W.Frag} {mg : Str → Option Value} {base : Heap}
local macro_rules | `(tactic| walk_at "go1") => `(tactic| first
  | with_reducible refine w_seq ?_ | with_reducible refine w_asg ?_ | with_reducible refine w_asgG ?_ | with_reducible refine w_next ?_ | with_reducible refine w_parS ?_ | with_reducible refine w_par ?_ | with_reducible refine w_par3S ?_ | with_reducible refine w_par3 ?_ | with_reducible refine w_ret ?_ | with_reducible refine w_retN ?_ | with_reducible refine w_drop ?_ | with_reducible refine w_ifS ?_
  | with_reducible refine w_var (by with_unfolding_all exact rfl) ?_ | with_reducible refine w_c ?_ | with_reducible refine w_op ?_ | with_reducible refine w_un ?_ | with_reducible refine w_chain ?_ | with_reducible refine w_I0 ?_ | with_reducible refine w_U ?_
  | with_reducible refine w_eq (by with_unfolding_all exact rfl) ?_ | with_reducible refine w_ne (by with_unfolding_all exact rfl) ?_ | with_reducible refine w_isN ?_ | with_reducible refine w_notN ?_
  | with_reducible refine w_cb ?_ | with_reducible refine w_nil ?_ | with_reducible refine w_cons ?_ | with_reducible refine w_call ?_ | with_reducible refine w_callW ?_ | with_reducible refine w_int ?_ | with_reducible refine w_abs ?_ | with_reducible refine w_max2 ?_ | with_reducible refine w_min2 ?_
  | with_reducible refine w_test ?_ | with_reducible refine w_tB ?_ | with_reducible refine w_bl ?_ | with_reducible refine w_blE ?_ | with_reducible refine w_and ?_ | with_reducible refine w_or ?_ | with_reducible refine w_not ?_ | with_reducible refine w_andV ?_ | with_reducible refine w_orV ?_ | with_reducible refine w_notV ?_ | with_reducible refine w_ifE ?_ | with_reducible refine w_yes ?_
  | with_reducible refine w_tup ?_ | with_reducible refine w_lst ?_ | with_reducible refine w_bm ?_ | with_reducible refine w_bm0 ?_ | with_reducible refine w_sl ?_ | with_reducible refine w_noPart ?_ | with_reducible refine w_part ?_ | with_reducible refine w_partI ?_ | with_reducible refine lc_of ?_
  | with_reducible refine w_I (by with_unfolding_all (show (0 : Int) < _; decide)) ?_ | with_reducible refine w_iStr ?_ | with_reducible refine w_strE ?_ | with_reducible refine w_iList ?_ | with_reducible refine w_iTup ?_ | with_reducible refine w_iRng1 ?_ | with_reducible refine w_iEnumS ?_ | with_reducible refine w_enumSE ?_ | with_reducible refine w_iEnumS1 ?_ | with_reducible refine w_iEnum ?_ | with_reducible refine for_of ?_ | with_reducible refine w_nT ?_ | with_reducible refine w_nF ?_ | with_reducible refine iteT ?_ | with_reducible refine iteF ?_ | with_reducible refine w_len (by with_unfolding_all exact rfl) ?_ | with_reducible refine w_rfl (by with_unfolding_all exact rfl) ?_ | with_reducible refine ty_strA ?_ | with_reducible refine w_gsub ?_ | with_reducible refine w_gname ?_ | with_reducible refine w_gcons ?_ | with_reducible refine w_gnil ?_ | with_reducible refine w_inS ?_ | with_reducible refine w_niS ?_ | with_reducible refine w_revS ?_)
local macro_rules | `(tactic| walk_at "go") => `(tactic| repeat' (walk_at "go1"))
section
open LamX
variable {X : Cx}
/-- a name whose slot holds a value where the slots are as many as the names -/
def tVarL (n i : Nat) : TE := fun σ H Q => ∃ v, (σ.length = n → σ[i]? = some (some v)) ∧ Q v H
theorem pe_varL {n i : Nat} {x : Str} {pos : Pos} (hl : X.N.length = n) (h : PE X (.Name x pos) (tVar i)) : PE X (.Name x pos) (tVarL n i) := by
  refine ⟨fun pins s σ H Q I q => ?_⟩
  obtain ⟨v, h1, h2⟩ := q
  exact h.run pins s σ H Q I ⟨v, h1 (I.len.trans hl), h2⟩
/-- try: a() / except InvalidText as e: return [e.given] / return None -/
def TRef (C : Addr) : (XK → Hp → VK → Prop) → Hp → VK → Prop := fun tl H Q =>
  tl (fun cls d H' => cls = .ref C ∧ ∃ (D : Addr) (v : V), d = some D ∧ H' D = some (.xd [(("given" : Str), v)]) ∧ ∀ p, H' p = none → Q (.ref p) (upd H' p (.lst [v]))) H (fun _ H' => Q .non H')
theorem ref_gives (T : Txt X.K X.mg) {cdg : Value} {q : Str} : GivesTo X ["act", "e"] "_law_refused" (defScope s__law_refused) T.a__law_refused cdg (defBody s__law_refused) "act" q (TRef T.C_InvalidText) := by
  intro f c' s H Q tl act hc h
  refine ⟨_, pss_cons (ps_try_as (X := (cxOf C8.CX0 X.prog X.w X.K X.mg X.base ["act", "e"] "_law_refused" (defScope s__law_refused) T.a__law_refused cdg X.A X.stack s H C8.E0).nox) (i := 1) (c := .ref T.C_InvalidText)
      (tb := fun W D σ H => ∃ Ech : XK, (∀ cls d σ' H', Ech cls d H' → W cls d σ' H') ∧ σ[0]? = some (some (.ref f)) ∧ H c' = some (CodeO c' q) ∧ tl Ech H (fun _ H' => D.nx σ H'))
      (ts := fun a cls d => tRet (tLst (tCons (LowInvalidText.tByLow T.C_InvalidText a cls d (tVarL 2 1)) tNil))) (Wout := fun _ _ _ _ => False)
      rfl rfl sc__law_refused.nd rfl rfl ⟨rfl, by decide, .inl T.low_InvalidText.gC⟩ L2.takes0 (fun W pn xe tk _ => ?_) (fun a oe cls d pn hz hf => pss_one (ps_ret (pe_lst (pa_cons (LowInvalidText.pe_byLow T.low_InvalidText hz hf (pe_varL rfl (pv 1))) pa_nil))))) (pss_one (ps_ret pe_non)), ?_⟩
  · refine ⟨fun pins s' σ H' D I h' => ?_⟩
    obtain ⟨Ech, hW, h1, h2, h3⟩ := h'
    exact (pss_one (ps_expr (act W pn xe Ech _ _ tk hW))).run pins s' σ H' D I ⟨h1, h2, h3⟩
  · refine ⟨_, fun cls d σ' H' h' => ?_, rfl, hc, h⟩
    obtain ⟨rfl, D, v, rfl, hD, k⟩ := h'
    refine ⟨true, T.low_InvalidText.te, fun _ a ha => ?_, fun z => nomatch z⟩
    refine ⟨_, fun hl => ?_, rfl, rfl, D, v, rfl, hD, ?_⟩
    · rw [List.getElem?_set_self (by rw [List.length_set] at hl; omega)]
    · exact ⟨by rw [sizeLine_eq]; exact (by decide : 1 ≤ 16777216), fun p hp => k p hp⟩
theorem pe_ref (T : Txt X.K X.mg) {Tb : List (Addr × Str)} {c P : Addr} {k : Nat} {params : Arguments} {body : Expr} {scope : Scope} {t : XK → TE} {p lpos pos : Pos} (hg : Gl X "_law_refused")
    (TB : TabB X.base X.mg c P) (hcode : X.env.code = .ref c) (hmT : (P, X.env.qual ++ "<lambda>") ∈ Tb) (hu : ∀ p ∈ Tb, p.1 = P → p.2 = X.env.qual ++ "<lambda>") (hr : Room (k + 2) X.A) (L : LamS X.env.scope scope) (hdef : defaultsOf params X.env = ([], []))
    (hbind : ∀ (q : Str) (cl : List (Str × Addr)) (pm cv ctv : Value), bindArgs (PySem.W.kla_fn "<lambda>" q params body scope cl pm cv ctv) ⟨[], []⟩ = pure [])
    (hbody : ∀ (A : Around) (outer : List Env) (s : Shared) (H : Hp) (E : XK) (f c' : Addr), Room k (A.deeper (lamEnv X scope s.heap.objs.size f c')) → PE (lamCx X A outer s H E scope f c') body (t E)) :
    PE X (.Call (.Name "_law_refused" p) [.Lambda params body scope lpos] [] pos) (tLam Tb (TRef T.C_InvalidText) t) := by
  obtain ⟨oc, od, kV, doc, pm, an, cdv, ct, osl, e, lk, hcd⟩ := T.F__law_refused.ex
  rw [e] at lk
  have hb := T.b__law_refused
  rw [e] at hb
  exact pe_lamcall hg T.g__law_refused T.F__law_refused.kp lk hcd hb sc__law_refused rfl (Or.inl rfl) (ref_gives T) TB hcode hmT hu hr L hdef hbind hbody
end
end K28

set_option Elab.async false
set_option linter.all false
set_option maxRecDepth 100000
set_option maxHeartbeats 4000000
namespace K28
open PySem PySem.Spec PyProof.Rows L2 Xr Vc Tx M28
variable {P : Program} {w : World} {K : PySem.W.Frag} {mg : Str → Option Value} {base : Heap}
local macro_rules | `(tactic| walk_at "go1") => `(tactic| first
  | with_reducible refine w_seq ?_ | with_reducible refine w_asg ?_ | with_reducible refine w_asgG ?_ | with_reducible refine w_next ?_ | with_reducible refine w_parS ?_ | with_reducible refine w_par ?_ | with_reducible refine w_par3S ?_ | with_reducible refine w_par3 ?_ | with_reducible refine w_ret ?_ | with_reducible refine w_retN ?_ | with_reducible refine w_drop ?_ | with_reducible refine w_ifS ?_
  | with_reducible refine w_var (by with_unfolding_all exact rfl) ?_ | with_reducible refine w_c ?_ | with_reducible refine w_op ?_ | with_reducible refine w_un ?_ | with_reducible refine w_chain ?_ | with_reducible refine w_I0 ?_ | with_reducible refine w_U ?_
  | with_reducible refine w_eq (by with_unfolding_all exact rfl) ?_ | with_reducible refine w_ne (by with_unfolding_all exact rfl) ?_ | with_reducible refine w_isN ?_ | with_reducible refine w_notN ?_
  | with_reducible refine w_cb ?_ | with_reducible refine w_nil ?_ | with_reducible refine w_cons ?_ | with_reducible refine w_call ?_ | with_reducible refine w_callW ?_ | with_reducible refine w_int ?_ | with_reducible refine w_abs ?_ | with_reducible refine w_max2 ?_ | with_reducible refine w_min2 ?_
  | with_reducible refine w_test ?_ | with_reducible refine w_tB ?_ | with_reducible refine w_bl ?_ | with_reducible refine w_blE ?_ | with_reducible refine w_and ?_ | with_reducible refine w_or ?_ | with_reducible refine w_not ?_ | with_reducible refine w_andV ?_ | with_reducible refine w_orV ?_ | with_reducible refine w_notV ?_ | with_reducible refine w_ifE ?_ | with_reducible refine w_yes ?_
  | with_reducible refine w_tup ?_ | with_reducible refine w_lst ?_ | with_reducible refine w_bm ?_ | with_reducible refine w_bm0 ?_ | with_reducible refine w_sl ?_ | with_reducible refine w_noPart ?_ | with_reducible refine w_part ?_ | with_reducible refine w_partI ?_ | with_reducible refine lc_of ?_
  | with_reducible refine w_I (by with_unfolding_all (show (0 : Int) < _; decide)) ?_ | with_reducible refine w_iStr ?_ | with_reducible refine w_strE ?_ | with_reducible refine w_iList ?_ | with_reducible refine w_iTup ?_ | with_reducible refine w_iRng1 ?_ | with_reducible refine w_iEnumS ?_ | with_reducible refine w_enumSE ?_ | with_reducible refine w_iEnumS1 ?_ | with_reducible refine w_iEnum ?_ | with_reducible refine for_of ?_ | with_reducible refine w_nT ?_ | with_reducible refine w_nF ?_ | with_reducible refine iteT ?_ | with_reducible refine iteF ?_ | with_reducible refine w_len (by with_unfolding_all exact rfl) ?_ | with_reducible refine w_rfl (by with_unfolding_all exact rfl) ?_ | with_reducible refine ty_strA ?_ | with_reducible refine w_gsub ?_ | with_reducible refine w_gname ?_ | with_reducible refine w_gcons ?_ | with_reducible refine w_gnil ?_ | with_reducible refine w_inS ?_ | with_reducible refine w_niS ?_ | with_reducible refine w_revS ?_)
local macro_rules | `(tactic| walk_at "go") => `(tactic| repeat' (walk_at "go1"))
open LamX
/-- a def of the text whose code object is at c -/
structure FunC (K : PySem.W.Frag) (x qual : Str) (st : Stmt) (f : Addr) (fd : FuncData) (c : Addr) : Prop where
  ex : ∃ (oc : Value) (od : Option Addr) (kV doc pm : Value) (an : Option Addr) (ct : Value) (osl : Array (Option Value)),
    fd = PySem.W.fnOf x qual (defArgs st) (defBody st) (defScope st) .none kV doc pm an (.ref c) ct ∧ K.lookup f = some ⟨oc, od, .func fd, osl⟩ ∧ PySem.W.codeIn K (.ref c) qual = true
theorem FunC.ok {x qual : Str} {st : Stmt} {f c : Addr} {fd : FuncData} {N ps : List Str} {k : Nat} {sp : Sp} (F : FunC K x qual st f fd c) (S : FnScope N ps (defScope st)) (len : ∀ vs H Q E, sp vs H Q E → vs.length = ps.length)
    (hbody : ∀ (A : Around) (outer : List Env) (s : Shared) (H : Hp) (vs : List V) (Q : VK) (E : XK), Room k (A.deeper (envOfC qual (defScope st) s.heap.objs.size f (.ref c))) → sp vs H Q E →
      ∃ t, PSs (cxOf CX0 P w K mg base N qual (defScope st) f (.ref c) A outer s H E).nox (defBody st) t ∧ t { nx := fun _ H' => Q .non H', rt := Q } (start N vs) H) : FnOk P w K mg base CX0 (k + 1) f fd ps sp := by
  obtain ⟨oc, od, kV, doc, pm, an, ct, osl, rfl, lk, hcd⟩ := F.ex
  refine fn_of lk hcd S len fun A outer s H vs Q E hr hsp => ?_
  obtain ⟨t, h, q⟩ := hbody A outer s H vs Q E hr hsp
  exact ⟨t, h.nox, q⟩
/-! ### heaps: all stays but some objects and the tables -/
def Ex (X : List Addr) (H H' : Hp) : Prop := ∀ a o, a ∉ X → (∀ ps, o ≠ .tbl ps) → H a = some o → H' a = some o
theorem Ex.refl (X : List Addr) (H : Hp) : Ex X H H := fun _ _ _ _ h => h
theorem Ex.trans {X : List Addr} {H H1 H2 : Hp} (a : Ex X H H1) (b : Ex X H1 H2) : Ex X H H2 := fun c o n t h => b c o n t (a c o n t h)
theorem Ex.ext {X : List Addr} {H H' : Hp} (e : ExtN H H') : Ex X H H' := fun a o _ t h => e a o h t
theorem Ex.fr {b : Addr} {H H' : Hp} (f : Fr (some b) H H') : Ex [b] H H' := fun a o n _ h => f a o (fun z => n (by rw [Option.some.inj z]; exact List.mem_cons_self)) h
theorem ExtN.fr {H H' : Hp} (f : Fr none H H') : ExtN H H' := fun a o h _ => f a o (by simp) h
theorem ExtN.bag {H H' : Hp} {b : Addr} (B : Bag H b) (e : ExtN H H') : Bag H' b := by
  obtain ⟨x, y, z, h1, h2, h3, h4, h5, h⟩ := B
  exact ⟨x, y, z, h1, h2, h3, h4, h5, e _ _ h fun ps q => by cases q⟩
theorem tabs_fr {Tb : List (Addr × Str)} {H H' : Hp} {b : Addr} (T : Tabs Tb H) (B : Bag H b) (f : Fr (some b) H H') : Tabs Tb H' := by
  obtain ⟨x, y, z, _, _, _, _, _, hb⟩ := B
  intro p hp
  obtain ⟨ps, h1, h2, h3⟩ := T p hp
  refine ⟨ps, f _ _ (fun q => ?_) h1, h2, fun pos cv hc => ?_⟩
  · have e := Option.some.inj (hb.symm.trans (by rw [Option.some.inj q]; exact h1))
    unfold BagL at e
    cases e
  · obtain ⟨c, e1, e2⟩ := h3 pos cv hc
    refine ⟨c, e1, f _ _ (fun q => ?_) e2⟩
    have e3 := Option.some.inj (hb.symm.trans (by rw [Option.some.inj q]; exact e2))
    unfold CodeO BagL at e3
    cases e3
theorem tabs_fr0 {Tb : List (Addr × Str)} {H H' : Hp} (T : Tabs Tb H) (f : Fr none H H') : Tabs Tb H' := T.ext fun a o h => f a o (by simp) h
/-! ### what is refused -/
/-- what is no text of signs -/
def Oddv (H : Hp) (v : V) : Prop := v = .non ∨ v = .int 5 ∨ (∃ l, v = .str (S l) ∧ l.length ≤ 10 ∧ isSg l = false ∧ PyData.strOk (S l) = true) ∨ ∃ p, v = .ref p ∧ H p = some (.tup [.str (S [97])])
/-- what is no text -/
def Nonv (H : Hp) (v : V) : Prop := v = .non ∨ v = .int 5 ∨ v = .bl true ∨ ∃ p, v = .ref p ∧ H p = some (.tup [.str (S [97])])
theorem Oddv.ext {H H' : Hp} {v : V} (o : Oddv H v) (e : ExtN H H') : Oddv H' v := by
  rcases o with h | h | h | ⟨p, h1, h2⟩
  · exact .inl h
  · exact .inr (.inl h)
  · exact .inr (.inr (.inl h))
  · exact .inr (.inr (.inr ⟨p, h1, e _ _ h2 fun ps q => by cases q⟩))
theorem Nonv.ext {H H' : Hp} {v : V} (o : Nonv H v) (e : ExtN H H') : Nonv H' v := by
  rcases o with h | h | h | ⟨p, h1, h2⟩
  · exact .inl h
  · exact .inr (.inl h)
  · exact .inr (.inr (.inl h))
  · exact .inr (.inr (.inr ⟨p, h1, e _ _ h2 fun ps q => by cases q⟩))
theorem Oddv.fr {H H' : Hp} {v : V} {b : Addr} (o : Oddv H v) (B : Bag H b) (f : Fr (some b) H H') : Oddv H' v := by
  rcases o with h | h | h | ⟨p, h1, h2⟩
  · exact .inl h
  · exact .inr (.inl h)
  · exact .inr (.inr (.inl h))
  · obtain ⟨x, y, z, _, _, _, _, _, hb⟩ := B
    refine .inr (.inr (.inr ⟨p, h1, f _ _ (fun q => ?_) h2⟩))
    have e := Option.some.inj (hb.symm.trans (by rw [Option.some.inj q]; exact h2))
    unfold BagL at e
    cases e
theorem dp_a {H : Hp} {p : Addr} (h : H p = some (.tup [.str (S [97])])) : Dp K H (.ref p) (.tuple [.str (S [97])]) := .tup (SqT.of h) (.cons (.str _) .nil)
theorem ok_a (n : Nat) : okd (n + 1) (.tuple [.str (S [97])]) = true := by
  simp only [okd, List.all_cons, List.all_nil, Bool.and_true, Bool.and_eq_true, decide_eq_true_eq, List.length_cons, List.length_nil]
  refine ⟨by decide, ?_⟩
  cases n <;> exact strOk_S (by decide)
theorem Oddv.dp {H : Hp} {v : V} (o : Oddv H v) : ∃ d, Dp K H v d ∧ okd 1 d = true ∧ Told K H v sg false := by
  rcases o with rfl | rfl | ⟨l, rfl, h1, h2, h3⟩ | ⟨p, rfl, h⟩
  · exact ⟨_, .non, rfl, .inr ⟨_, .base .non, by decide +kernel, rfl⟩⟩
  · exact ⟨_, .int 5, rfl, .inr ⟨_, .base (.int 5), by decide +kernel, rfl⟩⟩
  · exact ⟨_, .str _, by unfold okd; exact h3, .inl ⟨l, rfl, by omega, h2.symm⟩⟩
  · exact ⟨_, dp_a h, ok_a 0, .inr ⟨_, tyx_tup (SqT.of h), by decide +kernel, rfl⟩⟩
theorem Nonv.dp {H : Hp} {v : V} (o : Nonv H v) : ∃ d, Dp K H v d ∧ okd 1 d = true ∧ NoStr K H v := by
  rcases o with rfl | rfl | rfl | ⟨p, rfl, h⟩
  · exact ⟨_, .non, rfl, ⟨_, .base .non, by decide +kernel⟩⟩
  · exact ⟨_, .int 5, rfl, ⟨_, .base (.int 5), by decide +kernel⟩⟩
  · exact ⟨_, .bl true, rfl, ⟨_, .base (.bl true), by decide +kernel⟩⟩
  · exact ⟨_, dp_a h, ok_a 0, ⟨_, tyx_tup (SqT.of h), by decide +kernel⟩⟩
/-- what the law holds while it asks what is refused -/
structure Cs0 (b : Addr) (Tb : List (Addr × Str)) (H0 : Hp) (odd non : V) (H : Hp) : Prop where
  bag : Bag H b
  tabs : Tabs Tb H
  ex : Ex [b] H0 H
  ov : Oddv H odd
  nv : Nonv H non
theorem Cs0.ext {b : Addr} {Tb : List (Addr × Str)} {H0 H H' : Hp} {odd non : V} (c : Cs0 b Tb H0 odd non H) (e : ExtN H H') (t : Tabs Tb H') : Cs0 b Tb H0 odd non H' :=
  ⟨ExtN.bag c.bag e, t, c.ex.trans (Ex.ext e), c.ov.ext e, c.nv.ext e⟩
theorem Cs0.fr {b : Addr} {Tb : List (Addr × Str)} {H0 H H' : Hp} {odd non : V} (c : Cs0 b Tb H0 odd non H) (f : Fr none H H') : Cs0 b Tb H0 odd non H' := c.ext (ExtN.fr f) (tabs_fr0 c.tabs f)
/-- .. and the list of what was told -/
structure Cs (b tl : Addr) (Tb : List (Addr × Str)) (H0 : Hp) (odd non : V) (xs : List (Addr × V)) (H : Hp) : Prop where
  c0 : Cs0 b Tb H0 odd non H
  tlv : H tl = some (.lst (xs.map fun p => .ref p.1))
  it : ∀ p ∈ xs, H p.1 = some (.lst [p.2])
  ne : ∀ p ∈ xs, p.1 ≠ tl
  nb : tl ≠ b
  t0 : ∀ o, H0 tl = some o → ∃ ps, o = .tbl ps
theorem Cs.ext {b tl : Addr} {Tb : List (Addr × Str)} {H0 H H' : Hp} {odd non : V} {xs : List (Addr × V)} (c : Cs b tl Tb H0 odd non xs H) (e : ExtN H H') (t : Tabs Tb H') : Cs b tl Tb H0 odd non xs H' :=
  ⟨c.c0.ext e t, e _ _ c.tlv (fun ps q => by cases q), fun p hp => e _ _ (c.it p hp) (fun ps q => by cases q), c.ne, c.nb, c.t0⟩
theorem Cs.fr {b tl : Addr} {Tb : List (Addr × Str)} {H0 H H' : Hp} {odd non : V} {xs : List (Addr × V)} (c : Cs b tl Tb H0 odd non xs H) (f : Fr none H H') : Cs b tl Tb H0 odd non xs H' := c.ext (ExtN.fr f) (tabs_fr0 c.c0.tabs f)
theorem Cs.app {b tl q : Addr} {Tb : List (Addr × Str)} {H0 H : Hp} {odd non v : V} {xs : List (Addr × V)} (c : Cs b tl Tb H0 odd non xs H) (hq : H q = some (.lst [v])) (nq : q ≠ tl) :
    Cs b tl Tb H0 odd non (xs ++ [(q, v)]) (upd H tl (.lst ((xs.map fun p => V.ref p.1) ++ [.ref q]))) := by
  have kp : ∀ a o, a ≠ tl → H a = some o → upd H tl (.lst ((xs.map fun p => V.ref p.1) ++ [.ref q])) a = some o := fun a o n h => by rw [upd_ne n]; exact h
  have nl : ∀ a xs, H a = some (.tup xs) → a ≠ tl := fun a xs h z => by
    rw [z, c.tlv] at h
    cases h
  refine ⟨⟨?_, ?_, ?_, ?_, ?_⟩, by rw [upd_same]; simp, ?_, ?_, c.nb, c.t0⟩
  · exact c.c0.bag.upd (Ne.symm c.nb)
  · intro p hp
    obtain ⟨ps, h1, h2, h3⟩ := c.c0.tabs p hp
    refine ⟨ps, kp _ _ (fun z => ?_) h1, h2, fun pos cv hc => ?_⟩
    · rw [z, c.tlv] at h1
      cases h1
    · obtain ⟨c', e1, e2⟩ := h3 pos cv hc
      refine ⟨c', e1, kp _ _ (fun z => ?_) e2⟩
      rw [z, c.tlv] at e2
      have e3 := Option.some.inj e2
      unfold CodeO at e3
      cases e3
  · intro a o n t h
    refine kp _ _ (fun z => ?_) (c.c0.ex a o n t h)
    rw [z] at h
    obtain ⟨ps, e⟩ := c.t0 _ h
    exact t ps e
  · rcases c.c0.ov with h | h | h | ⟨p, h1, h2⟩
    · exact .inl h
    · exact .inr (.inl h)
    · exact .inr (.inr (.inl h))
    · exact .inr (.inr (.inr ⟨p, h1, kp _ _ (nl _ _ h2) h2⟩))
  · rcases c.c0.nv with h | h | h | ⟨p, h1, h2⟩
    · exact .inl h
    · exact .inr (.inl h)
    · exact .inr (.inr (.inl h))
    · exact .inr (.inr (.inr ⟨p, h1, kp _ _ (nl _ _ h2) h2⟩))
  · intro p hp
    rcases List.mem_append.mp hp with h | h
    · exact kp _ _ (c.ne p h) (c.it p h)
    · simp at h
      subst h
      exact kp _ _ nq hq
  · intro p hp
    rcases List.mem_append.mp hp with h | h
    · exact c.ne p h
    · simp at h
      subst h
      exact nq
theorem w_lam {Tb : List (Addr × Str)} {TT : (XK → Hp → VK → Prop) → Hp → VK → Prop} {t : XK → TE} {σ : L2.St} {H : Hp} {Q : VK} (hT : Tabs Tb H) (h : ∀ H1, ExtN H H1 → Tabs Tb H1 → TT (fun E H' Q' => t E σ H' Q') H1 Q) : tLam Tb TT t σ H Q := ⟨hT, h⟩
theorem upd_none' {H : Hp} {p q : Addr} {o : HO} (h : upd H p o q = none) : q ≠ p ∧ H q = none := by
  have n : q ≠ p := fun z => by
    rw [z, upd_same] at h
    cases h
  exact ⟨n, by rw [upd_ne n] at h; exact h⟩
/-- how what is refused goes on -/
def Ech (C : Addr) (Q : VK) : XK := fun cls d H' => cls = .ref C ∧ ∃ (D : Addr) (v : V), d = some D ∧ H' D = some (.xd [(("given" : Str), v)]) ∧ ∀ p, H' p = none → Q (.ref p) (upd H' p (.lst [v]))
theorem w_ref {C : Addr} {tl : XK → Hp → VK → Prop} {H : Hp} {Q : VK} (h : tl (Ech C Q) H (fun _ H' => Q .non H')) : TRef C tl H Q := h
theorem odd_ech {C : Addr} {H : Hp} {v : V} {Q : VK} (h : ∀ p H', Fr none H H' → H' p = some (.lst [v]) → H p = none → Q (.ref p) H') : Odd C H v (Ech C Q) := fun H1 d f n => by
  refine ⟨rfl, d, v, rfl, upd_same, fun p hp => h p _ (f.trans ((Fr.new n).trans (Fr.new hp))) upd_same ?_⟩
  obtain ⟨_, h2⟩ := upd_none' hp
  exact f.back h2
end K28

set_option Elab.async false
set_option linter.all false
set_option maxRecDepth 100000
set_option maxHeartbeats 4000000
namespace K28
open PySem PySem.Spec PyProof.Rows L2 Xr Vc Tx M28
variable {P : Program} {w : World} {K : PySem.W.Frag} {mg : Str → Option Value} {base : Heap}
local macro_rules | `(tactic| walk_at "go1") => `(tactic| first
  | with_reducible refine w_seq ?_ | with_reducible refine w_asg ?_ | with_reducible refine w_asgG ?_ | with_reducible refine w_next ?_ | with_reducible refine w_parS ?_ | with_reducible refine w_par ?_ | with_reducible refine w_par3S ?_ | with_reducible refine w_par3 ?_ | with_reducible refine w_ret ?_ | with_reducible refine w_retN ?_ | with_reducible refine w_drop ?_ | with_reducible refine w_ifS ?_
  | with_reducible refine w_var (by with_unfolding_all exact rfl) ?_ | with_reducible refine w_c ?_ | with_reducible refine w_op ?_ | with_reducible refine w_un ?_ | with_reducible refine w_chain ?_ | with_reducible refine w_I0 ?_ | with_reducible refine w_U ?_
  | with_reducible refine w_eq (by with_unfolding_all exact rfl) ?_ | with_reducible refine w_ne (by with_unfolding_all exact rfl) ?_ | with_reducible refine w_isN ?_ | with_reducible refine w_notN ?_
  | with_reducible refine w_cb ?_ | with_reducible refine w_nil ?_ | with_reducible refine w_cons ?_ | with_reducible refine w_call ?_ | with_reducible refine w_callW ?_ | with_reducible refine w_int ?_ | with_reducible refine w_abs ?_ | with_reducible refine w_max2 ?_ | with_reducible refine w_min2 ?_
  | with_reducible refine w_test ?_ | with_reducible refine w_tB ?_ | with_reducible refine w_bl ?_ | with_reducible refine w_blE ?_ | with_reducible refine w_and ?_ | with_reducible refine w_or ?_ | with_reducible refine w_not ?_ | with_reducible refine w_andV ?_ | with_reducible refine w_orV ?_ | with_reducible refine w_notV ?_ | with_reducible refine w_ifE ?_ | with_reducible refine w_yes ?_
  | with_reducible refine w_tup ?_ | with_reducible refine w_lst ?_ | with_reducible refine w_bm ?_ | with_reducible refine w_bm0 ?_ | with_reducible refine w_sl ?_ | with_reducible refine w_noPart ?_ | with_reducible refine w_part ?_ | with_reducible refine w_partI ?_ | with_reducible refine lc_of ?_
  | with_reducible refine w_I (by with_unfolding_all (show (0 : Int) < _; decide)) ?_ | with_reducible refine w_iStr ?_ | with_reducible refine w_strE ?_ | with_reducible refine w_iList ?_ | with_reducible refine w_iTup ?_ | with_reducible refine w_iRng1 ?_ | with_reducible refine w_iEnumS ?_ | with_reducible refine w_enumSE ?_ | with_reducible refine w_iEnumS1 ?_ | with_reducible refine w_iEnum ?_ | with_reducible refine for_of ?_ | with_reducible refine w_nT ?_ | with_reducible refine w_nF ?_ | with_reducible refine iteT ?_ | with_reducible refine iteF ?_ | with_reducible refine w_len (by with_unfolding_all exact rfl) ?_ | with_reducible refine w_rfl (by with_unfolding_all exact rfl) ?_ | with_reducible refine ty_strA ?_ | with_reducible refine w_gsub ?_ | with_reducible refine w_gname ?_ | with_reducible refine w_gcons ?_ | with_reducible refine w_gnil ?_ | with_reducible refine w_inS ?_ | with_reducible refine w_niS ?_ | with_reducible refine w_revS ?_)
local macro_rules | `(tactic| walk_at "go") => `(tactic| repeat' (walk_at "go1"))
open LamX
abbrev rightN : List Str := ["bag", "turn", "texts", "text", "due", "log", "at", "found", "end", "k", "told", "none", "odd"]
abbrev rightQ : Str := (("_law_right" : Str) ++ ".<locals>.") ++ "<lambda>"
theorem A_S : (Str.ofString "A") = S [65] := by decide +kernel
theorem ab_S : (Str.ofString "a,b") = S [97, 44, 98] := by decide +kernel
theorem an_S : (Str.ofString "a\n") = S [97, 10] := by decide +kernel
theorem a1_S : (Str.ofString "a") = S [97] := by decide +kernel
theorem e_S : (Str.ofString "") = S [] := by decide +kernel
def many (n : Nat) : List Nat := (List.replicate n [97]).flatten
theorem many_len (n : Nat) : (many n).length = n := by simp [many]
theorem many_sg (n : Nat) : isSg (many n) = true := by
  unfold isSg
  rw [List.all_eq_true]
  intro c hc
  obtain ⟨x, hx, hcx⟩ := List.mem_flatten.mp hc
  rw [List.eq_of_mem_replicate hx] at hcx
  simp at hcx
  rw [hcx]
  decide
theorem okd_one {n : Nat} {d : PyData} (h : okd n d = true) : okd (n + 1) (.list [d]) = true := by
  show (decide ([d].length ≤ 100000) && [d].all (okd n)) = true
  simp [h]
theorem okd_str {n : Nat} {l : List Nat} (h : isSg l = true) : okd n (.str (S l)) = true := by
  have := strOk_S h
  cases n <;> (unfold okd; exact this)
theorem right_C (T : Txt K mg) {c Pt : Addr} {Tb : List (Addr × Str)} (TB : TabB base mg c Pt) (hmT : (Pt, rightQ) ∈ Tb) (hu : ∀ p ∈ Tb, p.1 = Pt → p.2 = rightQ) {A : Around} {outer : List Env} {s : Shared} {H0 : Hp} {E : XK}
    (hr : Room 10 (A.deeper (envOfC "_law_right" (defScope s__law_right) s.heap.objs.size T.a__law_right (.ref c)))) :
    ∃ t, PSs (cxOf CX0 P w K mg base rightN "_law_right" (defScope s__law_right) T.a__law_right (.ref c) A outer s H0 E).nox ((defBody s__law_right).drop 4) t ∧
      ∀ (D : Ends) (b : Addr) (H : Hp) (v1 v2 v3 v4 v5 v6 v7 v8 v9 v10 v11 v12 : Option V), Bag H b → Tabs Tb H → (∀ H', Ex [b] H H' → Tabs Tb H' → D.rt (.bl true) H') →
        t D [some (.ref b), v1, v2, v3, v4, v5, v6, v7, v8, v9, v10, v11, v12] H := by
  have G__law_one : FnOk P w K mg base CX0 2 T.a__law_one T.d__law_one ["bag", "some"] (sp_one K) := ok__law_one T
  have G__law_same : FnOk P w K mg base CX0 5 T.a__law_same T.d__law_same ["given", "due"] (sp_same K 3) := ok__law_same T 3
  have G_frame : FnOk P w K mg base (L2.CX P w) 8 T.a_frame T.d_frame ["text"] (sp_frame K T.C_InvalidText) := ok_frame T
  have G_frames_in : FnOk P w K mg base (L2.CX P w) 6 T.a_frames_in T.d_frames_in ["text"] (sp_frames_in K T.C_InvalidText) := ok_frames_in T
  have G_opened : FnOk P w K mg base (L2.CX P w) 8 T.a_opened T.d_opened ["log"] (sp_opened K T.C_InvalidText) := ok_opened T
  refine ⟨_, (pss_cons (ps_asg (pe_tup (pa_cons (pe_call G__law_one (hr.mono (by decide)) rfl T.g__law_one T.F__law_one.kp T.b__law_one .nil pass0 (pa_cons (pv 0) (pa_cons (pe_lst (pa_cons pe_non (pa_cons pe_int (pa_cons pe_str (pa_cons pe_str (pa_cons pe_str (pa_cons (pe_tup (pa_cons pe_str pa_nil)) pa_nil))))))) pa_nil))) (pa_cons (pe_call G__law_one (hr.mono (by decide)) rfl T.g__law_one T.F__law_one.kp T.b__law_one .nil pass0 (pa_cons (pv 0) (pa_cons (pe_lst (pa_cons pe_non (pa_cons pe_int (pa_cons (pe_tup (pa_cons pe_str pa_nil)) (pa_cons pe_bl pa_nil))))) pa_nil))) pa_nil))) (pg_tupK (K := K) (n := 2) rfl rfl (pgs_cons (pg_name (i := 12) sc__law_right.nd rfl (Or.inr rfl)) (pgs_cons (pg_name (i := 11) sc__law_right.nd rfl (Or.inr rfl)) pgs_nil))))
    (pss_cons (ps_set (i := 10) sc__law_right.nd rfl (Or.inl rfl) (pe_lst (pa_cons (pe_ref (Tb := Tb) (k := 8) T rfl TB rfl hmT hu (hr.mono (by decide)) (LamX.lamS_by (sc := defScope s__law_right) (by decide +kernel)) rfl (fun _ _ _ _ _ => rfl) (fun A outer s H E f c' hr2 => (pe_call G_frame (hr2.mono (by decide)) rfl T.g_frame T.F_frame.kp T.b_frame .nil (passes_call (W := fun cls d _ H => E cls d H) (takes_of rfl rfl rfl rfl) (fun _ _ _ _ h => h)) (pa_cons (pv 12) pa_nil)))) pa_nil)))
    (pss_cons (ps_expr (pe_bmK (K := K) rfl (pe_bm PySem.F.plainAttrs_list PySem.F.slot_list_append PySem.F.type_list_append mt_append (pv 10) (pa_cons (pe_ref (Tb := Tb) (k := 8) T rfl TB rfl hmT hu (hr.mono (by decide)) (LamX.lamS_by (sc := defScope s__law_right) (by decide +kernel)) rfl (fun _ _ _ _ _ => rfl) (fun A outer s H E f c' hr2 => (pe_call G_frames_in (hr2.mono (by decide)) rfl T.g_frames_in T.F_frames_in.kp T.b_frames_in .nil (passes_call (W := fun cls d _ H => E cls d H) (takes_of rfl rfl rfl rfl) (fun _ _ _ _ h => h)) (pa_cons (pv 11) pa_nil)))) pa_nil))))
    (pss_cons (ps_expr (pe_bmK (K := K) rfl (pe_bm PySem.F.plainAttrs_list PySem.F.slot_list_append PySem.F.type_list_append mt_append (pv 10) (pa_cons (pe_ref (Tb := Tb) (k := 8) T rfl TB rfl hmT hu (hr.mono (by decide)) (LamX.lamS_by (sc := defScope s__law_right) (by decide +kernel)) rfl (fun _ _ _ _ _ => rfl) (fun A outer s H E f c' hr2 => (pe_call G_opened (hr2.mono (by decide)) rfl T.g_opened T.F_opened.kp T.b_opened .nil (passes_call (W := fun cls d _ H => E cls d H) (takes_of rfl rfl rfl rfl) (fun _ _ _ _ h => h)) (pa_cons (pv 12) pa_nil)))) pa_nil))))
    (pss_cons (ps_expr (pe_bmK (K := K) rfl (pe_bm PySem.F.plainAttrs_list PySem.F.slot_list_append PySem.F.type_list_append mt_append (pv 10) (pa_cons (pe_ref (Tb := Tb) (k := 8) T rfl TB rfl hmT hu (hr.mono (by decide)) (LamX.lamS_by (sc := defScope s__law_right) (by decide +kernel)) rfl (fun _ _ _ _ _ => rfl) (fun A outer s H E f c' hr2 => (pe_call G_frame (hr2.mono (by decide)) rfl T.g_frame T.F_frame.kp T.b_frame .nil (passes_call (W := fun cls d _ H => E cls d H) (takes_of rfl rfl rfl rfl) (fun _ _ _ _ h => h)) (pa_cons pe_str pa_nil)))) pa_nil))))
    (pss_cons (ps_expr (pe_bmK (K := K) rfl (pe_bm PySem.F.plainAttrs_list PySem.F.slot_list_append PySem.F.type_list_append mt_append (pv 10) (pa_cons (pe_ref (Tb := Tb) (k := 8) T rfl TB rfl hmT hu (hr.mono (by decide)) (LamX.lamS_by (sc := defScope s__law_right) (by decide +kernel)) rfl (fun _ _ _ _ _ => rfl) (fun A outer s H E f c' hr2 => (pe_call G_frame (hr2.mono (by decide)) rfl T.g_frame T.F_frame.kp T.b_frame .nil (passes_call (W := fun cls d _ H => E cls d H) (takes_of rfl rfl rfl rfl) (fun _ _ _ _ h => h)) (pa_cons (pe_op op_mul_strI pe_str pe_int) pa_nil)))) pa_nil))))
    (pss_one (ps_ret (pe_and (pe_call G__law_same (hr.mono (by decide)) rfl T.g__law_same T.F__law_same.kp T.b__law_same .nil pass0 (pa_cons (pv 10) (pa_cons (pe_lst (pa_cons (pe_lst (pa_cons (pv 12) pa_nil)) (pa_cons (pe_lst (pa_cons (pv 11) pa_nil)) (pa_cons (pe_lst (pa_cons (pv 12) pa_nil)) (pa_cons (pe_lst (pa_cons pe_str pa_nil)) (pa_cons (pe_lst (pa_cons (pe_op op_mul_strI pe_str pe_int) pa_nil)) pa_nil)))))) pa_nil))) (pe_one (pe_cmpR op_eq (pe_callB call_len_strN (by rfl) T.n_len PySem.boot_len (pa_cons (pe_call G_frame (hr.mono (by decide)) rfl T.g_frame T.F_frame.kp T.b_frame .nil passL (pa_cons (pe_op op_mul_strI pe_str pe_int) pa_nil)) pa_nil)) pe_int (nomark _)))))))))))), ?_⟩
  intro D b H v1 v2 v3 v4 v5 v6 v7 v8 v9 v10 v11 v12 B hT k
  walk_at "go"
  rw [a1_S]
  intro p1 hp1
  walk_at "go"
  intro p2 hp2
  obtain ⟨m12, _⟩ := upd_none' hp2
  have f2 := (Fr.new (M := none) (o := .tup [.str (S [97])]) hp1).trans (Fr.new (o := .lst [.non, .int 5, .str "A", .str "a,b", .str "a\n", .ref p1]) hp2)
  have B2 := B.free f2
  have T2 := tabs_fr0 hT f2
  have nb1 := B.ne hp1
  have nb2 := (B.free (Fr.new (o := .tup [.str (S [97])]) hp1)).ne hp2
  walk_at "go"
  refine ⟨b, _, rfl, B2, .inr ⟨p2, _, rfl, SqL.of upd_same, Ne.symm nb2, by simp, by simp, fun odd H3 hodd f3 B3 => ?_⟩⟩
  have T3 := tabs_fr T2 B2 f3
  have o3 : Oddv H3 odd := by
    simp only [List.mem_cons, List.not_mem_nil, or_false] at hodd
    rcases hodd with rfl | rfl | rfl | rfl | rfl | rfl
    · exact .inl rfl
    · exact .inr (.inl rfl)
    · exact .inr (.inr (.inl ⟨[65], by rw [← A_S], by decide, by decide, by decide +kernel⟩))
    · exact .inr (.inr (.inl ⟨[97, 44, 98], by rw [← ab_S], by decide, by decide, by decide +kernel⟩))
    · exact .inr (.inr (.inl ⟨[97, 10], by rw [← an_S], by decide, by decide, by decide +kernel⟩))
    · exact .inr (.inr (.inr ⟨p1, rfl, f3 _ _ (fun z => nb1 (Option.some.inj z)) (by rw [upd_ne (Ne.symm m12), upd_same])⟩))
  have x3 : Ex [b] H H3 := (Ex.fr (Fr.of f2)).trans (Ex.fr f3)
  walk_at "go"
  intro p4 hp4
  walk_at "go"
  intro p5 hp5
  obtain ⟨m45, _⟩ := upd_none' hp5
  have f5 := (Fr.new (M := none) (o := .tup [.str (S [97])]) hp4).trans (Fr.new (o := .lst [.non, .int 5, .ref p4, .bl true]) hp5)
  have B5 := B3.free f5
  have T5 := tabs_fr0 T3 f5
  have nb4 := B3.ne hp4
  have nb5 := (B3.free (Fr.new (o := .tup [.str (S [97])]) hp4)).ne hp5
  walk_at "go"
  refine ⟨b, _, rfl, B5, .inr ⟨p5, _, rfl, SqL.of upd_same, Ne.symm nb5, by simp, by simp, fun non H6 hnon f6 B6 => ?_⟩⟩
  have c6 : Cs0 b Tb H odd non H6 := by
    refine ⟨B6, tabs_fr T5 B5 f6, x3.trans ((Ex.fr (Fr.of f5)).trans (Ex.fr f6)), (o3.ext (ExtN.fr f5)).fr B5 f6, ?_⟩
    simp only [List.mem_cons, List.not_mem_nil, or_false] at hnon
    rcases hnon with rfl | rfl | rfl | rfl
    · exact .inl rfl
    · exact .inr (.inl rfl)
    · exact .inr (.inr (.inr ⟨p4, rfl, f6 _ _ (fun z => nb4 (Option.some.inj z)) (by rw [upd_ne (Ne.symm m45), upd_same])⟩))
    · exact .inr (.inr (.inl rfl))
  walk_at "go"
  intro p7 hp7
  have c7 := c6.fr (Fr.new (o := .tup [odd, non]) hp7)
  refine w_gtup (SqT.of upd_same) rfl ?_
  walk_at "go"
  -- told = [..]
  refine w_lam c7.tabs fun H8 e8 t8 => w_ref ?_
  have c8 := c7.ext e8 t8
  walk_at "go"
  obtain ⟨d8, dp8, ok8, td8⟩ := c8.ov.dp (K := K)
  refine ⟨odd, rfl, .inr (.inl ⟨td8, odd_ech fun q1 H9 f9 hq1 nq1 => ?_⟩)⟩
  have c9 := c8.fr f9
  walk_at "go"
  intro tl htl
  have c10 : Cs b tl Tb H odd non [(q1, odd)] (upd H9 tl (.lst [.ref q1])) := by
    have hf := Fr.new (M := none) (o := .lst [.ref q1]) htl
    have nq : q1 ≠ tl := fun z => by
      rw [← z, hq1] at htl
      cases htl
    refine ⟨c9.fr hf, upd_same, fun p hp => ?_, fun p hp => ?_, Ne.symm (c9.bag.ne htl), ?_⟩
    · simp at hp
      subst hp
      show upd H9 tl _ q1 = _
      rw [upd_ne nq]
      exact hq1
    · simp at hp
      subst hp
      exact nq
    · intro o ho
      refine Classical.byContradiction fun nt => ?_
      have := c9.ex tl o (by simpa using Ne.symm (c9.bag.ne htl)) (fun ps e => nt ⟨ps, e⟩) ho
      rw [htl] at this
      cases this
  walk_at "go"
  refine ⟨ty_lst (SqL.of c10.tlv), ?_⟩
  walk_at "go"
  -- append what frames_in says of none
  refine w_lam c10.c0.tabs fun H11 e11 t11 => w_ref ?_
  have c11 := c10.ext e11 t11
  walk_at "go"
  obtain ⟨dn, dpn, okn, nsn⟩ := c11.c0.nv.dp (K := K)
  refine ⟨non, rfl, .inr ⟨nsn, odd_ech fun q2 H12 f12 hq2 nq2 => ?_⟩⟩
  have c12 := c11.fr f12
  have n2 : q2 ≠ tl := fun z => by
    rw [z, c11.tlv] at nq2
    cases nq2
  have c13 := c12.app hq2 n2
  walk_at "go"
  refine w_app c12.tlv (by rw [sizeLine_eq]; simp) ?_
  walk_at "go"
  refine ⟨ty_lst (SqL.of c13.tlv), ?_⟩
  walk_at "go"
  refine w_lam c13.c0.tabs fun H14 e14 t14 => w_ref ?_
  have c14 := c13.ext e14 t14
  walk_at "go"
  obtain ⟨d14, dp14, ok14, td14⟩ := c14.c0.ov.dp (K := K)
  refine ⟨odd, rfl, td14, odd_ech fun q3 H15 f15 hq3 nq3 => ?_⟩
  have c15 := c14.fr f15
  have n3 : q3 ≠ tl := fun z => by
    rw [z, c14.tlv] at nq3
    cases nq3
  have c16 := c15.app hq3 n3
  walk_at "go"
  refine w_app c15.tlv (by rw [sizeLine_eq]; simp) ?_
  walk_at "go"
  refine ⟨ty_lst (SqL.of c16.tlv), ?_⟩
  walk_at "go"
  refine w_lam c16.c0.tabs fun H17 e17 t17 => w_ref ?_
  have c17 := c16.ext e17 t17
  walk_at "go"
  rw [e_S]
  refine ⟨.str (S []), rfl, .inr (.inr ⟨[], rfl, rfl, by decide, by decide, odd_ech fun q4 H18 f18 hq4 nq4 => ?_⟩)⟩
  have c18 := c17.fr f18
  have n4 : q4 ≠ tl := fun z => by
    rw [z, c17.tlv] at nq4
    cases nq4
  have c19 := c18.app hq4 n4
  walk_at "go"
  refine w_app c18.tlv (by rw [sizeLine_eq]; simp) ?_
  walk_at "go"
  refine ⟨ty_lst (SqL.of c19.tlv), ?_⟩
  walk_at "go"
  refine w_lam c19.c0.tabs fun H20 e20 t20 => w_ref ?_
  have c20 := c19.ext e20 t20
  walk_at "go"
  refine w_mulS (n := ((1000 : Nat) : Int)) (mul_ok (by decide) (by decide)) ?_
  rw [show Txt.mul (S [97]) ((1000 : Nat) : Int) = S (many 1000) from mul_S [97] 1000]
  walk_at "go"
  have ml := many_len 1000
  refine ⟨.str (S (many 1000)), rfl, .inr (.inr ⟨many 1000, rfl, many_sg 1000, by omega, by omega, odd_ech fun q5 H21 f21 hq5 nq5 => ?_⟩)⟩
  have c21 := c20.fr f21
  have n5 : q5 ≠ tl := fun z => by
    rw [z, c20.tlv] at nq5
    cases nq5
  have c22 := c21.app hq5 n5
  walk_at "go"
  refine w_app c21.tlv (by rw [sizeLine_eq]; simp) ?_
  walk_at "go"
  -- what is due
  generalize hHF : upd H21 tl _ = H22 at c22 ⊢
  intro r1 hr1
  walk_at "go"
  intro r2 hr2
  walk_at "go"
  intro r3 hr3
  walk_at "go"
  intro r4 hr4
  walk_at "go"
  refine w_mulS (n := ((1000 : Nat) : Int)) (mul_ok (by decide) (by decide)) ?_
  rw [show Txt.mul (S [97]) ((1000 : Nat) : Int) = S (many 1000) from mul_S [97] 1000]
  walk_at "go"
  intro r5 hr5
  walk_at "go"
  intro r6 hr6
  walk_at "go"
  obtain ⟨m21, _⟩ := upd_none' hr2
  obtain ⟨m32, z3⟩ := upd_none' hr3
  obtain ⟨m31, _⟩ := upd_none' z3
  obtain ⟨m43, z4⟩ := upd_none' hr4
  obtain ⟨m42, z4⟩ := upd_none' z4
  obtain ⟨m41, _⟩ := upd_none' z4
  obtain ⟨m54, z5⟩ := upd_none' hr5
  obtain ⟨m53, z5⟩ := upd_none' z5
  obtain ⟨m52, z5⟩ := upd_none' z5
  obtain ⟨m51, _⟩ := upd_none' z5
  obtain ⟨m65, z6⟩ := upd_none' hr6
  obtain ⟨m64, z6⟩ := upd_none' z6
  obtain ⟨m63, z6⟩ := upd_none' z6
  obtain ⟨m62, z6⟩ := upd_none' z6
  obtain ⟨m61, _⟩ := upd_none' z6
  have f23 := (Fr.new (M := none) (o := .lst [odd]) hr1).trans ((Fr.new (o := .lst [non]) hr2).trans ((Fr.new (o := .lst [odd]) hr3).trans ((Fr.new (o := .lst [.str (S [])]) hr4).trans ((Fr.new (o := .lst [.str (S (many 1000))]) hr5).trans (Fr.new (o := .lst [.ref r1, .ref r2, .ref r3, .ref r4, .ref r5]) hr6)))))
  have e1 : (upd (upd (upd (upd (upd (upd H22 r1 (.lst [odd])) r2 (.lst [non])) r3 (.lst [odd])) r4 (.lst [.str (S [])])) r5 (.lst [.str (S (many 1000))])) r6 (.lst [.ref r1, .ref r2, .ref r3, .ref r4, .ref r5])) r1 = some (.lst [odd]) := by
    rw [upd_ne (Ne.symm m61), upd_ne (Ne.symm m51), upd_ne (Ne.symm m41), upd_ne (Ne.symm m31), upd_ne (Ne.symm m21), upd_same]
  have e2 : (upd (upd (upd (upd (upd (upd H22 r1 (.lst [odd])) r2 (.lst [non])) r3 (.lst [odd])) r4 (.lst [.str (S [])])) r5 (.lst [.str (S (many 1000))])) r6 (.lst [.ref r1, .ref r2, .ref r3, .ref r4, .ref r5])) r2 = some (.lst [non]) := by
    rw [upd_ne (Ne.symm m62), upd_ne (Ne.symm m52), upd_ne (Ne.symm m42), upd_ne (Ne.symm m32), upd_same]
  have e3 : (upd (upd (upd (upd (upd (upd H22 r1 (.lst [odd])) r2 (.lst [non])) r3 (.lst [odd])) r4 (.lst [.str (S [])])) r5 (.lst [.str (S (many 1000))])) r6 (.lst [.ref r1, .ref r2, .ref r3, .ref r4, .ref r5])) r3 = some (.lst [odd]) := by
    rw [upd_ne (Ne.symm m63), upd_ne (Ne.symm m53), upd_ne (Ne.symm m43), upd_same]
  have e4 : (upd (upd (upd (upd (upd (upd H22 r1 (.lst [odd])) r2 (.lst [non])) r3 (.lst [odd])) r4 (.lst [.str (S [])])) r5 (.lst [.str (S (many 1000))])) r6 (.lst [.ref r1, .ref r2, .ref r3, .ref r4, .ref r5])) r4 = some (.lst [.str (S [])]) := by
    rw [upd_ne (Ne.symm m64), upd_ne (Ne.symm m54), upd_same]
  have e5 : (upd (upd (upd (upd (upd (upd H22 r1 (.lst [odd])) r2 (.lst [non])) r3 (.lst [odd])) r4 (.lst [.str (S [])])) r5 (.lst [.str (S (many 1000))])) r6 (.lst [.ref r1, .ref r2, .ref r3, .ref r4, .ref r5])) r5 = some (.lst [.str (S (many 1000))]) := by
    rw [upd_ne (Ne.symm m65), upd_same]
  have e6 : (upd (upd (upd (upd (upd (upd H22 r1 (.lst [odd])) r2 (.lst [non])) r3 (.lst [odd])) r4 (.lst [.str (S [])])) r5 (.lst [.str (S (many 1000))])) r6 (.lst [.ref r1, .ref r2, .ref r3, .ref r4, .ref r5])) r6 = some (.lst [.ref r1, .ref r2, .ref r3, .ref r4, .ref r5]) := upd_same
  have c23 := c22.fr f23
  revert e1 e2 e3 e4 e5 e6 c23
  generalize upd (upd (upd (upd (upd (upd H22 r1 (.lst [odd])) r2 (.lst [non])) r3 (.lst [odd])) r4 (.lst [.str (S [])])) r5 (.lst [.str (S (many 1000))])) r6 (.lst [.ref r1, .ref r2, .ref r3, .ref r4, .ref r5]) = HF
  intro e1 e2 e3 e4 e5 e6 c23
  obtain ⟨dO, pO, kO, _⟩ := c23.c0.ov.dp (K := K)
  obtain ⟨dN, pN, kN, _⟩ := c23.c0.nv.dp (K := K)
  have i1 := c23.it (q1, odd) (by simp)
  have i2 := c23.it (q2, non) (by simp)
  have i3 := c23.it (q3, odd) (by simp)
  have i4 := c23.it (q4, .str (S [])) (by simp)
  have i5 := c23.it (q5, .str (S (many 1000))) (by simp)
  refine ⟨.ref tl, .ref r6, .list [.list [dO], .list [dN], .list [dO], .list [.str (S [])], .list [.str (S (many 1000))]], rfl,
    .lst (SqL.of c23.tlv) (.cons (.lst (SqL.of i1) (.cons pO .nil)) (.cons (.lst (SqL.of i2) (.cons pN .nil)) (.cons (.lst (SqL.of i3) (.cons pO .nil)) (.cons (.lst (SqL.of i4) (.cons (.str _) .nil)) (.cons (.lst (SqL.of i5) (.cons (.str _) .nil)) .nil))))),
    .lst (SqL.of e6) (.cons (.lst (SqL.of e1) (.cons pO .nil)) (.cons (.lst (SqL.of e2) (.cons pN .nil)) (.cons (.lst (SqL.of e3) (.cons pO .nil)) (.cons (.lst (SqL.of e4) (.cons (.str _) .nil)) (.cons (.lst (SqL.of e5) (.cons (.str _) .nil)) .nil))))), ?_, fun H30 f30 => ?_⟩
  · show (decide (_ ≤ 100000) && [PyData.list [dO], .list [dN], .list [dO], .list [.str (S [])], .list [.str (S (many 1000))]].all (okd 2)) = true
    simp only [List.all_cons, List.all_nil, okd_one kO, okd_one kN, okd_one (okd_str (n := 1) (l := []) rfl), okd_one (okd_str (n := 1) (many_sg 1000))]
    rfl
  have c30 := c23.fr f30
  walk_at "go"
  refine w_mulS (n := ((999 : Nat) : Int)) (mul_ok (by decide) (by decide)) ?_
  rw [show Txt.mul (S [97]) ((999 : Nat) : Int) = S (many 999) from mul_S [97] 999]
  walk_at "go"
  have ml9 := many_len 999
  refine ⟨_, rfl, .inl ⟨many 999, rfl, ⟨many_sg 999, by omega, by omega⟩, fun H31 f31 => ?_⟩⟩
  have c31 := c30.fr f31
  walk_at "go"
  have hfm := fr_len (many 999)
  refine w_lenS (by rw [S_len, sizeLine_eq]; omega) ?_
  rw [S_len, hfm, ml9]
  walk_at "go"
  exact k _ c31.c0.ex c31.c0.tabs
end K28

set_option Elab.async false
set_option linter.all false
set_option maxRecDepth 100000
set_option maxHeartbeats 4000000
namespace K28
open PySem PySem.Spec PyProof.Rows L2 Xr Vc Tx M28
variable {P : Program} {w : World} {K : PySem.W.Frag} {mg : Str → Option Value} {base : Heap}
local macro_rules | `(tactic| walk_at "go1") => `(tactic| first
  | with_reducible refine w_seq ?_ | with_reducible refine w_asg ?_ | with_reducible refine w_asgG ?_ | with_reducible refine w_next ?_ | with_reducible refine w_parS ?_ | with_reducible refine w_par ?_ | with_reducible refine w_par3S ?_ | with_reducible refine w_par3 ?_ | with_reducible refine w_ret ?_ | with_reducible refine w_retN ?_ | with_reducible refine w_drop ?_ | with_reducible refine w_ifS ?_
  | with_reducible refine w_var (by with_unfolding_all exact rfl) ?_ | with_reducible refine w_c ?_ | with_reducible refine w_op ?_ | with_reducible refine w_un ?_ | with_reducible refine w_chain ?_ | with_reducible refine w_I0 ?_ | with_reducible refine w_U ?_
  | with_reducible refine w_eq (by with_unfolding_all exact rfl) ?_ | with_reducible refine w_ne (by with_unfolding_all exact rfl) ?_ | with_reducible refine w_isN ?_ | with_reducible refine w_notN ?_
  | with_reducible refine w_cb ?_ | with_reducible refine w_nil ?_ | with_reducible refine w_cons ?_ | with_reducible refine w_call ?_ | with_reducible refine w_callW ?_ | with_reducible refine w_int ?_ | with_reducible refine w_abs ?_ | with_reducible refine w_max2 ?_ | with_reducible refine w_min2 ?_
  | with_reducible refine w_test ?_ | with_reducible refine w_tB ?_ | with_reducible refine w_bl ?_ | with_reducible refine w_blE ?_ | with_reducible refine w_and ?_ | with_reducible refine w_or ?_ | with_reducible refine w_not ?_ | with_reducible refine w_andV ?_ | with_reducible refine w_orV ?_ | with_reducible refine w_notV ?_ | with_reducible refine w_ifE ?_ | with_reducible refine w_yes ?_
  | with_reducible refine w_tup ?_ | with_reducible refine w_lst ?_ | with_reducible refine w_bm ?_ | with_reducible refine w_bm0 ?_ | with_reducible refine w_sl ?_ | with_reducible refine w_noPart ?_ | with_reducible refine w_part ?_ | with_reducible refine w_partI ?_ | with_reducible refine lc_of ?_
  | with_reducible refine w_I (by with_unfolding_all (show (0 : Int) < _; decide)) ?_ | with_reducible refine w_iStr ?_ | with_reducible refine w_strE ?_ | with_reducible refine w_iList ?_ | with_reducible refine w_iTup ?_ | with_reducible refine w_iRng1 ?_ | with_reducible refine w_iEnumS ?_ | with_reducible refine w_enumSE ?_ | with_reducible refine w_iEnumS1 ?_ | with_reducible refine w_iEnum ?_ | with_reducible refine for_of ?_ | with_reducible refine w_nT ?_ | with_reducible refine w_nF ?_ | with_reducible refine iteT ?_ | with_reducible refine iteF ?_ | with_reducible refine w_len (by with_unfolding_all exact rfl) ?_ | with_reducible refine w_rfl (by with_unfolding_all exact rfl) ?_ | with_reducible refine ty_strA ?_ | with_reducible refine w_gsub ?_ | with_reducible refine w_gname ?_ | with_reducible refine w_gcons ?_ | with_reducible refine w_gnil ?_ | with_reducible refine w_inS ?_ | with_reducible refine w_niS ?_ | with_reducible refine w_revS ?_)
local macro_rules | `(tactic| walk_at "go") => `(tactic| repeat' (walk_at "go1"))
open LamX
theorem ltx' (ts : List (List Nat)) : (txs ts).length = ts.length := by simp [txs]
theorem txs_at' {ts : List (List Nat)} {i : Nat} {x : V} (h : (txs ts)[i]? = some x) : ∃ t, ts[i]? = some t ∧ x = .str (S t) := by
  unfold txs at h
  rw [List.getElem?_map] at h
  cases ht : ts[i]? with
  | none => rw [ht] at h; cases h
  | some t =>
    rw [ht] at h
    exact ⟨t, rfl, (Option.some.inj h).symm⟩
/-- the frames of some texts, as values -/
def fvs' (ts : List (List Nat)) : List V := ((ts.map fr).map S).map V.str
theorem fvs_next' {ts : List (List Nat)} {i : Nat} {t : List Nat} (h : ts[i]? = some t) : fvs' (ts.take i) ++ [.str (S (fr t))] = fvs' (ts.take (i + 1)) := by
  have e : ts.take (i + 1) = ts.take i ++ [t] := by
    rw [List.take_add_one, h]; rfl
  rw [e]
  simp [fvs']
theorem fvs_len' (ts : List (List Nat)) : (fvs' ts).length = ts.length := by simp [fvs']
theorem sum_fr' (ts : List (List Nat)) : (((ts.map fr).map S).map (·.length)).sum = (ts.map fr).flatten.length := by
  simp [List.length_flatten, Function.comp_def, S_len]
theorem txs_take {ts : List (List Nat)} {i : Nat} {t : List Nat} (h : ts[i]? = some t) : txs (ts.take i) ++ [.str (S t)] = txs (ts.take (i + 1)) := by
  have e : ts.take (i + 1) = ts.take i ++ [t] := by
    rw [List.take_add_one, h]; rfl
  rw [e]
  simp [txs]
theorem right_B (T : Txt K mg) {c Pt : Addr} {Tb : List (Addr × Str)} (TB : TabB base mg c Pt) (hmT : (Pt, rightQ) ∈ Tb) (hu : ∀ p ∈ Tb, p.1 = Pt → p.2 = rightQ) {A : Around} {outer : List Env} {s : Shared} {H0 : Hp} {E : XK}
    (hr : Room 10 (A.deeper (envOfC "_law_right" (defScope s__law_right) s.heap.objs.size T.a__law_right (.ref c)))) :
    ∃ t, PSs (cxOf CX0 P w K mg base rightN "_law_right" (defScope s__law_right) T.a__law_right (.ref c) A outer s H0 E).nox ((defBody s__law_right).drop 2) t ∧
      ∀ (D : Ends) (b a : Addr) (ts : List (List Nat)) (H : Hp) (v1 v3 v4 v5 v6 v7 v8 v9 v10 v11 v12 : Option V), Bag H b → Tabs Tb H → SqL K H a (txs ts) → a ≠ b → (∀ t ∈ ts, Ok t) → ts.length ≤ 4 → (∀ H', Ex [b] H H' → Tabs Tb H' → D.rt (.bl true) H') →
        t D [some (.ref b), v1, some (.ref a), v3, v4, v5, v6, v7, v8, v9, v10, v11, v12] H := by
  obtain ⟨t2, p2, q2⟩ := right_C (P := P) (w := w) (outer := outer) (H0 := H0) (E := E) T TB hmT hu hr
  have G__law_draw : FnOk P w K mg base CX0 1 T.a__law_draw T.d__law_draw ["bag", "many"] sp_draw := ok__law_draw T
  have G__law_frame : FnOk P w K mg base CX0 1 T.a__law_frame T.d__law_frame ["text"] sp_lframe := ok__law_frame T
  have G__law_same : FnOk P w K mg base CX0 4 T.a__law_same T.d__law_same ["given", "due"] (sp_same K 2) := ok__law_same T 2
  have G_frames_in : FnOk P w K mg base (L2.CX P w) 6 T.a_frames_in T.d_frames_in ["text"] (sp_frames_in K T.C_InvalidText) := ok_frames_in T
  refine ⟨_, (pss_cons (ps_set (i := 5) sc__law_right.nd rfl (Or.inl rfl) (pe_bmK (K := K) rfl (pe_bm PySem.F.plainAttrs_str PySem.F.slot_str_join PySem.F.type_str_join (mt_joinK (K := K) rfl) pe_str (pa_cons (pe_lc (own := [("text", 3)]) (g := gName 3) (tt := tYes) rfl sc__law_right.nd (pi_listK (K := K) rfl (pv 2)) (blkOk_by (own := [("text", 3)]) (N := ["bag", "turn", "texts", "text", "due", "log", "at", "found", "end", "k", "told", "none", "odd"]) (sc := defScope s__law_right) (by decide +kernel)) (fun _ _ _ _ _ => (pg_name (i := 3) sc__law_right.nd rfl (Or.inl rfl))) (fun _ _ _ _ _ => pts_nil) (fun _ _ _ _ _ => (pe_call G__law_frame (hr.mono (by decide)) rfl T.g__law_frame T.F__law_frame.kp T.b__law_frame .nil pass0 (pa_cons (pv 3) pa_nil)))) pa_nil))))
    (pss_cons (ps_for PassesOwn.never rfl (pi_range1 (by rfl) T.n_range (pa_cons pe_int pa_nil)) (pg_name (i := 1) sc__law_right.nd rfl (Or.inl rfl)) (pss_cons (ps_set (i := 6) sc__law_right.nd rfl (Or.inl rfl) (pe_call G__law_draw (hr.mono (by decide)) rfl T.g__law_draw T.F__law_draw.kp T.b__law_draw .nil pass0 (pa_cons (pv 0) (pa_cons (pe_op op_add (pe_callB call_len_strN (by rfl) T.n_len PySem.boot_len (pa_cons (pv 5) pa_nil)) pe_int) pa_nil))))
    (pss_cons (ps_par (i := 7) (j := 8) rfl sc__law_right.nd rfl rfl (by decide) rfl rfl (pa_cons (pe_lst pa_nil) (pa_cons pe_int pa_nil)) (by rfl))
    (pss_cons (ps_for PassesOwn.never rfl (pi_enumK (K := K) rfl (by rfl) T.n_enumerate (pa_cons (pv 2) pa_nil)) (pg_tupK (K := K) (n := 2) rfl rfl (pgs_cons (pg_name (i := 9) sc__law_right.nd rfl (Or.inl rfl)) (pgs_cons (pg_name (i := 3) sc__law_right.nd rfl (Or.inl rfl)) pgs_nil))) (pss_one (ps_if (PW.pt (pw_and (pt_cmpR op_eq (pe_callB (call_lenK (K := K) rfl) (by rfl) T.n_len PySem.boot_len (pa_cons (pv 7) pa_nil)) (pv 9) (nomark _)) (pw_and1 (pt_cmpR op_le (pe_op op_add (pe_op op_add (pv 8) (pe_callB call_len_strN (by rfl) T.n_len PySem.boot_len (pa_cons (pv 3) pa_nil))) pe_int) (pv 6) (nomark _))))) (pss_one (ps_par (i := 7) (j := 8) rfl sc__law_right.nd rfl rfl (by decide) rfl rfl (pa_cons (pe_op op_cat (pv 7) (pe_lst (pa_cons (pv 3) pa_nil))) (pa_cons (pe_op op_add (pe_op op_add (pv 8) (pe_callB call_len_strN (by rfl) T.n_len PySem.boot_len (pa_cons (pv 3) pa_nil))) pe_int) pa_nil)) (by rfl))) pss_nil)))
    (pss_one (ps_if (pt_not (pt_val (pe_call G__law_same (hr.mono (by decide)) rfl T.g__law_same T.F__law_same.kp T.b__law_same .nil pass0 (pa_cons (pe_call G_frames_in (hr.mono (by decide)) rfl T.g_frames_in T.F_frames_in.kp T.b_frames_in .nil passL (pa_cons (pe_slice sl_str (pv 5) po_none (po_some (pv 6))) pa_nil)) (pa_cons (pe_tup (pa_cons (pe_callTy (call_tuple_ofK (K := K) rfl) (by rfl) T.n_tuple (by decide +kernel) (pa_cons (pv 7) pa_nil)) (pa_cons (pv 8) pa_nil))) pa_nil))))) (pss_one (ps_ret pe_bl)) pss_nil))))))
    p2)), ?_⟩
  intro D b a ts H v1 v3 v4 v5 v6 v7 v8 v9 v10 v11 v12 B hT hS nab ok h4 k
  have nab' : (some b : Option Addr) ≠ some a := fun z => nab (Option.some.inj z).symm
  have hll := lg_len ok ts.length
  rw [lg_all] at hll
  walk_at "go"
  refine w_listE hS ?_
  refine lc_go walk_list (M := none) Bg.none (fun _ f => Fr.sql f (by simp) hS) (fun i acc => acc = fvs' (ts.take i)) ?_ rfl ?_ ?_
  · rintro i acc hi rfl
    rw [ltx'] at hi
    simp [fvs', List.length_take]
    omega
  · rintro i x H9 H10 acc Zt Zf hi f _ rfl ⟨rfl, hx⟩ kt kf
    obtain ⟨u, hu, rfl⟩ := txs_at' hx
    walk_at "go"
    refine ⟨u, rfl, ok u (List.mem_of_getElem? hu), fun H11 f11 => ?_⟩
    exact kt _ _ f11 Bg.none (fvs_next' hu)
  rintro q1 H1 acc _ f1 _ e1 rfl
  rw [ltx', List.take_length] at e1
  walk_at "go"
  rw [empty_S]
  refine w_join (ys := (ts.map fr).map S) (SqL.of e1) (by rw [sum_fr', show (S []).length = 0 from rfl]; omega) ?_
  rw [join_S]
  have hzl : (S (ts.map fr).flatten).length ≤ sizeLine := by rw [S_len, sizeLine_eq]; omega
  have B1 := B.free f1
  walk_at "go"
  refine w_rngE (by decide) (by decide) ?_
  refine for_it (walk_range (lo := 0) (n := 6)) (fun i σ H' => ∃ v1 v3 v6 v7 v8 v9 : Option V, σ = [some (.ref b), v1, some (.ref a), v3, v4, some (.str (S (ts.map fr).flatten)), v6, v7, v8, v9, v10, v11, v12] ∧ Fr (some b) H H' ∧ Bag H' b)
    ⟨_, _, _, _, _, _, rfl, Fr.of f1, B1⟩ (fun _ _ _ _ _ => trivial) ?_ ?_
  · rintro i_ x σ H2 H3 hi ⟨v1, v3, v6, v7, v8, v9, rfl, f2, B2⟩ ⟨rfl, rfl⟩
    walk_at "go"
    refine w_lenS hzl ?_
    rw [S_len]
    walk_at "go"
    refine ⟨b, _, rfl, B2, by omega, by omega, fun at_ H4 hat f4 B4 => ?_⟩
    have F4 := f2.trans f4
    walk_at "go"
    intro fo hfo
    walk_at "go"
    have hcn := cnt_le ts at_
    generalize hcn' : cnt at_ ts = cn at hcn
    have hup : ∀ j, upto ts j ≤ 1006 * j := fun j => lg_len ok j
    refine w_enumE (Fr.sql (M := none) (Fr.new hfo) (by simp) (F4.sql nab' hS)) ?_
    refine for_it (walk_enum (xs := txs ts)) (fun i σ H' => ∃ (v3 v9 : Option V) (fo' : Addr), σ = [some (.ref b), some (.int (0 + (i_ : Int))), some (.ref a), v3, v4, some (.str (S (ts.map fr).flatten)), some (.int (at_ : Nat)), some (.ref fo'), some (.int (upto ts (min i cn) : Nat)), v9, v10, v11, v12] ∧ Fr none H4 H' ∧ H' fo' = some (.lst (txs (ts.take (min i cn)))))
      ⟨_, _, fo, rfl, Fr.new hfo, upd_same⟩ (fun i σ H' _ ⟨_, _, _, _, f, _⟩ => Fr.sql f (by simp) (F4.sql nab' hS)) ?_ ?_
    · rintro j x σ H5 H6 hj ⟨v3, v9, fo', rfl, f5, hfo'⟩ ⟨T', x', y', rfl, hT', rfl, ex, ey⟩
      cases ex
      obtain ⟨t, ht, rfl⟩ := txs_at' ey
      rw [ltx'] at hj
      have okt := ok t (List.mem_of_getElem? ht)
      have t2 := okt.hi
      have f6 := f5.trans (Fr.new (o := .tup [.int (j : Nat), .str (S t)]) hT')
      have hfo6 : upd H5 T' (.tup [.int (j : Nat), .str (S t)]) fo' = some (.lst (txs (ts.take (min j cn)))) := Fr.new (M := none) hT' _ _ (by simp) hfo'
      refine w_gtup (SqT.of upd_same) rfl ?_
      generalize upd H5 T' (.tup [.int (j : Nat), .str (S t)]) = H7 at f6 hfo6 ⊢
      walk_at "go"
      refine w_lenL (SqL.of hfo6) ?_
      rw [ltx', List.length_take]
      walk_at "go"
      refine w_ite (fun e => ?_) fun e => ?_
      · have hj2 : j ≤ cn := by
          have e' : ((min (min j cn) ts.length : Nat) : Int) = (j : Nat) := by injection e
          omega
        have em : min j cn = j := by omega
        rw [em] at hfo6 ⊢
        have hup' := hup j
        walk_at "go"
        refine w_lenS (by rw [S_len, sizeLine_eq]; omega) ?_
        rw [S_len]
        walk_at "go"
        have hnx := upto_next ht
        have hci := cnt_iff ts at_ j hj
        rw [hcn'] at hci
        refine w_ite (fun e2 => ?_) fun e2 => ?_
        · have hlt : j < cn := hci.mpr (by omega)
          have em1 : min (j + 1) cn = j + 1 := by omega
          walk_at "go"
          intro l1 hl1
          have m1 : fo' ≠ l1 := fun z => by
            rw [← z, hfo6] at hl1
            cases hl1
          refine w_cat (by rw [upd_ne m1]; exact hfo6) upd_same (by rw [ltx', sizeLine_eq, List.length_take]; simp; omega) fun l2 hl2 => ?_
          walk_at "go"
          refine w_lenS (by rw [S_len, sizeLine_eq]; omega) ?_
          rw [S_len]
          walk_at "go"
          have f8 := f6.trans ((Fr.new (o := .lst [.str (S t)]) hl1).trans (Fr.new (o := .lst (txs (ts.take j) ++ [.str (S t)])) hl2))
          refine ⟨some (.str (S t)), some (.int (j : Nat)), l2, ?_, f8, ?_⟩
          · rw [em1, hnx]
            rfl
          · rw [em1, upd_same, txs_take ht]
        · have hge : ¬ j < cn := fun z => e2 (by have := hci.mp z; omega)
          walk_at "go"
          refine ⟨some (.str (S t)), some (.int (j : Nat)), fo', ?_, f6, ?_⟩
          · rw [show min (j + 1) cn = j by omega]
            rfl
          · rw [show min (j + 1) cn = j by omega]
            exact hfo6
      · have hj2 : cn < j := by
          have e' : ¬ ((min (min j cn) ts.length : Nat) : Int) = (j : Nat) := fun z => e (by rw [z])
          omega
        walk_at "go"
        refine ⟨some (.str (S t)), some (.int (j : Nat)), fo', ?_, f6, ?_⟩
        · rw [show min (j + 1) cn = cn by omega, show min j cn = cn by omega]
          rfl
        · rw [show min (j + 1) cn = cn by omega]
          rw [show min j cn = cn by omega] at hfo6
          exact hfo6
    · rintro σ H5 ⟨v3, v9, fo', rfl, f5, hfo'⟩
      rw [ltx', show min ts.length cn = cn by omega] at hfo' ⊢
      walk_at "go"
      refine w_slS hzl ?_
      rw [cut_to]
      walk_at "go"
      refine ⟨_, rfl, .inl ⟨_, rfl, by rw [List.length_take]; omega, fun p6 q6 H6 ts' e' hp' he' hts' f6 h1 h2 => ?_⟩⟩
      have hpc := Ps.cut ok at_
      rw [hcn'] at hpc
      obtain ⟨rfl, rfl⟩ := Ps.one hp' hpc
      walk_at "go"
      refine w_tupL (SqL.of (f6 _ _ (by simp) hfo')) fun p7 hp7 => ?_
      walk_at "go"
      intro p8 hp8
      have m78 : p7 ≠ p8 := fun z => by
        rw [← z, upd_same] at hp8
        cases hp8
      generalize hN : upto ts cn = N at h1 hp8 ⊢
      have f8 : Fr none H6 (upd (upd H6 p7 (.tup (txs (ts.take cn)))) p8 (.tup [.ref p7, .int (N : Nat)])) := (Fr.new hp7).trans (Fr.new hp8)
      have okt : ∀ t ∈ ts.take cn, Ok t := fun t h => ok t (List.mem_of_mem_take h)
      walk_at "go"
      refine ⟨_, _, .tuple [.tuple (dtx (ts.take cn)), .int (N : Nat)], rfl,
        Vc.Dp.fr f8 (.tup (SqT.of h1) (.cons (.tup (SqT.of h2) (dp_tx _)) (.cons (.int _) .nil))),
        .tup (SqT.of upd_same) (.cons (.tup (SqT.of (by rw [upd_ne m78, upd_same])) (dp_tx _)) (.cons (.int _) .nil)), ?_, fun H9 f9 => ?_⟩
      · have hdl : (dtx (ts.take cn)).length = min cn ts.length := by simp [dtx]
        simp only [okd, List.all_cons, List.all_nil, Bool.and_true, Bool.and_eq_true, decide_eq_true_eq, List.length_cons, List.length_nil, List.all_eq_true]
        exact ⟨by decide, by omega, okd_tx okt 0⟩
      have f59 := f5.trans (f6.trans (f8.trans f9))
      walk_at "go"
      exact ⟨_, _, _, _, _, _, rfl, F4.trans (Fr.of f59), B4.free f59⟩
  · rintro σ H2 ⟨v1, v3, v6, v7, v8, v9, rfl, f2, B2⟩
    walk_at "go"
    refine q2 _ b H2 _ _ _ _ _ _ _ _ _ _ _ _ B2 (tabs_fr hT B f2) fun H5 x5 t5 => k _ ((Ex.fr f2).trans x5) t5
end K28

set_option Elab.async false
set_option linter.all false
set_option maxRecDepth 100000
set_option maxHeartbeats 4000000
namespace K28
open PySem PySem.Spec PyProof.Rows L2 Xr Vc Tx M28
variable {P : Program} {w : World} {K : PySem.W.Frag} {mg : Str → Option Value} {base : Heap}
local macro_rules | `(tactic| walk_at "go1") => `(tactic| first
  | with_reducible refine w_seq ?_ | with_reducible refine w_asg ?_ | with_reducible refine w_asgG ?_ | with_reducible refine w_next ?_ | with_reducible refine w_parS ?_ | with_reducible refine w_par ?_ | with_reducible refine w_par3S ?_ | with_reducible refine w_par3 ?_ | with_reducible refine w_ret ?_ | with_reducible refine w_retN ?_ | with_reducible refine w_drop ?_ | with_reducible refine w_ifS ?_
  | with_reducible refine w_var (by with_unfolding_all exact rfl) ?_ | with_reducible refine w_c ?_ | with_reducible refine w_op ?_ | with_reducible refine w_un ?_ | with_reducible refine w_chain ?_ | with_reducible refine w_I0 ?_ | with_reducible refine w_U ?_
  | with_reducible refine w_eq (by with_unfolding_all exact rfl) ?_ | with_reducible refine w_ne (by with_unfolding_all exact rfl) ?_ | with_reducible refine w_isN ?_ | with_reducible refine w_notN ?_
  | with_reducible refine w_cb ?_ | with_reducible refine w_nil ?_ | with_reducible refine w_cons ?_ | with_reducible refine w_call ?_ | with_reducible refine w_callW ?_ | with_reducible refine w_int ?_ | with_reducible refine w_abs ?_ | with_reducible refine w_max2 ?_ | with_reducible refine w_min2 ?_
  | with_reducible refine w_test ?_ | with_reducible refine w_tB ?_ | with_reducible refine w_bl ?_ | with_reducible refine w_blE ?_ | with_reducible refine w_and ?_ | with_reducible refine w_or ?_ | with_reducible refine w_not ?_ | with_reducible refine w_andV ?_ | with_reducible refine w_orV ?_ | with_reducible refine w_notV ?_ | with_reducible refine w_ifE ?_ | with_reducible refine w_yes ?_
  | with_reducible refine w_tup ?_ | with_reducible refine w_lst ?_ | with_reducible refine w_bm ?_ | with_reducible refine w_bm0 ?_ | with_reducible refine w_sl ?_ | with_reducible refine w_noPart ?_ | with_reducible refine w_part ?_ | with_reducible refine w_partI ?_ | with_reducible refine lc_of ?_
  | with_reducible refine w_I (by with_unfolding_all (show (0 : Int) < _; decide)) ?_ | with_reducible refine w_iStr ?_ | with_reducible refine w_strE ?_ | with_reducible refine w_iList ?_ | with_reducible refine w_iTup ?_ | with_reducible refine w_iRng1 ?_ | with_reducible refine w_iEnumS ?_ | with_reducible refine w_enumSE ?_ | with_reducible refine w_iEnumS1 ?_ | with_reducible refine w_iEnum ?_ | with_reducible refine for_of ?_ | with_reducible refine w_nT ?_ | with_reducible refine w_nF ?_ | with_reducible refine iteT ?_ | with_reducible refine iteF ?_ | with_reducible refine w_len (by with_unfolding_all exact rfl) ?_ | with_reducible refine w_rfl (by with_unfolding_all exact rfl) ?_ | with_reducible refine ty_strA ?_ | with_reducible refine w_gsub ?_ | with_reducible refine w_gname ?_ | with_reducible refine w_gcons ?_ | with_reducible refine w_gnil ?_ | with_reducible refine w_inS ?_ | with_reducible refine w_niS ?_ | with_reducible refine w_revS ?_)
local macro_rules | `(tactic| walk_at "go") => `(tactic| repeat' (walk_at "go1"))
open LamX
def sp_bent' (K : PySem.W.Frag) : Sp := fun vs H Q _ => ∃ (b a : Addr) (ts : List (List Nat)) (t : List Nat), vs = [.ref b, .ref a, .str (S t)] ∧ Bag H b ∧ SqL K H a (txs ts) ∧ a ≠ b ∧ (∀ t ∈ ts, Ok t) ∧ ts.length ≤ 4 ∧ ts ≠ [] ∧ Ok t ∧
  ∀ H', Fr (some b) H H' → Bag H' b → Q (.bl true) H'
def sp_right (Tb : List (Addr × Str)) : Sp := fun vs H Q _ => ∃ (b : Addr), vs = [.ref b] ∧ Bag H b ∧ Tabs Tb H ∧ ∀ H', Ex [b] H H' → Tabs Tb H' → Q (.bl true) H'
theorem ok__law_right (T : Txt K mg) {c Pt : Addr} {Tb : List (Addr × Str)} (FC : FunC K "_law_right" "_law_right" s__law_right T.a__law_right T.d__law_right c) (TB : TabB base mg c Pt) (hmT : (Pt, rightQ) ∈ Tb) (hu : ∀ p ∈ Tb, p.1 = Pt → p.2 = rightQ)
    (G__law_bent_right : FnOk P w K mg base CX0 9 T.a__law_bent_right T.d__law_bent_right ["bag", "texts", "text"] (sp_bent' K)) :
    FnOk P w K mg base CX0 11 T.a__law_right T.d__law_right ["bag"] (sp_right Tb) := by
  have G__law_draw : FnOk P w K mg base CX0 1 T.a__law_draw T.d__law_draw ["bag", "many"] sp_draw := ok__law_draw T
  have G__law_text_drawn : FnOk P w K mg base CX0 3 T.a__law_text_drawn T.d__law_text_drawn ["bag"] sp_drawn := ok__law_text_drawn T
  have G__law_frame : FnOk P w K mg base CX0 1 T.a__law_frame T.d__law_frame ["text"] sp_lframe := ok__law_frame T
  have G__law_same : FnOk P w K mg base CX0 4 T.a__law_same T.d__law_same ["given", "due"] (sp_same K 2) := ok__law_same T 2
  have G_frame : FnOk P w K mg base (L2.CX P w) 8 T.a_frame T.d_frame ["text"] (sp_frame K T.C_InvalidText) := ok_frame T
  have G_check_number : FnOk P w K mg base (L2.CX P w) 8 T.a_check_number T.d_check_number ["text"] sp_check_number := ok_check_number T
  refine FC.ok (N := rightN) (ps := ["bag"]) sc__law_right (fun vs H Q E h => ?_) (fun A outer s H vs Q E hr h => ?_)
  · obtain ⟨b, rfl, _⟩ := h
    rfl
  obtain ⟨t2, p2, q2⟩ := right_B (P := P) (w := w) (outer := outer) (H0 := H) (E := E) T TB hmT hu hr
  refine ⟨_, (pss_cons (ps_setLc (i := 2) (own := [("turn", 1)]) (g := gName 1) (tt := tYes) rfl sc__law_right.nd rfl rfl (sw_true rfl rfl rfl (by decide +kernel)) (pi_range1 (by rfl) T.n_range (pa_cons (pe_op op_add pe_int (pe_call G__law_draw (hr.mono (by decide)) rfl T.g__law_draw T.F__law_draw.kp T.b__law_draw .nil pass0 (pa_cons (pv 0) (pa_cons pe_int pa_nil)))) pa_nil)) (blkOk_by (own := [("turn", 1)]) (N := ["bag", "turn", "texts", "text", "due", "log", "at", "found", "end", "k", "told", "none", "odd"]) (sc := defScope s__law_right) (by decide +kernel)) (fun _ _ _ _ _ => (pg_name (i := 1) sc__law_right.nd rfl (Or.inl rfl))) (fun _ _ _ _ _ => pts_nil) (fun _ _ _ _ _ => (pe_call G__law_text_drawn (hr.mono (by decide)) rfl T.g__law_text_drawn T.F__law_text_drawn.kp T.b__law_text_drawn .nil pass0 (pa_cons (pv 0) pa_nil))))
    (pss_cons (ps_for PassesOwn.never rfl (pi_listK (K := K) rfl (pv 2)) (pg_name (i := 3) sc__law_right.nd rfl (Or.inl rfl)) (pss_cons (ps_set (i := 4) sc__law_right.nd rfl (Or.inl rfl) (pe_call G__law_frame (hr.mono (by decide)) rfl T.g__law_frame T.F__law_frame.kp T.b__law_frame .nil pass0 (pa_cons (pv 3) pa_nil)))
    (pss_cons (ps_if (pt_not (pt_val (pe_call G__law_same (hr.mono (by decide)) rfl T.g__law_same T.F__law_same.kp T.b__law_same .nil pass0 (pa_cons (pe_lst (pa_cons (pe_call G_frame (hr.mono (by decide)) rfl T.g_frame T.F_frame.kp T.b_frame .nil passL (pa_cons (pv 3) pa_nil)) (pa_cons (pe_callW0 G_frame (hr.mono (by decide)) rfl T.g_frame T.F_frame.kp T.kb_frame_text passL (pk_cons (pv 3) pk_nil)) (pa_cons (pe_callW0 G_check_number (hr.mono (by decide)) rfl T.g_check_number T.F_check_number.kp T.kb_check_number_text passL (pk_cons (pv 3) pk_nil)) pa_nil)))) (pa_cons (pe_lst (pa_cons (pv 4) (pa_cons (pv 4) (pa_cons (pe_callTy call_int_strN (by rfl) T.n_int (by decide +kernel) (pa_cons (pe_slice sl_str (pv 4) (po_some pe_int) (po_some pe_int)) pa_nil)) pa_nil)))) pa_nil))))) (pss_one (ps_ret pe_bl)) pss_nil)
    (pss_one (ps_if (pt_not (pt_val (pe_call G__law_bent_right (hr.mono (by decide)) rfl T.g__law_bent_right T.F__law_bent_right.kp T.b__law_bent_right .nil pass0 (pa_cons (pv 0) (pa_cons (pv 2) (pa_cons (pv 3) pa_nil)))))) (pss_one (ps_ret pe_bl)) pss_nil)))))
    p2)), ?_⟩
  obtain ⟨b, rfl, B, hT, k⟩ := h
  walk_at "go"
  refine ⟨b, 4, rfl, B, by decide, by decide, fun n H1 hn f1 B1 => ?_⟩
  walk_at "go"
  refine w_rngE (by omega) (by omega) ?_
  rw [show (1 + (n : Int)).toNat = 1 + n by omega]
  refine lc_go (walk_range (lo := 0) (n := 1 + n)) (M := some b) (Bg.some B1) (fun _ _ => trivial) (fun i acc => ∃ ts, acc = txs ts ∧ ts.length = i ∧ ∀ t ∈ ts, Ok t) (fun i acc hi h => by obtain ⟨ts, rfl, h1, _⟩ := h; simp [txs]; omega) ⟨[], rfl, rfl, fun _ h => by cases h⟩ ?_ ?_
  · rintro i x H2 H3 acc Zt Zf hi f2 B2 ⟨ts, rfl, h1, h2⟩ ⟨rfl, rfl⟩ kt kf
    walk_at "go"
    refine ⟨b, rfl, B2.get, fun l H4 okl f4 B4 => ?_⟩
    refine kt _ _ f4 (Bg.some B4) ⟨ts ++ [l], by simp [txs], by simp [h1], fun t ht => ?_⟩
    rcases List.mem_append.mp ht with h | h
    · exact h2 t h
    · simp at h
      rw [h]
      exact okl
  rintro a H2 acc ha f2 B2 e2 ⟨ts, rfl, hl, ok⟩
  have B2' := B2.get
  have nab : a ≠ b := Ne.symm (B1.ne ha)
  have nab' : (some b : Option Addr) ≠ some a := fun z => nab (Option.some.inj z).symm
  have hS : SqL K H2 a (txs ts) := SqL.of e2
  have h4 : ts.length ≤ 4 := by omega
  have tne : ts ≠ [] := fun z => by
    rw [z] at hl
    simp at hl
    omega
  walk_at "go"
  refine w_listE hS ?_
  have F2 := f1.trans f2
  refine for_it walk_list (fun i σ H' => ∃ v1 v3 v4 : Option V, σ = [some (.ref b), v1, some (.ref a), v3, v4, none, none, none, none, none, none, none, none] ∧ Fr (some b) H2 H' ∧ Bag H' b)
    ⟨_, _, _, rfl, Fr.refl _ _, B2'⟩ (fun i σ H' _ ⟨_, _, _, _, f, _⟩ => f.sql nab' hS) ?_ ?_
  · rintro i x σ H3 H4 hi ⟨v1, v3, v4, rfl, f3, B3⟩ ⟨rfl, hx⟩
    obtain ⟨t, ht, rfl⟩ := txs_at' hx
    have okt := ok t (List.mem_of_getElem? ht)
    have t1 := okt.lo
    have t2' := okt.hi
    walk_at "go"
    refine ⟨t, rfl, okt, fun H5 f5 => ?_⟩
    walk_at "go"
    refine ⟨_, rfl, .inl ⟨t, rfl, okt, fun H6 f6 => ?_⟩⟩
    walk_at "go"
    refine ⟨_, rfl, .inl ⟨t, rfl, okt, fun H7 f7 => ?_⟩⟩
    walk_at "go"
    refine ⟨t, rfl, okt.sg, by omega, fun H8 f8 => ?_⟩
    walk_at "go"
    intro l1 hl1
    walk_at "go"
    have hfl := fr_len t
    refine w_slS (by rw [S_len, sizeLine_eq]; omega) ?_
    rw [show cutS (S (fr t)) (some 4) (some 7) = S (((fr t).drop 4).take (7 - 4)) from cut_nn (fr t) 4 7, show ((fr t).drop 4).take (7 - 4) = d3 (chk t) from rfl]
    walk_at "go"
    have hcl := chk_lt t
    refine w_intS (dg_int (d3_dg _) (List.cons_ne_nil _ _) (by rw [d3_len]; decide)) (by rw [S_len, d3_len]; decide) ?_
    rw [d3_val (by omega)]
    walk_at "go"
    intro l2 hl2
    have n12 : l1 ≠ l2 := fun z => by
      rw [← z, upd_same] at hl2
      cases hl2
    have f9 := f5.trans (f6.trans (f7.trans (f8.trans ((Fr.new (M := none) (o := .lst [.str (S (fr t)), .str (S (fr t)), .int (chk t : Nat)]) hl1).trans (Fr.new (o := .lst [.str (S (fr t)), .str (S (fr t)), .int (chk t : Nat)]) hl2)))))
    walk_at "go"
    refine ⟨_, _, .list [.str (S (fr t)), .str (S (fr t)), .int (chk t : Nat)], rfl,
      .lst (SqL.of (by rw [upd_ne n12, upd_same])) (.cons (.str _) (.cons (.str _) (.cons (.int _) .nil))), .lst (SqL.of upd_same) (.cons (.str _) (.cons (.str _) (.cons (.int _) .nil))), ?_, fun H10 f10 => ?_⟩
    · show (decide (_ ≤ 100000) && [PyData.str (S (fr t)), .str (S (fr t)), .int (chk t : Nat)].all (okd 1)) = true
      simp only [List.all_cons, List.all_nil, okd_str (n := 1) (fr_sg okt)]
      rfl
    have f310 := f9.trans f10
    walk_at "go"
    refine ⟨b, a, ts, t, rfl, B3.free f310, (f3.trans (Fr.of f310)).sql nab' hS, nab, ok, h4, tne, okt, fun H11 f11 B11 => ?_⟩
    walk_at "go"
    exact ⟨_, _, _, rfl, (f3.trans (Fr.of f310)).trans f11, B11⟩
  · rintro σ H3 ⟨v1, v3, v4, rfl, f3, B3⟩
    exact q2 _ b a ts H3 _ _ _ _ _ _ _ _ _ _ _ B3 (tabs_fr hT B (F2.trans f3)) (f3.sql nab' hS) nab ok h4 fun H5 x5 t5 => k _ ((Ex.fr (F2.trans f3)).trans x5) t5
end K28

set_option Elab.async false
set_option linter.all false
set_option maxRecDepth 100000
set_option maxHeartbeats 4000000
namespace K28
open PySem PySem.Spec PyProof.Rows L2 Xr Vc Tx M28
variable {P : Program} {w : World} {K : PySem.W.Frag} {mg : Str → Option Value} {base : Heap}
local macro_rules | `(tactic| walk_at "go1") => `(tactic| first
  | with_reducible refine w_seq ?_ | with_reducible refine w_asg ?_ | with_reducible refine w_asgG ?_ | with_reducible refine w_next ?_ | with_reducible refine w_parS ?_ | with_reducible refine w_par ?_ | with_reducible refine w_par3S ?_ | with_reducible refine w_par3 ?_ | with_reducible refine w_ret ?_ | with_reducible refine w_retN ?_ | with_reducible refine w_drop ?_ | with_reducible refine w_ifS ?_
  | with_reducible refine w_var (by with_unfolding_all exact rfl) ?_ | with_reducible refine w_c ?_ | with_reducible refine w_op ?_ | with_reducible refine w_un ?_ | with_reducible refine w_chain ?_ | with_reducible refine w_I0 ?_ | with_reducible refine w_U ?_
  | with_reducible refine w_eq (by with_unfolding_all exact rfl) ?_ | with_reducible refine w_ne (by with_unfolding_all exact rfl) ?_ | with_reducible refine w_isN ?_ | with_reducible refine w_notN ?_
  | with_reducible refine w_cb ?_ | with_reducible refine w_nil ?_ | with_reducible refine w_cons ?_ | with_reducible refine w_call ?_ | with_reducible refine w_callW ?_ | with_reducible refine w_int ?_ | with_reducible refine w_abs ?_ | with_reducible refine w_max2 ?_ | with_reducible refine w_min2 ?_
  | with_reducible refine w_test ?_ | with_reducible refine w_tB ?_ | with_reducible refine w_bl ?_ | with_reducible refine w_blE ?_ | with_reducible refine w_and ?_ | with_reducible refine w_or ?_ | with_reducible refine w_not ?_ | with_reducible refine w_andV ?_ | with_reducible refine w_orV ?_ | with_reducible refine w_notV ?_ | with_reducible refine w_ifE ?_ | with_reducible refine w_yes ?_
  | with_reducible refine w_tup ?_ | with_reducible refine w_lst ?_ | with_reducible refine w_bm ?_ | with_reducible refine w_bm0 ?_ | with_reducible refine w_sl ?_ | with_reducible refine w_noPart ?_ | with_reducible refine w_part ?_ | with_reducible refine w_partI ?_ | with_reducible refine lc_of ?_
  | with_reducible refine w_I (by with_unfolding_all (show (0 : Int) < _; decide)) ?_ | with_reducible refine w_iStr ?_ | with_reducible refine w_strE ?_ | with_reducible refine w_iList ?_ | with_reducible refine w_iTup ?_ | with_reducible refine w_iRng1 ?_ | with_reducible refine w_iEnumS ?_ | with_reducible refine w_enumSE ?_ | with_reducible refine w_iEnumS1 ?_ | with_reducible refine w_iEnum ?_ | with_reducible refine for_of ?_ | with_reducible refine w_nT ?_ | with_reducible refine w_nF ?_ | with_reducible refine iteT ?_ | with_reducible refine iteF ?_ | with_reducible refine w_len (by with_unfolding_all exact rfl) ?_ | with_reducible refine w_rfl (by with_unfolding_all exact rfl) ?_ | with_reducible refine ty_strA ?_ | with_reducible refine w_gsub ?_ | with_reducible refine w_gname ?_ | with_reducible refine w_gcons ?_ | with_reducible refine w_gnil ?_ | with_reducible refine w_inS ?_ | with_reducible refine w_niS ?_ | with_reducible refine w_revS ?_)
local macro_rules | `(tactic| walk_at "go") => `(tactic| repeat' (walk_at "go1"))
open LamX
/-- the law -/
def sp_law (K : PySem.W.Frag) (Tb : List (Addr × Str)) : Sp := fun vs H Q _ => ∃ (a : Addr) (ns : List Int), vs = [.ref a] ∧ SqL K H a (ns.map V.int) ∧ ns.length ≤ 100000 ∧ Tabs Tb H ∧ ∀ H', Q (.bl true) H'
theorem ExtN.sql {a : Addr} {xs : List V} {H H' : Hp} (e : ExtN H H') (h : SqL K H a xs) : SqL K H' a xs := by
  rcases h with (h | ⟨o, h⟩) | h
  · exact .inl (.inl (e _ _ h fun ps q => by cases q))
  · exact .inl (.inr ⟨o, e _ _ h fun ps q => by cases q⟩)
  · exact .inr h
theorem tabs_upd {Tb : List (Addr × Str)} {H : Hp} {D : Addr} {xs ys : List V} (T : Tabs Tb H) (hD : H D = some (.lst xs)) : Tabs Tb (upd H D (.lst ys)) := by
  have kp : ∀ a o, a ≠ D → H a = some o → upd H D (.lst ys) a = some o := fun a o n h => by rw [upd_ne n]; exact h
  intro p hp
  obtain ⟨ps, h1, h2, h3⟩ := T p hp
  refine ⟨ps, kp _ _ (fun z => ?_) h1, h2, fun pos cv hc => ?_⟩
  · rw [z, hD] at h1
    cases h1
  · obtain ⟨c', e1, e2⟩ := h3 pos cv hc
    refine ⟨c', e1, kp _ _ (fun z => ?_) e2⟩
    rw [z, hD] at e2
    have e3 := Option.some.inj e2
    unfold CodeO at e3
    cases e3
theorem ok_law (T : Txt K mg) {c Pt : Addr} {Tb : List (Addr × Str)} (FC : FunC K "_law_right" "_law_right" s__law_right T.a__law_right T.d__law_right c) (TB : TabB base mg c Pt) (hmT : (Pt, rightQ) ∈ Tb) (hu : ∀ p ∈ Tb, p.1 = Pt → p.2 = rightQ) :
    FnOk P w K mg base CX0 12 T.a_law T.d_law ["script"] (sp_law K Tb) := by
  have G__law_bag : FnOk P w K mg base CX0 1 T.a__law_bag T.d__law_bag ["script", "at"] (sp_bag K) := ok__law_bag T
  have G__law_right : FnOk P w K mg base CX0 11 T.a__law_right T.d__law_right ["bag"] (sp_right Tb) := ok__law_right T FC TB hmT hu (ok__law_bent_right T)
  refine T.F_law.ok sc_law (fun vs H Q E h => ?_) (fun cdv A outer s H vs Q E hr h => ⟨_, (pss_one (ps_ret (pe_callB (cr_allK (K := K) rfl rfl) (by rfl) T.n_all (by decide +kernel) (pa_cons (pe_lc (own := [("at", 1)]) (g := gName 1) (tt := tYes) rfl sc_law.nd (pi_range1 (by rfl) T.n_range (pa_cons pe_int pa_nil)) (blkOk_by (own := [("at", 1)]) (N := ["script", "at"]) (sc := defScope s_law) (by decide +kernel)) (fun _ _ _ _ _ => (pg_name (i := 1) sc_law.nd rfl (Or.inl rfl))) (fun _ _ _ _ _ => pts_nil) (fun _ _ _ _ _ => (pe_call G__law_right (hr.mono (by decide)) rfl T.g__law_right T.F__law_right.kp T.b__law_right .nil pass0 (pa_cons (pe_call G__law_bag (hr.mono (by decide)) rfl T.g__law_bag T.F__law_bag.kp T.b__law_bag .nil pass0 (pa_cons (pv 0) (pa_cons (pv 1) pa_nil))) pa_nil)))) pa_nil)))), ?_⟩)
  · obtain ⟨a, ns, rfl, _⟩ := h
    rfl
  · obtain ⟨a, ns, rfl, hS, hl, hT, k⟩ := h
    walk_at "go"
    refine w_rngE (by decide) (by decide) ?_
    intro D hD
    have hx0 : ExtN H (upd H D (.lst [])) := ExtN.fr (Fr.new hD)
    refine lc_it (walk_range (lo := 0) (n := 2)) (fun i H' => ExtN H H' ∧ H' D = some (.lst ((List.replicate i true).map V.bl)) ∧ Tabs Tb H') ⟨hx0, upd_same, tabs_fr0 hT (Fr.new hD)⟩ (fun _ _ _ _ => trivial) ?_ ?_
    · rintro i x H1 H2 hi ⟨x1, hD1, t1⟩ ⟨rfl, rfl⟩
      walk_at "go"
      refine ⟨a, ns, i, (by show [V.ref a, V.int (0 + (i : Int))] = _; rw [Int.zero_add]), ExtN.sql x1 hS, hl, fun p H3 f3 B3 hp => ?_⟩
      have hD3 := f3 _ _ (by simp) hD1
      have nDp : D ≠ p := fun z => by
        rw [← z, hD1] at hp
        cases hp
      walk_at "go"
      refine ⟨p, rfl, B3, tabs_fr0 t1 f3, fun H4 x4 t4 => ?_⟩
      have hD4 : H4 D = _ := x4 D _ (by simpa using nDp) (fun ps q => by cases q) hD3
      refine ⟨_, hD4, by rw [sizeLine_eq]; simp; omega, fun y o h n => ?_, by rw [upd_same, rep_snoc], tabs_upd t4 hD4⟩
      have ny : y ≠ D := fun z => by
        rw [z, hD] at h
        cases h
      have nyp : y ≠ p := fun z => by
        have := x1 _ _ h n
        rw [z, hp] at this
        cases this
      rw [upd_ne ny]
      exact x4 y o (by simpa using nyp) n (f3 _ _ (by simp) (x1 _ _ h n))
    · rintro H1 ⟨x1, hD1, t1⟩
      walk_at "go"
      exact w_all_true (SqL.of hD1) (k _)
end K28

set_option Elab.async false
set_option linter.all false
set_option maxRecDepth 100000
set_option maxHeartbeats 4000000
namespace K28
open PySem PySem.Spec PyProof.Rows L2 Xr Vc Tx M28
variable {P : Program} {w : World} {K : PySem.W.Frag} {mg : Str → Option Value} {base : Heap}
local macro_rules | `(tactic| walk_at "go1") => `(tactic| first
  | with_reducible refine w_seq ?_ | with_reducible refine w_asg ?_ | with_reducible refine w_asgG ?_ | with_reducible refine w_next ?_ | with_reducible refine w_parS ?_ | with_reducible refine w_par ?_ | with_reducible refine w_par3S ?_ | with_reducible refine w_par3 ?_ | with_reducible refine w_ret ?_ | with_reducible refine w_retN ?_ | with_reducible refine w_drop ?_ | with_reducible refine w_ifS ?_
  | with_reducible refine w_var (by with_unfolding_all exact rfl) ?_ | with_reducible refine w_c ?_ | with_reducible refine w_op ?_ | with_reducible refine w_un ?_ | with_reducible refine w_chain ?_ | with_reducible refine w_I0 ?_ | with_reducible refine w_U ?_
  | with_reducible refine w_eq (by with_unfolding_all exact rfl) ?_ | with_reducible refine w_ne (by with_unfolding_all exact rfl) ?_ | with_reducible refine w_isN ?_ | with_reducible refine w_notN ?_
  | with_reducible refine w_cb ?_ | with_reducible refine w_nil ?_ | with_reducible refine w_cons ?_ | with_reducible refine w_call ?_ | with_reducible refine w_callW ?_ | with_reducible refine w_int ?_ | with_reducible refine w_abs ?_ | with_reducible refine w_max2 ?_ | with_reducible refine w_min2 ?_
  | with_reducible refine w_test ?_ | with_reducible refine w_tB ?_ | with_reducible refine w_bl ?_ | with_reducible refine w_blE ?_ | with_reducible refine w_and ?_ | with_reducible refine w_or ?_ | with_reducible refine w_not ?_ | with_reducible refine w_andV ?_ | with_reducible refine w_orV ?_ | with_reducible refine w_notV ?_ | with_reducible refine w_ifE ?_ | with_reducible refine w_yes ?_
  | with_reducible refine w_tup ?_ | with_reducible refine w_lst ?_ | with_reducible refine w_bm ?_ | with_reducible refine w_bm0 ?_ | with_reducible refine w_sl ?_ | with_reducible refine w_noPart ?_ | with_reducible refine w_part ?_ | with_reducible refine w_partI ?_ | with_reducible refine lc_of ?_
  | with_reducible refine w_I (by with_unfolding_all (show (0 : Int) < _; decide)) ?_ | with_reducible refine w_iStr ?_ | with_reducible refine w_strE ?_ | with_reducible refine w_iList ?_ | with_reducible refine w_iTup ?_ | with_reducible refine w_iRng1 ?_ | with_reducible refine w_iEnumS ?_ | with_reducible refine w_enumSE ?_ | with_reducible refine w_iEnumS1 ?_ | with_reducible refine w_iEnum ?_ | with_reducible refine for_of ?_ | with_reducible refine w_nT ?_ | with_reducible refine w_nF ?_ | with_reducible refine iteT ?_ | with_reducible refine iteF ?_ | with_reducible refine w_len (by with_unfolding_all exact rfl) ?_ | with_reducible refine w_rfl (by with_unfolding_all exact rfl) ?_ | with_reducible refine ty_strA ?_ | with_reducible refine w_gsub ?_ | with_reducible refine w_gname ?_ | with_reducible refine w_gcons ?_ | with_reducible refine w_gnil ?_ | with_reducible refine w_inS ?_ | with_reducible refine w_niS ?_ | with_reducible refine w_revS ?_)
local macro_rules | `(tactic| walk_at "go") => `(tactic| repeat' (walk_at "go1"))
section
variable {P : Program} {w : World} {K : PySem.W.Frag} {mg : Str → Option Value} {base : Heap}
theorem exm_self' {K : PySem.W.Frag} {S : Addr} (h1 : PySem.W.subIn K (.ref S) (.type "BaseException") = some true) (h2 : PySem.W.isClsIn K S = true) (h3 : PySem.W.typeIn K (.ref S) = some (.type "type")) (h4 : PySem.W.subIn K (.ref S) (.ref S) = some true) :
    PySem.W.exmOne K (.ref S) (.ref S) = some true := by
  have e1 : (PySem.W.subIn K (.ref S) (.type "BaseException") == some true) = true := by rw [h1] <;> rfl
  have e2 : ((PySem.W.clsIn K S).isSome && PySem.W.typeIn K (.ref S) == some (.type "type")) = true := by
    have h2' : (PySem.W.clsIn K S).isSome = true := h2
    rw [h2', h3] <;> rfl
  show (if (PySem.W.subIn K (.ref S) (.type "BaseException") == some true) = true then (if ((PySem.W.clsIn K S).isSome && PySem.W.typeIn K (.ref S) == some (.type "type")) = true then PySem.W.subIn K (.ref S) (.ref S) else none) else none) = some true
  rw [if_pos e1, if_pos e2]
  exact h4
/-- the code object at c, its table at P -/
def CodeK (K : PySem.W.Frag) (c P : Addr) : Prop :=
  ∃ (o : Obj) (vs : Array Value) (file : Str) (tf : Tok) (flags : Int) (tg : Tok) (inF : Bool) (text : Int) (tt : Tok), K.lookup c = some o ∧ o.cls = .type "code" ∧ o.data = .fields vs ∧ vs[11]? = some (.ref P) ∧ vs.getD 11 .none = .ref P ∧ vs.getD 18 .none = .str file tf ∧
    vs.getD 7 .none = .int flags tg ∧ vs.getD 9 .none = .bool inF ∧ vs.getD 10 .none = .int text tt ∧ c ≠ P
theorem CodeK.hd {K : PySem.W.Frag} {c P : Addr} {h : Heap} (k : CodeK K c P) (X : K.In h) : PySem.W.CodeHd h c P := by
  obtain ⟨o, vs, file, tf, flags, tg, inF, text, tt, e, r⟩ := k
  exact ⟨o, vs, file, tf, flags, tg, inF, text, tt, X _ _ e, r⟩
theorem all_mk {l : PySem.W.OpenLaw} {h : Heap} {fa : Addr} (X : K.In h) (G : h.Ns mainGlobals mg) (hfa : mg "law" = some (.ref fa))
    {a0 a1 a2 a3 a4 a5 a6 a7 a8 a9 a10 a11 a12 a13 a14 a15 a16 a17 a18 a19 a20 a21 a22 a23 a24 a25 : Addr}
    {od0 an0 od1 an1 od2 an2 od3 an3 od4 an4 od5 an5 od6 an6 od7 an7 od8 an8 od9 an9 od10 an10 od11 an11 od12 an12 od13 an13 od14 an14 od15 an15 od16 an16 od17 an17 od18 an18 od19 an19 od20 an20 od21 an21 od22 an22 od23 an23 od24 an24 od25 an25 : Option Addr}
    {sl0 sl1 sl2 sl3 sl4 sl5 sl6 sl7 sl8 sl9 sl10 sl11 sl12 sl13 sl14 sl15 sl16 sl17 sl18 sl19 sl20 sl21 sl22 sl23 sl24 sl25 : Array (Option Value)}
    {oc0 kV0 dc0 pm0 ct0 cd0 oc1 kV1 dc1 pm1 ct1 cd1 oc2 kV2 dc2 pm2 ct2 cd2 oc3 kV3 dc3 pm3 ct3 cd3 oc4 kV4 dc4 pm4 ct4 cd4 oc5 kV5 dc5 pm5 ct5 cd5 oc6 kV6 dc6 pm6 ct6 cd6 oc7 kV7 dc7 pm7 ct7 cd7 oc8 kV8 dc8 pm8 ct8 cd8 oc9 kV9 dc9 pm9 ct9 cd9 oc10 kV10 dc10 pm10 ct10 cd10 oc11 kV11 dc11 pm11 ct11 cd11 oc12 kV12 dc12 pm12 ct12 cd12 oc13 kV13 dc13 pm13 ct13 cd13 oc14 kV14 dc14 pm14 ct14 cd14 oc15 kV15 dc15 pm15 ct15 cd15 oc16 kV16 dc16 pm16 ct16 cd16 oc17 kV17 dc17 pm17 ct17 cd17 oc18 kV18 dc18 pm18 ct18 cd18 oc19 kV19 dc19 pm19 ct19 cd19 oc20 kV20 dc20 pm20 ct20 cd20 oc21 kV21 dc21 pm21 ct21 cd21 oc22 kV22 dc22 pm22 ct22 cd22 oc23 kV23 dc23 pm23 ct23 cd23 oc24 kV24 dc24 pm24 ct24 oc25 kV25 dc25 pm25 ct25 cd25 : Value}
    {cR Pt : Addr}
    {C0 fI0 N0 : Addr} {nm0 q0 : Str} {bs0 sub0 bm0 : List Value} {sn0 : List Str} {ab0 : Bool} {col0 : Option Bool} {dd0 od_0 an_0 : Option Addr} {m00 m10 m20 m30 m50 : Option Value} {sl_0 : Array (Option Value)} {oc_0 dc_0 pm_0 cd_0 ct_0 : Value} {p10 p20 q10 q20 q30 q40 : Pos}
    {tk0 : Tok}
    {tk1 : Tok}
    {tk2 : Tok}
    {tk3 : Tok}
    {tk4 : Tok}
    {tk5 : Tok}
    {tk6 : Tok}
    (g0 : PySem.W.nsIn K mainGlobals "is_text_of" = some (some (.ref a0)))
    (l0 : K.lookup a0 = some ⟨oc0, od0, .func (PySem.W.fnOf "is_text_of" "is_text_of" (defArgs s_is_text_of) (defBody s_is_text_of) (defScope s_is_text_of) .none kV0 dc0 pm0 an0 cd0 ct0), sl0⟩)
    (c0 : PySem.W.codeIn K cd0 "is_text_of" = true)
    (k0 : PySem.W.keepIn K (.ref a0) = true)
    (g1 : PySem.W.nsIn K mainGlobals "is_signed" = some (some (.ref a1)))
    (l1 : K.lookup a1 = some ⟨oc1, od1, .func (PySem.W.fnOf "is_signed" "is_signed" (defArgs s_is_signed) (defBody s_is_signed) (defScope s_is_signed) .none kV1 dc1 pm1 an1 cd1 ct1), sl1⟩)
    (c1 : PySem.W.codeIn K cd1 "is_signed" = true)
    (k1 : PySem.W.keepIn K (.ref a1) = true)
    (g2 : PySem.W.nsIn K mainGlobals "check_text" = some (some (.ref a2)))
    (l2 : K.lookup a2 = some ⟨oc2, od2, .func (PySem.W.fnOf "check_text" "check_text" (defArgs s_check_text) (defBody s_check_text) (defScope s_check_text) .none kV2 dc2 pm2 an2 cd2 ct2), sl2⟩)
    (c2 : PySem.W.codeIn K cd2 "check_text" = true)
    (k2 : PySem.W.keepIn K (.ref a2) = true)
    (g3 : PySem.W.nsIn K mainGlobals "check_signs" = some (some (.ref a3)))
    (l3 : K.lookup a3 = some ⟨oc3, od3, .func (PySem.W.fnOf "check_signs" "check_signs" (defArgs s_check_signs) (defBody s_check_signs) (defScope s_check_signs) .none kV3 dc3 pm3 an3 cd3 ct3), sl3⟩)
    (c3 : PySem.W.codeIn K cd3 "check_signs" = true)
    (k3 : PySem.W.keepIn K (.ref a3) = true)
    (g4 : PySem.W.nsIn K mainGlobals "check_of" = some (some (.ref a4)))
    (l4 : K.lookup a4 = some ⟨oc4, od4, .func (PySem.W.fnOf "check_of" "check_of" (defArgs s_check_of) (defBody s_check_of) (defScope s_check_of) .none kV4 dc4 pm4 an4 cd4 ct4), sl4⟩)
    (c4 : PySem.W.codeIn K cd4 "check_of" = true)
    (k4 : PySem.W.keepIn K (.ref a4) = true)
    (g5 : PySem.W.nsIn K mainGlobals "frame_of" = some (some (.ref a5)))
    (l5 : K.lookup a5 = some ⟨oc5, od5, .func (PySem.W.fnOf "frame_of" "frame_of" (defArgs s_frame_of) (defBody s_frame_of) (defScope s_frame_of) .none kV5 dc5 pm5 an5 cd5 ct5), sl5⟩)
    (c5 : PySem.W.codeIn K cd5 "frame_of" = true)
    (k5 : PySem.W.keepIn K (.ref a5) = true)
    (g6 : PySem.W.nsIn K mainGlobals "text_at" = some (some (.ref a6)))
    (l6 : K.lookup a6 = some ⟨oc6, od6, .func (PySem.W.fnOf "text_at" "text_at" (defArgs s_text_at) (defBody s_text_at) (defScope s_text_at) .none kV6 dc6 pm6 an6 cd6 ct6), sl6⟩)
    (c6 : PySem.W.codeIn K cd6 "text_at" = true)
    (k6 : PySem.W.keepIn K (.ref a6) = true)
    (g7 : PySem.W.nsIn K mainGlobals "frames_by" = some (some (.ref a7)))
    (l7 : K.lookup a7 = some ⟨oc7, od7, .func (PySem.W.fnOf "frames_by" "frames_by" (defArgs s_frames_by) (defBody s_frames_by) (defScope s_frames_by) .none kV7 dc7 pm7 an7 cd7 ct7), sl7⟩)
    (c7 : PySem.W.codeIn K cd7 "frames_by" = true)
    (k7 : PySem.W.keepIn K (.ref a7) = true)
    (g8 : PySem.W.nsIn K mainGlobals "check_number" = some (some (.ref a8)))
    (l8 : K.lookup a8 = some ⟨oc8, od8, .func (PySem.W.fnOf "check_number" "check_number" (defArgs s_check_number) (defBody s_check_number) (defScope s_check_number) .none kV8 dc8 pm8 an8 cd8 ct8), sl8⟩)
    (c8 : PySem.W.codeIn K cd8 "check_number" = true)
    (k8 : PySem.W.keepIn K (.ref a8) = true)
    (g9 : PySem.W.nsIn K mainGlobals "frame" = some (some (.ref a9)))
    (l9 : K.lookup a9 = some ⟨oc9, od9, .func (PySem.W.fnOf "frame" "frame" (defArgs s_frame) (defBody s_frame) (defScope s_frame) .none kV9 dc9 pm9 an9 cd9 ct9), sl9⟩)
    (c9 : PySem.W.codeIn K cd9 "frame" = true)
    (k9 : PySem.W.keepIn K (.ref a9) = true)
    (g10 : PySem.W.nsIn K mainGlobals "frames_in" = some (some (.ref a10)))
    (l10 : K.lookup a10 = some ⟨oc10, od10, .func (PySem.W.fnOf "frames_in" "frames_in" (defArgs s_frames_in) (defBody s_frames_in) (defScope s_frames_in) .none kV10 dc10 pm10 an10 cd10 ct10), sl10⟩)
    (c10 : PySem.W.codeIn K cd10 "frames_in" = true)
    (k10 : PySem.W.keepIn K (.ref a10) = true)
    (g11 : PySem.W.nsIn K mainGlobals "opened" = some (some (.ref a11)))
    (l11 : K.lookup a11 = some ⟨oc11, od11, .func (PySem.W.fnOf "opened" "opened" (defArgs s_opened) (defBody s_opened) (defScope s_opened) .none kV11 dc11 pm11 an11 cd11 ct11), sl11⟩)
    (c11 : PySem.W.codeIn K cd11 "opened" = true)
    (k11 : PySem.W.keepIn K (.ref a11) = true)
    (g12 : PySem.W.nsIn K mainGlobals "_law_bag" = some (some (.ref a12)))
    (l12 : K.lookup a12 = some ⟨oc12, od12, .func (PySem.W.fnOf "_law_bag" "_law_bag" (defArgs s__law_bag) (defBody s__law_bag) (defScope s__law_bag) .none kV12 dc12 pm12 an12 cd12 ct12), sl12⟩)
    (c12 : PySem.W.codeIn K cd12 "_law_bag" = true)
    (k12 : PySem.W.keepIn K (.ref a12) = true)
    (g13 : PySem.W.nsIn K mainGlobals "_law_draw" = some (some (.ref a13)))
    (l13 : K.lookup a13 = some ⟨oc13, od13, .func (PySem.W.fnOf "_law_draw" "_law_draw" (defArgs s__law_draw) (defBody s__law_draw) (defScope s__law_draw) .none kV13 dc13 pm13 an13 cd13 ct13), sl13⟩)
    (c13 : PySem.W.codeIn K cd13 "_law_draw" = true)
    (k13 : PySem.W.keepIn K (.ref a13) = true)
    (g14 : PySem.W.nsIn K mainGlobals "_law_one" = some (some (.ref a14)))
    (l14 : K.lookup a14 = some ⟨oc14, od14, .func (PySem.W.fnOf "_law_one" "_law_one" (defArgs s__law_one) (defBody s__law_one) (defScope s__law_one) .none kV14 dc14 pm14 an14 cd14 ct14), sl14⟩)
    (c14 : PySem.W.codeIn K cd14 "_law_one" = true)
    (k14 : PySem.W.keepIn K (.ref a14) = true)
    (g15 : PySem.W.nsIn K mainGlobals "_law_same" = some (some (.ref a15)))
    (l15 : K.lookup a15 = some ⟨oc15, od15, .func (PySem.W.fnOf "_law_same" "_law_same" (defArgs s__law_same) (defBody s__law_same) (defScope s__law_same) .none kV15 dc15 pm15 an15 cd15 ct15), sl15⟩)
    (c15 : PySem.W.codeIn K cd15 "_law_same" = true)
    (k15 : PySem.W.keepIn K (.ref a15) = true)
    (g16 : PySem.W.nsIn K mainGlobals "_law_frame" = some (some (.ref a16)))
    (l16 : K.lookup a16 = some ⟨oc16, od16, .func (PySem.W.fnOf "_law_frame" "_law_frame" (defArgs s__law_frame) (defBody s__law_frame) (defScope s__law_frame) .none kV16 dc16 pm16 an16 cd16 ct16), sl16⟩)
    (c16 : PySem.W.codeIn K cd16 "_law_frame" = true)
    (k16 : PySem.W.keepIn K (.ref a16) = true)
    (g17 : PySem.W.nsIn K mainGlobals "_law_signs" = some (some (.ref a17)))
    (l17 : K.lookup a17 = some ⟨oc17, od17, .func (PySem.W.fnOf "_law_signs" "_law_signs" (defArgs s__law_signs) (defBody s__law_signs) (defScope s__law_signs) .none kV17 dc17 pm17 an17 cd17 ct17), sl17⟩)
    (c17 : PySem.W.codeIn K cd17 "_law_signs" = true)
    (k17 : PySem.W.keepIn K (.ref a17) = true)
    (g18 : PySem.W.nsIn K mainGlobals "_law_text_drawn" = some (some (.ref a18)))
    (l18 : K.lookup a18 = some ⟨oc18, od18, .func (PySem.W.fnOf "_law_text_drawn" "_law_text_drawn" (defArgs s__law_text_drawn) (defBody s__law_text_drawn) (defScope s__law_text_drawn) .none kV18 dc18 pm18 an18 cd18 ct18), sl18⟩)
    (c18 : PySem.W.codeIn K cd18 "_law_text_drawn" = true)
    (k18 : PySem.W.keepIn K (.ref a18) = true)
    (g19 : PySem.W.nsIn K mainGlobals "_law_put_sign" = some (some (.ref a19)))
    (l19 : K.lookup a19 = some ⟨oc19, od19, .func (PySem.W.fnOf "_law_put_sign" "_law_put_sign" (defArgs s__law_put_sign) (defBody s__law_put_sign) (defScope s__law_put_sign) .none kV19 dc19 pm19 an19 cd19 ct19), sl19⟩)
    (c19 : PySem.W.codeIn K cd19 "_law_put_sign" = true)
    (k19 : PySem.W.keepIn K (.ref a19) = true)
    (g20 : PySem.W.nsIn K mainGlobals "_law_kept_check" = some (some (.ref a20)))
    (l20 : K.lookup a20 = some ⟨oc20, od20, .func (PySem.W.fnOf "_law_kept_check" "_law_kept_check" (defArgs s__law_kept_check) (defBody s__law_kept_check) (defScope s__law_kept_check) .none kV20 dc20 pm20 an20 cd20 ct20), sl20⟩)
    (c20 : PySem.W.codeIn K cd20 "_law_kept_check" = true)
    (k20 : PySem.W.keepIn K (.ref a20) = true)
    (g21 : PySem.W.nsIn K mainGlobals "_law_stream_right" = some (some (.ref a21)))
    (l21 : K.lookup a21 = some ⟨oc21, od21, .func (PySem.W.fnOf "_law_stream_right" "_law_stream_right" (defArgs s__law_stream_right) (defBody s__law_stream_right) (defScope s__law_stream_right) .none kV21 dc21 pm21 an21 cd21 ct21), sl21⟩)
    (c21 : PySem.W.codeIn K cd21 "_law_stream_right" = true)
    (k21 : PySem.W.keepIn K (.ref a21) = true)
    (g22 : PySem.W.nsIn K mainGlobals "_law_bent_right" = some (some (.ref a22)))
    (l22 : K.lookup a22 = some ⟨oc22, od22, .func (PySem.W.fnOf "_law_bent_right" "_law_bent_right" (defArgs s__law_bent_right) (defBody s__law_bent_right) (defScope s__law_bent_right) .none kV22 dc22 pm22 an22 cd22 ct22), sl22⟩)
    (c22 : PySem.W.codeIn K cd22 "_law_bent_right" = true)
    (k22 : PySem.W.keepIn K (.ref a22) = true)
    (g23 : PySem.W.nsIn K mainGlobals "_law_refused" = some (some (.ref a23)))
    (l23 : K.lookup a23 = some ⟨oc23, od23, .func (PySem.W.fnOf "_law_refused" "_law_refused" (defArgs s__law_refused) (defBody s__law_refused) (defScope s__law_refused) .none kV23 dc23 pm23 an23 cd23 ct23), sl23⟩)
    (c23 : PySem.W.codeIn K cd23 "_law_refused" = true)
    (k23 : PySem.W.keepIn K (.ref a23) = true)
    (g24 : PySem.W.nsIn K mainGlobals "_law_right" = some (some (.ref a24)))
    (l24 : K.lookup a24 = some ⟨oc24, od24, .func (PySem.W.fnOf "_law_right" "_law_right" (defArgs s__law_right) (defBody s__law_right) (defScope s__law_right) .none kV24 dc24 pm24 an24 (.ref cR) ct24), sl24⟩)
    (c24 : PySem.W.codeIn K (.ref cR) "_law_right" = true)
    (k24 : PySem.W.keepIn K (.ref a24) = true)
    (g25 : PySem.W.nsIn K mainGlobals "law" = some (some (.ref a25)))
    (l25 : K.lookup a25 = some ⟨oc25, od25, .func (PySem.W.fnOf "law" "law" (defArgs s_law) (defBody s_law) (defScope s_law) .none kV25 dc25 pm25 an25 cd25 ct25), sl25⟩)
    (c25 : PySem.W.codeIn K cd25 "law" = true)
    (k25 : PySem.W.keepIn K (.ref a25) = true)
    (aC0 : PySem.W.nsIn K mainGlobals "InvalidText" = some (some (.ref C0)))
    (xL0 : K.lookup C0 = some (excClassObj nm0 q0 C0 N0 bs0 bm0 true sn0 sub0 ab0 col0 dd0 m00 m10 m20 m30 m50 "ValueError.__new__"))
    (rv0 : PySem.HandSPX.refsVE bm0 = true)
    (sa0 : PySem.W.findIn K (.ref C0) "__setattr__" = some (some (.builtin "object.__setattr__")))
    (ga0 : PySem.W.findIn K (.ref C0) "__getattribute__" = some (some (.builtin "BaseException.__getattribute__")))
    (gg0 : PySem.W.findIn K (.ref C0) "__getattr__" = some none)
    (nb0 : PySem.W.findIn K (.ref C0) "given" = some none)
    (i1_0 : PySem.W.findIn K (.ref C0) "__init__" = some (some (.ref fI0)))
    (t1_0 : PySem.W.typeIn K (.ref fI0) = some (.type "function"))
    (l1_0 : K.lookup fI0 = some ⟨oc_0, od_0, .func (PySem.W.fnOf "__init__" "InvalidText.__init__" (LowInvalidText.iA p10 p20) (LowInvalidText.iB q10 q20 q30 q40) LowInvalidText.iS .none .none dc_0 pm_0 an_0 cd_0 ct_0), sl_0⟩)
    (c1_0 : PySem.W.codeIn K cd_0 "InvalidText.__init__" = true)
    (kC0 : PySem.W.keepIn K (.ref C0) = true)
    (eC0 : PySem.W.subIn K (.ref C0) (.type "BaseException") = some true)
    (tC0 : PySem.W.typeIn K (.ref C0) = some (.type "type"))
    (hC0 : PySem.W.hasDictIn K C0 = true)
    (iC0 : PySem.W.isClsIn K C0 = true)
    (sC0 : PySem.W.subIn K (.ref C0) (.ref C0) = some true)
    (z0 : PySem.W.nsIn K mainGlobals "DIGITS" = some (some (.str "0123456789" tk0)))
    (z1 : PySem.W.nsIn K mainGlobals "SIGNS" = some (some (.str " .0123456789abcdefghijklmnopqrstuvwxyz" tk1)))
    (z2 : PySem.W.nsIn K mainGlobals "MODULUS" = some (some (.int 997 tk2)))
    (z3 : PySem.W.nsIn K mainGlobals "LENGTH_DIGITS" = some (some (.int 4 tk3)))
    (z4 : PySem.W.nsIn K mainGlobals "CHECK_DIGITS" = some (some (.int 3 tk4)))
    (z5 : PySem.W.nsIn K mainGlobals "HEAD" = some (some (.int 7 tk5)))
    (z6 : PySem.W.nsIn K mainGlobals "LONGEST_FRAMED" = some (some (.int 999 tk6)))
    (n_abs : PySem.W.nsIn K mainGlobals "abs" = some none)
    (n_all : PySem.W.nsIn K mainGlobals "all" = some none)
    (n_bool : PySem.W.nsIn K mainGlobals "bool" = some none)
    (n_divmod : PySem.W.nsIn K mainGlobals "divmod" = some none)
    (n_enumerate : PySem.W.nsIn K mainGlobals "enumerate" = some none)
    (n_int : PySem.W.nsIn K mainGlobals "int" = some none)
    (n_isinstance : PySem.W.nsIn K mainGlobals "isinstance" = some none)
    (n_len : PySem.W.nsIn K mainGlobals "len" = some none)
    (n_list : PySem.W.nsIn K mainGlobals "list" = some none)
    (n_max : PySem.W.nsIn K mainGlobals "max" = some none)
    (n_range : PySem.W.nsIn K mainGlobals "range" = some none)
    (n_str : PySem.W.nsIn K mainGlobals "str" = some none)
    (n_sum : PySem.W.nsIn K mainGlobals "sum" = some none)
    (n_tuple : PySem.W.nsIn K mainGlobals "tuple" = some none)
    (cdo : CodeK K cR Pt)
    (tno : K.lookup Pt = none)
    (tab : h.get? Pt = some { cls := .none, data := .fields #[] }) :
    LamX.LawAtS l w K CX0 12 63 "script" mg fa h := by
  obtain rfl : a25 = fa := by
    have z := (PySem.W.mg_of X G g25).symm.trans hfa
    injection z with z
    injection z
  have low0 : LowInvalidText.LowTxt K mg C0 fI0 :=
    { gC := PySem.W.mg_of X G aC0, cls := ⟨nm0, q0, N0, bs0, _, sn0, sub0, ab0, col0, dd0, m00, m10, m20, m30, m50, xL0, rv0⟩, sa := sa0, ga := ga0, gg := gg0, noN := nb0, iC := i1_0, tC := t1_0, kC := kC0, exC := eC0, tyC := tC0, hdC := hC0, te := exm_self' eC0 iC0 tC0 sC0,
      fn := ⟨_, _, _, _, _, _, _, _, _, _, _, _, _, _, l1_0, c1_0⟩ }
  let T : Txt K mg := {
    a_is_text_of := a0, d_is_text_of := _, F_is_text_of := fun_mk (st := s_is_text_of) l0 c0 k0, g_is_text_of := PySem.W.mg_of X G g0,
    a_is_signed := a1, d_is_signed := _, F_is_signed := fun_mk (st := s_is_signed) l1 c1 k1, g_is_signed := PySem.W.mg_of X G g1,
    a_check_text := a2, d_check_text := _, F_check_text := fun_mk (st := s_check_text) l2 c2 k2, g_check_text := PySem.W.mg_of X G g2,
    a_check_signs := a3, d_check_signs := _, F_check_signs := fun_mk (st := s_check_signs) l3 c3 k3, g_check_signs := PySem.W.mg_of X G g3,
    a_check_of := a4, d_check_of := _, F_check_of := fun_mk (st := s_check_of) l4 c4 k4, g_check_of := PySem.W.mg_of X G g4,
    a_frame_of := a5, d_frame_of := _, F_frame_of := fun_mk (st := s_frame_of) l5 c5 k5, g_frame_of := PySem.W.mg_of X G g5,
    a_text_at := a6, d_text_at := _, F_text_at := fun_mk (st := s_text_at) l6 c6 k6, g_text_at := PySem.W.mg_of X G g6,
    a_frames_by := a7, d_frames_by := _, F_frames_by := fun_mk (st := s_frames_by) l7 c7 k7, g_frames_by := PySem.W.mg_of X G g7,
    a_check_number := a8, d_check_number := _, F_check_number := fun_mk (st := s_check_number) l8 c8 k8, g_check_number := PySem.W.mg_of X G g8,
    a_frame := a9, d_frame := _, F_frame := fun_mk (st := s_frame) l9 c9 k9, g_frame := PySem.W.mg_of X G g9,
    a_frames_in := a10, d_frames_in := _, F_frames_in := fun_mk (st := s_frames_in) l10 c10 k10, g_frames_in := PySem.W.mg_of X G g10,
    a_opened := a11, d_opened := _, F_opened := fun_mk (st := s_opened) l11 c11 k11, g_opened := PySem.W.mg_of X G g11,
    a__law_bag := a12, d__law_bag := _, F__law_bag := fun_mk (st := s__law_bag) l12 c12 k12, g__law_bag := PySem.W.mg_of X G g12,
    a__law_draw := a13, d__law_draw := _, F__law_draw := fun_mk (st := s__law_draw) l13 c13 k13, g__law_draw := PySem.W.mg_of X G g13,
    a__law_one := a14, d__law_one := _, F__law_one := fun_mk (st := s__law_one) l14 c14 k14, g__law_one := PySem.W.mg_of X G g14,
    a__law_same := a15, d__law_same := _, F__law_same := fun_mk (st := s__law_same) l15 c15 k15, g__law_same := PySem.W.mg_of X G g15,
    a__law_frame := a16, d__law_frame := _, F__law_frame := fun_mk (st := s__law_frame) l16 c16 k16, g__law_frame := PySem.W.mg_of X G g16,
    a__law_signs := a17, d__law_signs := _, F__law_signs := fun_mk (st := s__law_signs) l17 c17 k17, g__law_signs := PySem.W.mg_of X G g17,
    a__law_text_drawn := a18, d__law_text_drawn := _, F__law_text_drawn := fun_mk (st := s__law_text_drawn) l18 c18 k18, g__law_text_drawn := PySem.W.mg_of X G g18,
    a__law_put_sign := a19, d__law_put_sign := _, F__law_put_sign := fun_mk (st := s__law_put_sign) l19 c19 k19, g__law_put_sign := PySem.W.mg_of X G g19,
    a__law_kept_check := a20, d__law_kept_check := _, F__law_kept_check := fun_mk (st := s__law_kept_check) l20 c20 k20, g__law_kept_check := PySem.W.mg_of X G g20,
    a__law_stream_right := a21, d__law_stream_right := _, F__law_stream_right := fun_mk (st := s__law_stream_right) l21 c21 k21, g__law_stream_right := PySem.W.mg_of X G g21,
    a__law_bent_right := a22, d__law_bent_right := _, F__law_bent_right := fun_mk (st := s__law_bent_right) l22 c22 k22, g__law_bent_right := PySem.W.mg_of X G g22,
    a__law_refused := a23, d__law_refused := _, F__law_refused := fun_mk (st := s__law_refused) l23 c23 k23, g__law_refused := PySem.W.mg_of X G g23,
    a__law_right := a24, d__law_right := _, F__law_right := fun_mk (st := s__law_right) l24 c24 k24, g__law_right := PySem.W.mg_of X G g24,
    a_law := a25, d_law := _, F_law := fun_mk (st := s_law) l25 c25 k25, g_law := PySem.W.mg_of X G g25,
    C_InvalidText := C0, i_InvalidText := fI0, low_InvalidText := low0,
    k_DIGITS := (.str "0123456789" tk0), c_DIGITS := PySem.W.mg_of X G z0, r_DIGITS := ⟨_, rfl⟩,
    k_SIGNS := (.str " .0123456789abcdefghijklmnopqrstuvwxyz" tk1), c_SIGNS := PySem.W.mg_of X G z1, r_SIGNS := ⟨_, rfl⟩,
    k_MODULUS := (.int 997 tk2), c_MODULUS := PySem.W.mg_of X G z2, r_MODULUS := ⟨_, rfl⟩,
    k_LENGTH_DIGITS := (.int 4 tk3), c_LENGTH_DIGITS := PySem.W.mg_of X G z3, r_LENGTH_DIGITS := ⟨_, rfl⟩,
    k_CHECK_DIGITS := (.int 3 tk4), c_CHECK_DIGITS := PySem.W.mg_of X G z4, r_CHECK_DIGITS := ⟨_, rfl⟩,
    k_HEAD := (.int 7 tk5), c_HEAD := PySem.W.mg_of X G z5, r_HEAD := ⟨_, rfl⟩,
    k_LONGEST_FRAMED := (.int 999 tk6), c_LONGEST_FRAMED := PySem.W.mg_of X G z6, r_LONGEST_FRAMED := ⟨_, rfl⟩,
    n_abs := PySem.W.mg_none_of X G n_abs,
    n_all := PySem.W.mg_none_of X G n_all,
    n_bool := PySem.W.mg_none_of X G n_bool,
    n_divmod := PySem.W.mg_none_of X G n_divmod,
    n_enumerate := PySem.W.mg_none_of X G n_enumerate,
    n_int := PySem.W.mg_none_of X G n_int,
    n_isinstance := PySem.W.mg_none_of X G n_isinstance,
    n_len := PySem.W.mg_none_of X G n_len,
    n_list := PySem.W.mg_none_of X G n_list,
    n_max := PySem.W.mg_none_of X G n_max,
    n_range := PySem.W.mg_none_of X G n_range,
    n_str := PySem.W.mg_none_of X G n_str,
    n_sum := PySem.W.mg_none_of X G n_sum,
    n_tuple := PySem.W.mg_none_of X G n_tuple }
  have FC : FunC K "_law_right" "_law_right" s__law_right T.a__law_right T.d__law_right cR := ⟨⟨_, _, _, _, _, _, _, _, rfl, l24, c24⟩⟩
  refine ⟨T.d_law, [(cR, Pt)], sp_law K [(Pt, rightQ)], ?_, ?_, ?_, fun s v => .of_eq rfl, ?_, fun base _ _ TB => ok_law T FC (TB (cR, Pt) List.mem_cons_self) List.mem_cons_self ?_⟩
  · intro p hp
    simp at hp
    subst hp
    exact tab
  · intro p hp
    simp at hp
    subst hp
    exact tno
  · intro p hp
    simp at hp
    subst hp
    exact cdo.hd X
  · intro H a ns hl _ hH hS
    refine ⟨a, ns, rfl, hS, by omega, ?_, fun _ => rfl⟩
    intro p hp
    simp at hp
    subst hp
    exact LamX.TabS.nil (hH (cR, Pt) List.mem_cons_self)
  · intro p hp _
    simp at hp
    subst hp
    rfl
end
end K28

set_option Elab.async false
set_option linter.all false
set_option maxRecDepth 100000
open PySem PySem.W PyProof.Rows
set_option maxRecDepth 100000 in
set_option maxHeartbeats 0 in
theorem PySem.Challenge.cw_gateseasons_k28_whole_frames_by_lengths_holds : PySem.Challenge.rw_gateseasons_k28_whole_frames_by_lengths.Holds := by
  w_on; o_law; k_head; (case hw => w_witness2)
  k_fill
  refine LamX.walk_ofTs (n := 63) (k := 12) (x := "script") (CX := fun _ => L2.CX0) rfl (by decide) rfl ⟨rfl, by decide, by decide⟩ (fun w h Y => PySem.W.km_in_of Y) ?F (fun _ _ _ _ _ z => z)
  case F =>
    intro w mg fa h Y KX G hmg
    have hT := PySem.W.km_tabs_of Y
    refine' K28.all_mk KX G hmg ?zz_g0 ?zz_l0 ?zz_c0 ?zz_k0 ?zz_g1 ?zz_l1 ?zz_c1 ?zz_k1 ?zz_g2 ?zz_l2 ?zz_c2 ?zz_k2 ?zz_g3 ?zz_l3 ?zz_c3 ?zz_k3 ?zz_g4 ?zz_l4 ?zz_c4 ?zz_k4 ?zz_g5 ?zz_l5 ?zz_c5 ?zz_k5 ?zz_g6 ?zz_l6 ?zz_c6 ?zz_k6 ?zz_g7 ?zz_l7 ?zz_c7 ?zz_k7 ?zz_g8 ?zz_l8 ?zz_c8 ?zz_k8 ?zz_g9 ?zz_l9 ?zz_c9 ?zz_k9 ?zz_g10 ?zz_l10 ?zz_c10 ?zz_k10 ?zz_g11 ?zz_l11 ?zz_c11 ?zz_k11 ?zz_g12 ?zz_l12 ?zz_c12 ?zz_k12 ?zz_g13 ?zz_l13 ?zz_c13 ?zz_k13 ?zz_g14 ?zz_l14 ?zz_c14 ?zz_k14 ?zz_g15 ?zz_l15 ?zz_c15 ?zz_k15 ?zz_g16 ?zz_l16 ?zz_c16 ?zz_k16 ?zz_g17 ?zz_l17 ?zz_c17 ?zz_k17 ?zz_g18 ?zz_l18 ?zz_c18 ?zz_k18 ?zz_g19 ?zz_l19 ?zz_c19 ?zz_k19 ?zz_g20 ?zz_l20 ?zz_c20 ?zz_k20 ?zz_g21 ?zz_l21 ?zz_c21 ?zz_k21 ?zz_g22 ?zz_l22 ?zz_c22 ?zz_k22 ?zz_g23 ?zz_l23 ?zz_c23 ?zz_k23 ?zz_g24 ?zz_l24 ?zz_c24 ?zz_k24 ?zz_g25 ?zz_l25 ?zz_c25 ?zz_k25 ?zz_aC0 ?zz_xL0 ?zz_rv0 ?zz_sa0 ?zz_ga0 ?zz_gg0 ?zz_nb0 ?zz_i1_0 ?zz_t1_0 ?zz_l1_0 ?zz_c1_0 ?zz_kC0 ?zz_eC0 ?zz_tC0 ?zz_hC0 ?zz_iC0 ?zz_sC0 ?zz_z0 ?zz_z1 ?zz_z2 ?zz_z3 ?zz_z4 ?zz_z5 ?zz_z6 ?zz_n_abs ?zz_n_all ?zz_n_bool ?zz_n_divmod ?zz_n_enumerate ?zz_n_int ?zz_n_isinstance ?zz_n_len ?zz_n_list ?zz_n_max ?zz_n_range ?zz_n_str ?zz_n_sum ?zz_n_tuple ?zz_cdo ?zz_tno ?zz_tab
    (case zz_g0 => k_is)
    (case zz_l0 => k_is)
    (case zz_c0 => k_is)
    (case zz_k0 => k_is)
    (case zz_g1 => k_is)
    (case zz_l1 => k_is)
    (case zz_c1 => k_is)
    (case zz_k1 => k_is)
    (case zz_g2 => k_is)
    (case zz_l2 => k_is)
    (case zz_c2 => k_is)
    (case zz_k2 => k_is)
    (case zz_g3 => k_is)
    (case zz_l3 => k_is)
    (case zz_c3 => k_is)
    (case zz_k3 => k_is)
    (case zz_g4 => k_is)
    (case zz_l4 => k_is)
    (case zz_c4 => k_is)
    (case zz_k4 => k_is)
    (case zz_g5 => k_is)
    (case zz_l5 => k_is)
    (case zz_c5 => k_is)
    (case zz_k5 => k_is)
    (case zz_g6 => k_is)
    (case zz_l6 => k_is)
    (case zz_c6 => k_is)
    (case zz_k6 => k_is)
    (case zz_g7 => k_is)
    (case zz_l7 => k_is)
    (case zz_c7 => k_is)
    (case zz_k7 => k_is)
    (case zz_g8 => k_is)
    (case zz_l8 => k_is)
    (case zz_c8 => k_is)
    (case zz_k8 => k_is)
    (case zz_g9 => k_is)
    (case zz_l9 => k_is)
    (case zz_c9 => k_is)
    (case zz_k9 => k_is)
    (case zz_g10 => k_is)
    (case zz_l10 => k_is)
    (case zz_c10 => k_is)
    (case zz_k10 => k_is)
    (case zz_g11 => k_is)
    (case zz_l11 => k_is)
    (case zz_c11 => k_is)
    (case zz_k11 => k_is)
    (case zz_g12 => k_is)
    (case zz_l12 => k_is)
    (case zz_c12 => k_is)
    (case zz_k12 => k_is)
    (case zz_g13 => k_is)
    (case zz_l13 => k_is)
    (case zz_c13 => k_is)
    (case zz_k13 => k_is)
    (case zz_g14 => k_is)
    (case zz_l14 => k_is)
    (case zz_c14 => k_is)
    (case zz_k14 => k_is)
    (case zz_g15 => k_is)
    (case zz_l15 => k_is)
    (case zz_c15 => k_is)
    (case zz_k15 => k_is)
    (case zz_g16 => k_is)
    (case zz_l16 => k_is)
    (case zz_c16 => k_is)
    (case zz_k16 => k_is)
    (case zz_g17 => k_is)
    (case zz_l17 => k_is)
    (case zz_c17 => k_is)
    (case zz_k17 => k_is)
    (case zz_g18 => k_is)
    (case zz_l18 => k_is)
    (case zz_c18 => k_is)
    (case zz_k18 => k_is)
    (case zz_g19 => k_is)
    (case zz_l19 => k_is)
    (case zz_c19 => k_is)
    (case zz_k19 => k_is)
    (case zz_g20 => k_is)
    (case zz_l20 => k_is)
    (case zz_c20 => k_is)
    (case zz_k20 => k_is)
    (case zz_g21 => k_is)
    (case zz_l21 => k_is)
    (case zz_c21 => k_is)
    (case zz_k21 => k_is)
    (case zz_g22 => k_is)
    (case zz_l22 => k_is)
    (case zz_c22 => k_is)
    (case zz_k22 => k_is)
    (case zz_g23 => k_is)
    (case zz_l23 => k_is)
    (case zz_c23 => k_is)
    (case zz_k23 => k_is)
    (case zz_g24 => k_is)
    (case zz_l24 => k_is)
    (case zz_c24 => k_is)
    (case zz_k24 => k_is)
    (case zz_g25 => k_is)
    (case zz_l25 => k_is)
    (case zz_c25 => k_is)
    (case zz_k25 => k_is)
    (case zz_aC0 => k_is)
    (case zz_xL0 => k_is)
    (case zz_rv0 => first | rfl | decide +kernel)
    (case zz_sa0 => k_is)
    (case zz_ga0 => k_is)
    (case zz_gg0 => k_is)
    (case zz_nb0 => k_is)
    (case zz_i1_0 => k_is)
    (case zz_t1_0 => k_is)
    (case zz_l1_0 => k_is)
    (case zz_c1_0 => k_is)
    (case zz_kC0 => k_is)
    (case zz_eC0 => k_is)
    (case zz_tC0 => k_is)
    (case zz_hC0 => k_is)
    (case zz_iC0 => k_is)
    (case zz_sC0 => first | rfl | k_is)
    (case zz_z0 => k_is)
    (case zz_z1 => k_is)
    (case zz_z2 => k_is)
    (case zz_z3 => k_is)
    (case zz_z4 => k_is)
    (case zz_z5 => k_is)
    (case zz_z6 => k_is)
    (case zz_n_abs => k_is)
    (case zz_n_all => k_is)
    (case zz_n_bool => k_is)
    (case zz_n_divmod => k_is)
    (case zz_n_enumerate => k_is)
    (case zz_n_int => k_is)
    (case zz_n_isinstance => k_is)
    (case zz_n_len => k_is)
    (case zz_n_list => k_is)
    (case zz_n_max => k_is)
    (case zz_n_range => k_is)
    (case zz_n_str => k_is)
    (case zz_n_sum => k_is)
    (case zz_n_tuple => k_is)
    (case zz_cdo => exact ⟨_, _, _, _, _, _, _, _, _, by k_is, rfl, rfl, rfl, rfl, rfl, rfl, rfl, rfl, by decide⟩)
    (case zz_tno => first | rfl | decide +kernel)
    (case zz_tab => exact hT _ List.mem_cons_self)
#print axioms PySem.Challenge.cw_gateseasons_k28_whole_frames_by_lengths_holds
