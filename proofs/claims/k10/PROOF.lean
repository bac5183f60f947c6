import PyProof.Rows.All
import Wide.All
import OpenK.AllK
import Wide.FinOn
import HandS.ForMost
import HandS.ForExc
import HandS.Conv
import HandS.SortRule
import HandS.IsInst
import HandS.Evl
import HandS.SetFor
import HandS.SortInts
import HandS.Deep
import HandS.ExcIs
import PySem.Challenge.RW_pairlings_k10_told_by_number
set_option Elab.async false
set_option linter.all false
set_option maxRecDepth 100000
set_option maxHeartbeats 4000000
namespace Pg
open PySem L2
/-! ### a def that stands at a module's name and keeps its promise -/
structure Known (P : Program) (w : World) (K : PySem.W.Frag) (mg : Str → Option Value) (base : Heap) (CX : CXT) (k : Nat) (x : Str) (ps : List Str) (sp : Sp) : Prop where
  ex : ∃ (f : Addr) (fd : FuncData), mg x = some (.ref f) ∧ PySem.W.keepIn K (.ref f) = true ∧ Binds K fd ps [] ∧ FnOk P w K mg base CX k f fd ps sp
/-- what the top has left of a def: where it stands, its text, how it binds -/
structure Def (K : PySem.W.Frag) (mg : Str → Option Value) (x : Str) (ps : List Str) (st : Stmt) : Prop where
  ex : ∃ (f : Addr) (fd : FuncData), mg x = some (.ref f) ∧ Binds K fd ps [] ∧ Fun K x x st f fd
theorem Def.known {P : Program} {w : World} {K : PySem.W.Frag} {mg : Str → Option Value} {base : Heap} {CX : CXT} {k : Nat} {x : Str} {ps : List Str} {st : Stmt} {sp : Sp} (D : Def K mg x ps st)
    (h : ∀ f fd, Fun K x x st f fd → FnOk P w K mg base CX k f fd ps sp) : Known P w K mg base CX k x ps sp := by
  obtain ⟨f, fd, hm, hb, F⟩ := D.ex
  exact ⟨f, fd, hm, F.kp, hb, h f fd F⟩
/-- f(e, ..) -/
def tCl (sp : Sp) (E : XK) (t : TA) : TE := fun σ H Q => t σ H fun vs H1 => sp vs H1 Q E
theorem pe_kc {X : Cx} {CX : CXT} {k : Nat} {x : Str} {ps : List Str} {sp : Sp} {E : XK} {t : TA} {e : Expr} {es : List Expr} {p pos : Pos} (G : Known X.prog X.w X.K X.mg X.base CX k x ps sp) (hr : Room k X.A) (hg : Gl X x) (hx : Passes CX X E)
    (ha : PA X (e :: es) t) (hdb : (x == ("__debug__" : Str)) = false := by decide) (he : starEach (e :: es) X.env = (false, eval e X.env) :: starEach es X.env := by rfl) (hpl : (backTo pos (starEach es X.env)).any (·.1) = false := by rfl) :
    PE X (.Call (.Name x p) (e :: es) [] pos) (tCl sp E t) := by
  obtain ⟨f, fd, hm, hk, hb, F⟩ := G.ex
  have h : PE X (.Call (.Name x p) (e :: es) [] pos) (tCall sp [] E t) := pe_call (dvs := []) (ds := []) F hr hg hm hk hb Paired.nil hx ha hdb he hpl
  refine ⟨fun pins s σ H Q I q => h.run pins s σ H Q I ?_⟩
  have e : (fun (vs : List V) (H1 : Hp) => sp (vs ++ []) H1 Q E) = fun vs H1 => sp vs H1 Q E := funext fun vs => by rw [List.append_nil]
  show t σ H (fun (vs : List V) (H1 : Hp) => sp (vs ++ []) H1 Q E)
  rw [e]
  exact q
/-! ### heaps -/
theorem sm_new {H : Hp} {p : Addr} {o : HO} (h : H p = none) : Same H (upd H p o) := fun b x e => by
  rw [upd_ne (ne_of_none e h)]
  exact e
/-- an object that H does not know may change -/
theorem sm_mut {H H' : Hp} {p : Addr} {o : HO} (e : Same H H') (h : H p = none) : Same H (upd H' p o) := fun a u ha => by
  rw [upd_ne (ne_of_none ha h)]
  exact e a u ha
theorem sm_seqT {K : PySem.W.Frag} {H H' : Hp} {a : Addr} {xs : List V} (e : Same H H') (h : SqT K H a xs) : SqT K H' a xs := by
  rcases h with (h | ⟨o, h⟩) | h
  · exact .inl (.inl (e _ _ h))
  · exact .inl (.inr ⟨o, e _ _ h⟩)
  · exact .inr h
theorem cut_from (xs : List V) (i : Int) (h : 0 ≤ i) : cutV xs (some i) none = xs.drop i.toNat := by
  unfold cutV
  obtain ⟨n, rfl⟩ : ∃ n : Nat, i = (n : Int) := ⟨i.toNat, by omega⟩
  rw [show HT.sIx xs.length 0 (some (n : Int)) = min n xs.length from HT.sIx_nat xs.length 0 n, HT.sIx_none]
  have e : ((n : Int)).toNat = n := by omega
  rw [e]
  by_cases c : n ≤ xs.length
  · rw [Nat.min_eq_left c]
    exact List.take_of_length_le (by rw [List.length_drop]; exact Nat.le_refl _)
  · rw [Nat.min_eq_right (by omega), List.drop_of_length_le (show xs.length ≤ n by omega), List.drop_of_length_le (Nat.le_refl _), List.take_nil]
theorem cut_to (xs : List V) (i : Int) (h : 0 ≤ i) : cutV xs none (some i) = xs.take i.toNat := by
  unfold cutV
  obtain ⟨n, rfl⟩ : ∃ n : Nat, i = (n : Int) := ⟨i.toNat, by omega⟩
  rw [show HT.sIx xs.length xs.length (some (n : Int)) = min n xs.length from HT.sIx_nat xs.length xs.length n, HT.sIx_none]
  have e : ((n : Int)).toNat = n := by omega
  rw [e, List.drop_zero, Nat.sub_zero]
  by_cases c : n ≤ xs.length
  · rw [Nat.min_eq_left c]
  · rw [Nat.min_eq_right (by omega), List.take_of_length_le (Nat.le_refl _), List.take_of_length_le (by omega)]
theorem dint {i j : Int} : decide (V.int i = V.int j) = decide (i = j) := by
  rw [decide_eq_decide]
  exact ⟨fun e => V.int.inj e, fun e => by rw [e]⟩
theorem dstr {i j : Str} : decide (V.str i = V.str j) = decide (i = j) := by
  rw [decide_eq_decide]
  exact ⟨fun e => V.str.inj e, fun e => by rw [e]⟩
theorem filt_all {α : Type} (l : List α) : l.filter (fun _ => true) = l := List.filter_eq_self.mpr fun _ _ => rfl
theorem sz {n : Nat} (h : n ≤ 100000) : n ≤ sizeLine := Nat.le_trans h (by decide)
theorem szl {n : Nat} (h : n < 100000) : n < sizeLine := Nat.lt_of_lt_of_le h (by decide)
theorem ixn {n : Nat} {i : Int} {j : Nat} (e : i = (j : Int)) (hj : j < n) : ixN n i = some j := by
  rw [e]
  exact Evl.ixN_nat hj
/-! ### rules with the written part said -/
section
variable {X : Cx}
theorem ixL (K : PySem.W.Frag) (e : X.K = K := by rfl) : IxR X (rIxL K) := e ▸ ix_list
theorem ixT (K : PySem.W.Frag) (e : X.K = K := by rfl) : IxR X (rIxT K) := e ▸ ix_tup
theorem slL (K : PySem.W.Frag) (e : X.K = K := by rfl) : SlR X (rSlL K) := e ▸ sl_list
theorem slT (K : PySem.W.Frag) (e : X.K = K := by rfl) : SlR X (rSlT K) := e ▸ sl_tup
def rLen (K : PySem.W.Frag) : List V → Hp → VK → Prop := fun xs H Q => ∃ p ys, xs = [.ref p] ∧ (SqL K H p ys ∨ SqT K H p ys) ∧ Q (.int ys.length) H
theorem callLen (K : PySem.W.Frag) (e : X.K = K := by rfl) : CallR X (.builtin "len") (rLen K) := e ▸ call_len_seq
def rLstOf (K : PySem.W.Frag) : List V → Hp → VK → Prop := fun xs H Q => ∃ p ys, xs = [.ref p] ∧ (SqL K H p ys ∨ SqT K H p ys) ∧ ∀ l, H l = none → Q (.ref l) (upd H l (.lst ys))
theorem callLst (K : PySem.W.Frag) (e : X.K = K := by rfl) : CallR X (.type "list") (rLstOf K) := e ▸ call_list_of
def rTupOf (K : PySem.W.Frag) : List V → Hp → VK → Prop := fun xs H Q => ∃ p ys, xs = [.ref p] ∧ ((SqL K H p ys ∧ ∀ l, H l = none → Q (.ref l) (upd H l (.tup ys))) ∨ (SqT K H p ys ∧ Q (.ref p) H))
theorem callTup (K : PySem.W.Frag) (e : X.K = K := by rfl) : CallR X (.type "tuple") (rTupOf K) := e ▸ call_tuple_of
theorem eqD (K : PySem.W.Frag) (hu : X.A.units + 64 < cLine) (e : X.K = K := by rfl) : OpR X (compareOp .Eq) (rEqD K) := e ▸ op_eqD hu
theorem neD (K : PySem.W.Frag) (hu : X.A.units + 64 < cLine) (e : X.K = K := by rfl) : OpR X (compareOp .NotEq) (rNeD K) := e ▸ op_neD hu
theorem callIsi (K : PySem.W.Frag) (e : X.K = K := by rfl) : CallR X (.builtin "isinstance") (rIsi K) := e ▸ call_isi
theorem inSq (K : PySem.W.Frag) (e : X.K = K := by rfl) : OpR X (compareOp .In) (rIn K false) := e ▸ op_in_seq
theorem ninSq (K : PySem.W.Frag) (e : X.K = K := by rfl) : OpR X (compareOp .NotIn) (rIn K true) := e ▸ op_notIn_seq
theorem piL (K : PySem.W.Frag) {tg l : Expr} {tl : TE} (h : PE X l tl) (e : X.K = K := by rfl) : PI X tg l (iList K tl) := e ▸ pi_list h
theorem piT (K : PySem.W.Frag) {tg l : Expr} {tl : TE} (h : PE X l tl) (e : X.K = K := by rfl) : PI X tg l (iTup K tl) := e ▸ pi_tup h
theorem pgT (K : PySem.W.Frag) {es : List Expr} {k : Nat} {t : TGs} {n : Nat} {pos : Pos} (hc : X.calm = true) (h : PGs X es t)
    (hn : (assignEach es X.env).length = n := by rfl) (hst : (assignEach es X.env).findIdx? (·.1) = none := by rfl) (e : X.K = K := by rfl) : PG X (.Tuple es k pos) (gTup K n t) := e ▸ pg_tup hc h hn hst
theorem peM0 (K : PySem.W.Frag) {o : Expr} {to : TE} {name : Str} {apos cpos : Pos} {T id : String} {r : V → List V → Hp → VK → Prop} (pa : PlainAttrs T) (slot : Slot T name id) (hty : typeOf (.builtin id) = pure (.type "method_descriptor")) (hm : MtR X id r) (ho : PE X o to)
    (hbase : attributeBase o name X.env (eval o X.env) = eval o X.env := by rfl) (hline : (apos.endLine == cpos.line) = true := by rfl) (e : X.K = K := by rfl) : PE X (.Call (.Attribute o name apos) [] [] cpos) (tBM0 K T r to) := e ▸ pe_bm0 pa slot hty hm ho hbase hline
theorem peM (K : PySem.W.Frag) {o a : Expr} {es : List Expr} {to : TE} {t : TA} {name : Str} {apos cpos : Pos} {T id : String} {r : V → List V → Hp → VK → Prop} (pa : PlainAttrs T) (slot : Slot T name id) (hty : typeOf (.builtin id) = pure (.type "method_descriptor")) (hm : MtR X id r) (ho : PE X o to) (ha : PA X (a :: es) t)
    (hbase : attributeBase o name X.env (eval o X.env) = eval o X.env := by rfl)
    (hfew : ((backTo cpos (starEach (a :: es) X.env)).all (fun x => !x.1) && (backToKw cpos (keywordEach [] X.env)).all (fun x => x.1.isSome)
      && decide ((a :: es).length + ([] : List Keyword).length + (if ([] : List Keyword).isEmpty then 0 else 1) < 30)) = true := by rfl)
    (hline : (apos.endLine == cpos.line) = true := by rfl) (hs : starEach (a :: es) X.env = (false, eval a X.env) :: starEach es X.env := by rfl) (hplain : (backTo cpos (starEach es X.env)).any (·.1) = false := by rfl) (e : X.K = K := by rfl) :
    PE X (.Call (.Attribute o name apos) (a :: es) [] cpos) (tBM K T r to t) := e ▸ pe_bm pa slot hty hm ho ha hbase hfew hline hs hplain
theorem callSrtI (K : PySem.W.Frag) (e : X.K = K := by rfl) : CallR X (.builtin "sorted") (rSortedI K) := e ▸ cr_sortedI
theorem mtIndex (K : PySem.W.Frag) (e : X.K = K := by rfl) : MtR X "list.index" (rIndex K) := e ▸ mt_index
/-- a op b op c op d -/
def tChain3 (r1 r2 r3 : R2) (ta tb tc td : TE) : TE := fun σ H Q => ta σ H fun x H1 => tb σ H1 fun y H2 => r1 x y H2 fun z H3 => ∃ k, z = .bl k ∧
  (if k = true then tc σ H3 fun u H4 => r2 y u H4 fun z2 H5 => ∃ k2, z2 = .bl k2 ∧ (if k2 = true then td σ H5 fun v H6 => r3 u v H6 Q else Q (.bl false) H5) else Q (.bl false) H3)
theorem pe_chain3 {a b c d : Expr} {ta tb tc td : TE} {pos : Pos} {o1 o2 o3 : CmpOp} {r1 r2 r3 : R2} (h1 : OpR X (compareOp o1) r1) (h2 : OpR X (compareOp o2) r2) (h3 : OpR X (compareOp o3) r3) (ha : PE X a ta) (hb : PE X b tb) (hc : PE X c tc) (hd : PE X d td)
    (hm : lastMarks [o1, o2, o3] [b, c, d] = false := by with_unfolding_all rfl) : PE X (.Compare a [o1, o2, o3] [b, c, d] pos) (tChain3 r1 r2 r3 ta tb tc td) := by
  refine ⟨fun pins s σ H Q I h => ?_⟩
  refine PyProof.Rows.Compare_chain (thn (ha.run pins s σ H _ I h) fun v s1 ⟨x, H1, I1, q1r, q1⟩ => PyProof.Rows.chain_link (thn (hb.run pins s1 σ H1 _ I1 q1) fun u s2 ⟨y, H2, I2, q2r, q2⟩ =>
    thn (h1 pins s2 σ H2 x y v u _ I2 q1r q2r q2) fun e s3 ⟨z, H3, I3, q3r, k, ez, q3⟩ => ?_)) hm
  subst ez
  cases q3r
  refine wpAny_truthy_bool ?_
  cases k with
  | false => exact iteF ⟨.bl false, H3, I3, rfl, q3⟩
  | true =>
    refine iteT (PyProof.Rows.chain_link (thn (hc.run pins s3 σ H3 _ I3 q3) fun w s4 ⟨y2, H4, I4, q4r, q4⟩ => thn (h2 pins s4 σ H4 y y2 u w _ I4 q2r q4r q4) fun e2 s5 ⟨z2, H5, I5, q5r, k2, ez2, q5⟩ => ?_))
    subst ez2
    cases q5r
    refine wpAny_truthy_bool ?_
    cases k2 with
    | false => exact iteF ⟨.bl false, H5, I5, rfl, q5⟩
    | true => exact iteT (PyProof.Rows.chain_last (thn (hd.run pins s5 σ H5 _ I5 q5) fun w' s6 ⟨z', H6, I6, q6r, q6⟩ => h3 pins s6 σ H6 y2 z' w w' Q I6 q4r q6r q6))
end
section
variable {X : Cx}
theorem pe_gi {x : Str} {i : Int} {pos : Pos} (h : ∃ t, X.mg x = some (.int i t)) (hg : Gl X x := by rfl) (hd : (x == ("__debug__" : Str)) = false := by decide) : PE X (.Name x pos) (tC (.int i)) := by
  obtain ⟨t, e⟩ := h
  exact pe_glob hg e ⟨t, rfl⟩ hd
theorem pe_gs {x y : Str} {pos : Pos} (h : ∃ t, X.mg x = some (.str y t)) (hg : Gl X x := by rfl) (hd : (x == ("__debug__" : Str)) = false := by decide) : PE X (.Name x pos) (tC (.str y)) := by
  obtain ⟨t, e⟩ := h
  exact pe_glob hg e ⟨t, rfl⟩ hd
end
/-! ### a reading's outermost word, taken off -/
theorem sq {t u : TS} {D : Ends} {σ : St} {H : Hp} (h : t { D with nx := u D } σ H) : tSeq t u D σ H := h
theorem gn {i : Nat} {v : V} {σ : St} {H : Hp} {Q : St → Hp → Prop} (h : Q (σ.set i (some v)) H) : gName i v σ H Q := h
theorem asg {te : TE} {i : Nat} {D : Ends} {σ : St} {H : Hp} (h : te σ H fun x H1 => D.nx (σ.set i (some x)) H1) : tAsg te (gName i) D σ H := h
theorem nxt {D : Ends} {σ : St} {H : Hp} (h : D.nx σ H) : tNext D σ H := h
theorem ifs {c : TT} {t u : TS} {D : Ends} {σ : St} {H : Hp} (h : c σ H fun b H1 => if b = true then t D σ H1 else u D σ H1) : tIfS c t u D σ H := h
theorem tst {t : TE} {σ : St} {H : Hp} {Q : Bool → Hp → Prop} (h : t σ H fun x H' => ∃ k, x = .bl k ∧ Q k H') : tTest t σ H Q := h
theorem tbb {t : TE} {σ : St} {H : Hp} {Q : Bool → Hp → Prop} (h : t σ H fun x H' => ∃ k, x = .bl k ∧ Q k H') : tB t σ H Q := h
theorem cb {r : List V → Hp → VK → Prop} {t : TA} {σ : St} {H : Hp} {Q : VK} (h : t σ H fun vs H1 => r vs H1 Q) : tCB r t σ H Q := h
theorem cns {ta : TE} {tr : TA} {σ : St} {H : Hp} {Q : List V → Hp → Prop} (h : ta σ H fun x H1 => tr σ H1 fun xs H2 => Q (x :: xs) H2) : tCons ta tr σ H Q := h
theorem opp {r : R2} {ta tb : TE} {σ : St} {H : Hp} {Q : VK} (h : ta σ H fun x H1 => tb σ H1 fun y H2 => r x y H2 Q) : tOp r ta tb σ H Q := h
theorem cll {sp : Sp} {E : XK} {t : TA} {σ : St} {H : Hp} {Q : VK} (h : t σ H fun vs H1 => sp vs H1 Q E) : tCl sp E t σ H Q := h
theorem lstt {t : TA} {σ : St} {H : Hp} {Q : VK} (h : t σ H fun xs H1 => xs.length ≤ sizeLine ∧ ∀ p, H1 p = none → Q (.ref p) (upd H1 p (.lst xs))) : tLst t σ H Q := h
theorem tupp {t : TA} {σ : St} {H : Hp} {Q : VK} (h : t σ H fun xs H1 => xs.length ≤ sizeLine ∧ ∀ p, H1 p = none → Q (.ref p) (upd H1 p (.tup xs))) : tTup t σ H Q := h
theorem bmm {K : PySem.W.Frag} {T : String} {r : V → List V → Hp → VK → Prop} {to : TE} {t : TA} {σ : St} {H : Hp} {Q : VK} (h : to σ H fun x H1 => tyV K T x H1 ∧ t σ H1 fun xs H2 => r x xs H2 Q) : tBM K T r to t σ H Q := h
theorem retn {te : TE} {D : Ends} {σ : St} {H : Hp} (h : te σ H D.rt) : tRet te D σ H := h
/-! ### comprehensions whose tests and elements leave the heap as it is -/
section
variable {K : PySem.W.Frag} {σ : St} {H : Hp} {tl te : TE} {tt : TT} {j : Nat} {vs : List Nat} {a : Addr} {xs : List V} {Q : VK}
theorem filter_take {α : Type} {f : α → Bool} {xs : List α} {i : Nat} {x : α} (h : xs[i]? = some x) : (xs.take (i + 1)).filter f = (xs.take i).filter f ++ (if f x = true then [x] else []) := by
  rw [List.take_add_one, h, List.filter_append]
  congr 1
  cases e : f x <;> simp [e]
theorem lc_turn (f : V → Bool) (v : V → V) {H' : Hp} {D : Addr} {i : Nat} {x : V} {σ2 : St} (hD : H D = none) (hi : xs[i]? = some x) (hz : xs.length ≤ 40000) (e : H' = upd H D (.lst (((xs.take i).filter f).map v)))
    (ht : ∀ H1, Same H H1 → ∀ Q : Bool → Hp → Prop, Q (f x) H1 → tt σ2 H1 Q) (he : f x = true → ∀ H1, Same H H1 → ∀ Q : VK, Q (v x) H1 → te σ2 H1 Q) :
    tt σ2 H' fun b H3 => if b = true then te σ2 H3 fun y H4 => ∃ acc, H4 D = some (.lst acc) ∧ acc.length < sizeLine ∧ upd H4 D (.lst (acc ++ [y])) = upd H D (.lst (((xs.take (i + 1)).filter f).map v)) else H3 = upd H D (.lst (((xs.take (i + 1)).filter f).map v)) := by
  subst e
  refine ht _ (sm_new hD) _ ?_
  rw [filter_take hi]
  cases hf : f x with
  | true =>
    refine iteT (he hf _ (sm_new hD) _ ⟨_, upd_same, szl ?_, ?_⟩)
    · rw [List.length_map]
      have h1 := List.length_filter_le f (xs.take i)
      rw [List.length_take] at h1
      omega
    · rw [upd_upd, if_pos rfl, List.map_append]
      rfl
  | false =>
    refine iteF ?_
    rw [if_neg Bool.false_ne_true, List.append_nil]
theorem lcL (f : V → Bool) (v : V → V) (hl : ∀ Q : VK, Q (.ref a) H → tl σ H Q) (hx : SqL K H a xs) (hz : xs.length ≤ 40000) (hw : ∀ x, wipe ((wipe σ vs).set j (some x)) vs = wipe σ vs)
    (ht : ∀ x ∈ xs, ∀ H1, Same H H1 → ∀ Q : Bool → Hp → Prop, Q (f x) H1 → tt ((wipe σ vs).set j (some x)) H1 Q) (he : ∀ x ∈ xs, f x = true → ∀ H1, Same H H1 → ∀ Q : VK, Q (v x) H1 → te ((wipe σ vs).set j (some x)) H1 Q)
    (q : ∀ p, H p = none → Q (.ref p) (upd H p (.lst ((xs.filter f).map v)))) : tLc (iList K tl) (gName j) tt te vs σ H Q := by
  refine hl _ ⟨a, rfl, ⟨xs, hx⟩, fun D hD => lc_list (K := K) (a := a) (xs := xs) (fun i H' => H' = upd H D (.lst (((xs.take i).filter f).map v))) rfl (fun i H' _ e => ?_) (fun i x H' hi e => ⟨hw x, ?_⟩) (fun H' e => ?_)⟩
  · rw [e]
    exact (sm_new hD).seq hx
  · have hm := List.mem_of_getElem? hi
    exact lc_turn f v hD hi hz e (ht x hm) (he x hm)
  · rw [List.take_length] at e
    rw [e]
    exact q D hD
theorem lcT (f : V → Bool) (v : V → V) (hl : ∀ Q : VK, Q (.ref a) H → tl σ H Q) (hx : SqT K H a xs) (hz : xs.length ≤ 40000) (hw : ∀ x, wipe ((wipe σ vs).set j (some x)) vs = wipe σ vs)
    (ht : ∀ x ∈ xs, ∀ H1, Same H H1 → ∀ Q : Bool → Hp → Prop, Q (f x) H1 → tt ((wipe σ vs).set j (some x)) H1 Q) (he : ∀ x ∈ xs, f x = true → ∀ H1, Same H H1 → ∀ Q : VK, Q (v x) H1 → te ((wipe σ vs).set j (some x)) H1 Q)
    (q : ∀ p, H p = none → Q (.ref p) (upd H p (.lst ((xs.filter f).map v)))) : tLc (iTup K tl) (gName j) tt te vs σ H Q := by
  refine hl _ ⟨a, rfl, ⟨xs, hx⟩, fun D hD => lc_tup (K := K) (a := a) (xs := xs) (fun i H' => H' = upd H D (.lst (((xs.take i).filter f).map v))) rfl (fun i H' _ e => ?_) (fun i x H' hi e => ⟨hw x, ?_⟩) (fun H' e => ?_)⟩
  · rw [e]
    exact sm_seqT (sm_new hD) hx
  · have hm := List.mem_of_getElem? hi
    exact lc_turn f v hD hi hz e (ht x hm) (he x hm)
  · rw [List.take_length] at e
    rw [e]
    exact q D hD
/-- over a tuple, a list that was made on the way -/
theorem lcTN (f : V → Bool) (v : V → V) (hl : ∀ Q : VK, (∀ a H1, Same H H1 → SqT K H1 a xs → Q (.ref a) H1) → tl σ H Q) (hz : xs.length ≤ 40000) (hw : ∀ x, wipe ((wipe σ vs).set j (some x)) vs = wipe σ vs)
    (ht : ∀ x ∈ xs, ∀ H1, Same H H1 → ∀ Q : Bool → Hp → Prop, Q (f x) H1 → tt ((wipe σ vs).set j (some x)) H1 Q) (he : ∀ x ∈ xs, f x = true → ∀ H1, Same H H1 → ∀ Q : VK, Q (v x) H1 → te ((wipe σ vs).set j (some x)) H1 Q)
    (q : ∀ H1 p, Same H H1 → H1 p = none → Q (.ref p) (upd H1 p (.lst ((xs.filter f).map v)))) : tLc (iTup K tl) (gName j) tt te vs σ H Q := by
  refine hl _ fun a H1 s1 hx => ⟨a, rfl, ⟨xs, hx⟩, fun D hD => lc_tup (K := K) (a := a) (xs := xs) (fun i H' => H' = upd H1 D (.lst (((xs.take i).filter f).map v))) rfl (fun i H' _ e => ?_) (fun i x H' hi e => ⟨hw x, ?_⟩) (fun H' e => ?_)⟩
  · rw [e]
    exact sm_seqT (sm_new hD) hx
  · have hm := List.mem_of_getElem? hi
    exact lc_turn f v hD hi hz e (fun H2 s2 => ht x hm H2 (s1.trans s2)) (fun hf H2 s2 => he x hm hf H2 (s1.trans s2))
  · rw [List.take_length] at e
    rw [e]
    exact q H1 D s1 hD
theorem lcLN (f : V → Bool) (v : V → V) (hl : ∀ Q : VK, (∀ a H1, Same H H1 → SqL K H1 a xs → Q (.ref a) H1) → tl σ H Q) (hz : xs.length ≤ 40000) (hw : ∀ x, wipe ((wipe σ vs).set j (some x)) vs = wipe σ vs)
    (ht : ∀ x ∈ xs, ∀ H1, Same H H1 → ∀ Q : Bool → Hp → Prop, Q (f x) H1 → tt ((wipe σ vs).set j (some x)) H1 Q) (he : ∀ x ∈ xs, f x = true → ∀ H1, Same H H1 → ∀ Q : VK, Q (v x) H1 → te ((wipe σ vs).set j (some x)) H1 Q)
    (q : ∀ H1 p, Same H H1 → H1 p = none → Q (.ref p) (upd H1 p (.lst ((xs.filter f).map v)))) : tLc (iList K tl) (gName j) tt te vs σ H Q := by
  refine hl _ fun a H1 s1 hx => ⟨a, rfl, ⟨xs, hx⟩, fun D hD => lc_list (K := K) (a := a) (xs := xs) (fun i H' => H' = upd H1 D (.lst (((xs.take i).filter f).map v))) rfl (fun i H' _ e => ?_) (fun i x H' hi e => ⟨hw x, ?_⟩) (fun H' e => ?_)⟩
  · rw [e]
    exact (sm_new hD).seq hx
  · have hm := List.mem_of_getElem? hi
    exact lc_turn f v hD hi hz e (fun H2 s2 => ht x hm H2 (s1.trans s2)) (fun hf H2 s2 => he x hm hf H2 (s1.trans s2))
  · rw [List.take_length] at e
    rw [e]
    exact q H1 D s1 hD
/-- over range(n) -/
theorem lcR {ta : TA} {n : Int} (f : V → Bool) (v : V → V) (hl : ∀ Q : List V → Hp → Prop, Q [.int n] H → ta σ H Q) (hz : n ≤ 40000) (hw : ∀ x, wipe ((wipe σ vs).set j (some x)) vs = wipe σ vs)
    (ht : ∀ i : Nat, (i : Int) < n → ∀ H1, Same H H1 → ∀ Q : Bool → Hp → Prop, Q (f (.int (i : Int))) H1 → tt ((wipe σ vs).set j (some (.int (i : Int)))) H1 Q)
    (he : ∀ i : Nat, (i : Int) < n → f (.int (i : Int)) = true → ∀ H1, Same H H1 → ∀ Q : VK, Q (v (.int (i : Int))) H1 → te ((wipe σ vs).set j (some (.int (i : Int)))) H1 Q) (hn : -40000 ≤ n)
    (q : ∀ p, H p = none → Q (.ref p) (upd H p (.lst ((((List.range n.toNat).map fun i : Nat => V.int (i : Int)).filter f).map v)))) : tLc (iRng1 ta) (gName j) tt te vs σ H Q := by
  refine hl _ ⟨n, rfl, by omega, by omega, fun D hD => lc_range (lo := 0) (n := n.toNat) (fun i H' => H' = upd H D (.lst ((((((List.range n.toNat).map fun i : Nat => V.int (i : Int))).take i).filter f).map v))) rfl (fun i H' hi e => ?_) (fun H' e => ?_)⟩
  · have e0 : (0 : Int) + (i : Int) = (i : Int) := Int.zero_add _
    have hg : ((List.range n.toNat).map fun i : Nat => V.int (i : Int))[i]? = some (V.int (i : Int)) := by
      rw [List.getElem?_map, List.getElem?_range hi]
      rfl
    rw [e0]
    exact ⟨hw _, lc_turn f v hD hg (by rw [List.length_map, List.length_range]; omega) e (ht i (by omega)) (he i (by omega))⟩
  · rw [List.take_of_length_le (by rw [List.length_map, List.length_range]; exact Nat.le_refl _)] at e
    rw [e]
    exact q D hD
end
end Pg
/-! what a class of errors must say so that it is raised, caught and asked for -/
namespace Pg
open PySem PySem.Spec PyProof.Rows L2
theorem kit_own {K : PySem.W.Frag} {D X : Addr} {b : Bool} (h0 : PySem.W.subIn K (.ref D) (.ref D) = some true) (h1 : PySem.W.hasDictIn K X = true) (h2 : PySem.W.typeIn K (.ref X) = some (.type "type")) (h3 : PySem.W.subIn K (.ref D) (.ref X) = some b) :
    PySem.W.kitOne K (.ref D) (.ref X) = some b := by
  have hc : (PySem.W.clsIn K X).isSome = true := by
    obtain ⟨cd, hc, _⟩ := PySem.W.any_some h1
    rw [hc]
    rfl
  unfold PySem.W.kitOne
  by_cases e : D = X
  · subst e
    rw [h0] at h3
    rw [if_pos (by simp)]
    exact h3
  · have ne : ¬ (Value.ref D == Value.ref X) = true := fun z => e (Value.ref.inj (beq_iff_eq.mp z))
    rw [if_neg ne]
    show (if ((PySem.W.clsIn K X).isSome && PySem.W.typeIn K (.ref X) == some (.type "type")) = true then PySem.W.subIn K (.ref D) (.ref X) else none) = some b
    have e2 : ((PySem.W.clsIn K X).isSome && PySem.W.typeIn K (.ref X) == some (.type "type")) = true := by rw [hc, h2] <;> rfl
    rw [if_pos e2]
    exact h3
theorem kit_ve {K : PySem.W.Frag} {D : Addr} (h : PySem.W.subIn K (.ref D) (.type "ValueError") = some true) : PySem.W.kitOne K (.ref D) (.type "ValueError") = some true := by
  unfold PySem.W.kitOne
  rw [if_neg (by simp)]
  show (if PySem.W.kitMeta "ValueError" = true then PySem.W.subIn K (.ref D) (.type "ValueError") else none) = some true
  rw [if_pos (by decide +kernel)]
  exact h
/-- isinstance(e, C) in the suite, e the error that it holds -/
def rIsE2 (K : PySem.W.Frag) (D a : Addr) (cls : Value) (d : Option Addr) : List V → Hp → VK → Prop := fun xs H Q => cls = .ref D ∧ d = none ∧ rIsE K D a xs H Q
theorem call_isE2 (K : PySem.W.Frag) {X : Cx} {a D : Addr} {oe : Obj} {pn : List (Addr × Obj)} {cls : Value} {d : Option Addr} (C : ExcC K D) (hz : Zc cls d oe) (hf : ∃ vs, oe.data = .fields vs) (e : X.K = K := by rfl) :
    CallR (X.suite a ((a, oe) :: pn)) (.builtin "isinstance") (rIsE2 K D a cls d) := by
  subst e
  intro pins s σ H xs us Q I r h
  obtain ⟨rfl, rfl, h⟩ := h
  exact call_isE C hz hf pins s σ H xs us Q I r h
/-- f(e, ..) in a try: what is raised is wished for at the caller's slots -/
theorem pe_kcS {X : Cx} {CX : CXT} {k : Nat} {x : Str} {ps : List Str} {sp : Sp} {E : L2.St → XK} {t : TA} {e : Expr} {es : List Expr} {p pos : Pos} (G : Known X.prog X.w X.K X.mg X.base CX k x ps sp) (hr : Room k X.A) (hg : Gl X x) (hx : ∀ σ, PassesAt CX X σ (E σ))
    (ha : PA X (e :: es) t) (hdb : (x == ("__debug__" : Str)) = false := by decide) (he : starEach (e :: es) X.env = (false, eval e X.env) :: starEach es X.env := by rfl) (hpl : (backTo pos (starEach es X.env)).any (·.1) = false := by rfl) :
    PE X (.Call (.Name x p) (e :: es) [] pos) (tCallS sp E t) := by
  obtain ⟨f, fd, hm, hk, hb, F⟩ := G.ex
  exact pe_callS F hr hg hm hk hb hx ha hdb he hpl
end Pg
namespace Pg
open PySem L2
/-! ### lists of pairs of ints, sorted -/
abbrev Pr := Int × Int
def insP (x : Pr) : List Pr → List Pr
  | [] => [x]
  | y :: r => if SrtO.lexB y x = true then y :: insP x r else x :: y :: r
def sortP : List Pr → List Pr
  | [] => []
  | x :: r => insP x (sortP r)
abbrev SrP (l : List Pr) : Prop := l.Pairwise fun x y => SrtO.lexB y x = false
theorem insP_perm (x : Pr) : ∀ l, (insP x l).Perm (x :: l)
  | [] => List.Perm.refl _
  | y :: r => by
    unfold insP
    split
    · exact ((insP_perm x r).cons y).trans (List.Perm.swap x y r)
    · exact List.Perm.refl _
theorem sortP_perm : ∀ l, (sortP l).Perm l
  | [] => List.Perm.refl _
  | x :: r => (insP_perm x (sortP r)).trans ((sortP_perm r).cons x)
theorem insP_sorted (x : Pr) : ∀ l, SrP l → SrP (insP x l)
  | [], _ => List.pairwise_singleton _ _
  | y :: r, h => by
    obtain ⟨h1, h2⟩ := List.pairwise_cons.mp h
    unfold insP
    split
    · rename_i c
      refine List.pairwise_cons.mpr ⟨fun z hz => ?_, insP_sorted x r h2⟩
      rcases List.mem_cons.mp ((insP_perm x r).mem_iff.mp hz) with e | m
      · subst e
        have c1 := SrtO.lexB_iff.mp c
        exact SrtO.lexB_no.mpr (by omega)
      · exact h1 z m
    · rename_i c
      have c' : SrtO.lexB y x = false := by
        cases e : SrtO.lexB y x with
        | true => exact absurd e c
        | false => rfl
      refine List.pairwise_cons.mpr ⟨fun z hz => ?_, h⟩
      rcases List.mem_cons.mp hz with e | m
      · subst e
        exact c'
      · have a := SrtO.lexB_no.mp c'
        have b := SrtO.lexB_no.mp (h1 z m)
        exact SrtO.lexB_no.mpr (by omega)
theorem sortP_sorted : ∀ l, SrP (sortP l)
  | [] => List.Pairwise.nil
  | x :: r => insP_sorted x _ (sortP_sorted r)
theorem srp_uniq {l m : List Pr} (h1 : SrP l) (h2 : SrP m) (p : l.Perm m) : l = m := by
  refine List.Perm.eq_of_pairwise (le := fun x y => SrtO.lexB y x = false) (fun a b _ _ q r => ?_) h1 h2 p
  have q := SrtO.lexB_no.mp q
  have r := SrtO.lexB_no.mp r
  exact Prod.ext (by omega) (by omega)
theorem sortP_of {l m : List Pr} (h1 : SrP l) (p : l.Perm m) : l = sortP m := srp_uniq h1 (sortP_sorted m) (p.trans (sortP_perm m).symm)
theorem sortP_id {l : List Pr} (h : SrP l) : sortP l = l := (sortP_of h (List.Perm.refl _)).symm
theorem sortP_len (l : List Pr) : (sortP l).length = l.length := (sortP_perm l).length_eq
theorem sortP_congr {l m : List Pr} (p : l.Perm m) : sortP l = sortP m := sortP_of (sortP_sorted l) ((sortP_perm l).trans p)
/-! ### pairs in the heap -/
def PairAt (H : Hp) (v : V) (p : Pr) : Prop := ∃ t, v = .ref t ∧ H t = some (.tup [.int p.1, .int p.2])
abbrev PairsAt (H : Hp) : List V → List Pr → Prop := Paired (PairAt H)
theorem PairAt.mono {H H' : Hp} {v : V} {p : Pr} (e : Same H H') (h : PairAt H v p) : PairAt H' v p := by
  obtain ⟨t, rfl, ht⟩ := h
  exact ⟨t, rfl, e _ _ ht⟩
theorem PairsAt.mono {H H' : Hp} (e : Same H H') : ∀ {xs : List V} {ps : List Pr}, PairsAt H xs ps → PairsAt H' xs ps
  | _, _, .nil => .nil
  | _, _, .cons a b => .cons (a.mono e) (PairsAt.mono e b)
theorem PairAt.inj {H : Hp} {v : V} {p q : Pr} (h : PairAt H v p) (h' : PairAt H v q) : p = q := by
  obtain ⟨t, rfl, ht⟩ := h
  obtain ⟨t', e, ht'⟩ := h'
  cases e
  rw [ht] at ht'
  have z := HO.tup.inj (Option.some.inj ht')
  have z1 := V.int.inj (List.cons.inj z).1
  have z2 := V.int.inj (List.cons.inj (List.cons.inj z).2).1
  exact Prod.ext z1 z2
theorem paired_length {α β : Type} {F : α → β → Prop} : ∀ {xs : List α} {ys : List β}, Paired F xs ys → xs.length = ys.length
  | _, _, .nil => rfl
  | _, _, .cons _ t => by
    rw [List.length_cons, List.length_cons, paired_length t]
theorem paired_get {α β : Type} {F : α → β → Prop} : ∀ {xs : List α} {ys : List β} {i : Nat} {y : β}, Paired F xs ys → ys[i]? = some y → ∃ x, xs[i]? = some x ∧ F x y
  | _, _, _, _, .nil, e => by simp at e
  | _, _, 0, _, .cons r _, e => ⟨_, rfl, by rw [← Option.some.inj e]; exact r⟩
  | _, _, i + 1, y, .cons _ t, e => paired_get (i := i) t e
theorem paired_get' {α β : Type} {F : α → β → Prop} : ∀ {xs : List α} {ys : List β} {i : Nat} {x : α}, Paired F xs ys → xs[i]? = some x → ∃ y, ys[i]? = some y ∧ F x y
  | _, _, _, _, .nil, e => by simp at e
  | _, _, 0, _, .cons r _, e => ⟨_, rfl, by rw [← Option.some.inj e]; exact r⟩
  | _, _, i + 1, y, .cons _ t, e => paired_get' (i := i) t e
theorem paired_append {α β : Type} {F : α → β → Prop} : ∀ {xs xs' : List α} {ys ys' : List β}, Paired F xs ys → Paired F xs' ys' → Paired F (xs ++ xs') (ys ++ ys')
  | _, _, _, _, .nil, h => h
  | _, _, _, _, .cons r t, h => .cons r (paired_append t h)
theorem paired_drop {α β : Type} {F : α → β → Prop} : ∀ {xs : List α} {ys : List β} (n : Nat), Paired F xs ys → Paired F (xs.drop n) (ys.drop n)
  | _, _, 0, h => h
  | _, _, _ + 1, .nil => .nil
  | _, _, n + 1, .cons _ t => paired_drop n t
theorem paired_take {α β : Type} {F : α → β → Prop} : ∀ {xs : List α} {ys : List β} (n : Nat), Paired F xs ys → Paired F (xs.take n) (ys.take n)
  | _, _, 0, h => .nil
  | _, _, _ + 1, .nil => .nil
  | _, _, n + 1, .cons r t => .cons r (paired_take n t)
theorem paired_mem {α β : Type} {F : α → β → Prop} : ∀ {xs : List α} {ys : List β} {x : α}, Paired F xs ys → x ∈ xs → ∃ y ∈ ys, F x y
  | _, _, _, .nil, m => absurd m List.not_mem_nil
  | _, _, x, .cons r t, m => by
    rcases List.mem_cons.mp m with e | m
    · subst e
      exact ⟨_, List.mem_cons_self, r⟩
    · obtain ⟨y, hy, q⟩ := paired_mem t m
      exact ⟨y, List.mem_cons_of_mem _ hy, q⟩
/-- the pair that stands at a value -/
def prOf (H : Hp) : V → Pr
  | .ref t => match H t with
    | some (.tup [.int a, .int b]) => (a, b)
    | _ => (0, 0)
  | _ => (0, 0)
theorem PairAt.of {H : Hp} {v : V} {p : Pr} (h : PairAt H v p) : prOf H v = p := by
  obtain ⟨t, rfl, ht⟩ := h
  unfold prOf
  simp only [ht]
theorem PairsAt.map {H : Hp} : ∀ {xs : List V} {ps : List Pr}, PairsAt H xs ps → ps = xs.map (prOf H)
  | _, _, .nil => rfl
  | _, _, .cons a b => by rw [List.map_cons, a.of, ← PairsAt.map b]
theorem PairsAt.all {H : Hp} {xs : List V} {ps : List Pr} (h : PairsAt H xs ps) : ∀ x ∈ xs, PairAt H x (prOf H x) := fun x m => by
  obtain ⟨p, _, q⟩ := paired_mem h m
  rw [q.of]
  exact q
theorem pairsAt_of {H : Hp} : ∀ {xs : List V}, (∀ x ∈ xs, PairAt H x (prOf H x)) → PairsAt H xs (xs.map (prOf H))
  | [], _ => .nil
  | x :: r, h => .cons (h x List.mem_cons_self) (pairsAt_of fun y m => h y (List.mem_cons_of_mem _ m))
/-- sorted of a list of pairs -/
def rSortedPP (K : PySem.W.Frag) : List V → Hp → VK → Prop := fun vs H Q => ∃ (a : Addr) (xs : List V) (ps : List Pr), vs = [V.ref a] ∧ SqL K H a xs ∧ PairsAt H xs ps ∧
  ∀ (ys : List V) (p : Addr), PairsAt H ys (sortP ps) → ys.Perm xs → H p = none → Q (.ref p) (upd H p (.lst ys))
theorem sorted_pairs {H : Hp} {xs ys : List V} {ps : List Pr} (h : PairsAt H xs ps) (h1 : SrtO.Srtd (ltP (prOf H)) ys) (h2 : ys.Perm xs) : PairsAt H ys (sortP ps) := by
  have e : ys.map (prOf H) = sortP ps := sortP_of (SrtO.srtd_map h1) (by rw [h.map]; exact h2.map _)
  rw [← e]
  exact pairsAt_of fun x m => h.all x (h2.mem_iff.mp m)
theorem cr_sortedPP {X : Cx} (K : PySem.W.Frag) (e : X.K = K := by rfl) : CallR X (.builtin "sorted") (rSortedPP K) := by
  subst e
  intro pins s σ H vs us Q I r h
  obtain ⟨a, xs, ps, rfl, hs, hp, q⟩ := h
  refine cr_sortedPO pins s σ H _ us Q I r ⟨a, xs, prOf H, rfl, hs, fun x m => ?_, fun ys p h1 h2 hn => ?_⟩
  · obtain ⟨t, e, ht⟩ := hp.all x m
    exact ⟨t, e, ht⟩
  · exact q ys p (sorted_pairs hp h1 h2.perm) h2.perm hn
/-! ### a pairing in the heap -/
def PairingAt (H : Hp) (v : V) (n : Int) (ps : List Pr) : Prop := ∃ (p q : Addr) (xs : List V), v = .ref p ∧ H p = some (.tup [.int n, .ref q]) ∧ H q = some (.tup xs) ∧ PairsAt H xs ps
theorem PairingAt.mono {H H' : Hp} {v : V} {n : Int} {ps : List Pr} (e : Same H H') (h : PairingAt H v n ps) : PairingAt H' v n ps := by
  obtain ⟨p, q, xs, rfl, h1, h2, h3⟩ := h
  exact ⟨p, q, xs, rfl, e _ _ h1, e _ _ h2, h3.mono e⟩
/-- a list that is changed leaves the pairs -/
theorem upd_pair {H : Hp} {a : Addr} {ys zs : List V} {v : V} {p : Pr} (h : H a = some (.lst ys)) (hp : PairAt H v p) : PairAt (upd H a (.lst zs)) v p := by
  obtain ⟨t, rfl, ht⟩ := hp
  refine ⟨t, rfl, ?_⟩
  rw [upd_ne (ne_of ht h (by intro z; cases z))]
  exact ht
theorem upd_pairs {H : Hp} {a : Addr} {o u : HO} {xs : List V} {ps : List Pr} (h : H a = some o) (hp : PairsAt H xs ps) (ho : (∃ ys, o = .lst ys) := by exact ⟨_, rfl⟩) : PairsAt (upd H a u) xs ps := by
  obtain ⟨ys, rfl⟩ := ho
  induction hp with
  | nil => exact .nil
  | cons a b ih =>
    refine .cons ?_ ih
    obtain ⟨t, e, ht⟩ := a
    refine ⟨t, e, ?_⟩
    rw [upd_ne (ne_of ht h (by intro z; cases z))]
    exact ht
/-! ### as data -/
def prD (p : Pr) : PyData := .tuple [.int p.1, .int p.2]
def prsD (ps : List Pr) : PyData := .tuple (ps.map prD)
def pgD (n : Int) (ps : List Pr) : PyData := .tuple [.int n, prsD ps]
theorem PairAt.dp {K : PySem.W.Frag} {H : Hp} {v : V} {p : Pr} (h : PairAt H v p) : Dp K H v (prD p) := by
  obtain ⟨t, rfl, ht⟩ := h
  exact .tup (SqT.of ht) (.cons (.int _) (.cons (.int _) .nil))
theorem PairsAt.dp {K : PySem.W.Frag} {H : Hp} : ∀ {xs : List V} {ps : List Pr}, PairsAt H xs ps → DpAll K H xs (ps.map prD)
  | _, _, .nil => .nil
  | _, _, .cons a b => .cons a.dp (PairsAt.dp b)
theorem PairingAt.dp {K : PySem.W.Frag} {H : Hp} {v : V} {n : Int} {ps : List Pr} (h : PairingAt H v n ps) : Dp K H v (pgD n ps) := by
  obtain ⟨p, q, xs, rfl, h1, h2, h3⟩ := h
  exact .tup (SqT.of h1) (.cons (.int _) (.cons (.tup (SqT.of h2) h3.dp) .nil))
end Pg
namespace Pg
open PySem L2
/-! ### walks -/
inductive Stp where
  | lone | opn | num (k : Nat)
  deriving DecidableEq
def Stp.v : Stp → V
  | .lone => .str "lone"
  | .opn => .str "open"
  | .num k => .int (k : Int)
/-- the pairs that are open behind the steps, where they are the steps of a walk -/
def run : Nat → List Stp → Option Nat
  | h, [] => some h
  | h, .lone :: r => run h r
  | h, .opn :: r => run (h + 1) r
  | h, .num k :: r => if k < h then run (h - 1) r else none
theorem run_append : ∀ (h : Nat) (a b : List Stp), run h (a ++ b) = (run h a).bind fun h' => run h' b
  | h, [], b => rfl
  | h, .lone :: r, b => run_append h r b
  | h, .opn :: r, b => run_append (h + 1) r b
  | h, .num k :: r, b => by
    show (if k < h then run (h - 1) (r ++ b) else none) = (if k < h then run (h - 1) r else none).bind fun h' => run h' b
    by_cases c : k < h
    · rw [if_pos c, if_pos c]
      exact run_append (h - 1) r b
    · rw [if_neg c, if_neg c]
      rfl
theorem run_lone {ws : List Stp} {h : Nat} (r : run 0 ws = some h) : run 0 (ws ++ [.lone]) = some h := by
  rw [run_append, r]
  rfl
theorem run_opn {ws : List Stp} {h : Nat} (r : run 0 ws = some h) : run 0 (ws ++ [.opn]) = some (h + 1) := by
  rw [run_append, r]
  rfl
theorem run_num {ws : List Stp} {h k : Nat} (r : run 0 ws = some h) (hk : k < h) : run 0 (ws ++ [.num k]) = some (h - 1) := by
  rw [run_append, r]
  show (if k < h then run (h - 1) [] else none) = _
  rw [if_pos hk]
  rfl
theorem run_le : ∀ (ws : List Stp) {h h' : Nat}, run h ws = some h' → h' ≤ h + ws.length
  | [], h, h', r => by
    have e : h = h' := Option.some.inj r
    simp [e]
  | .lone :: r, h, h', e => by
    have := run_le r (h := h) e
    simp only [List.length_cons]
    omega
  | .opn :: r, h, h', e => by
    have := run_le r (h := h + 1) e
    simp only [List.length_cons]
    omega
  | .num k :: r, h, h', e => by
    have e2 : (if k < h then run (h - 1) r else none) = some h' := e
    by_cases c : k < h
    · rw [if_pos c] at e2
      have := run_le r (h := h - 1) e2
      simp only [List.length_cons]
      omega
    · rw [if_neg c] at e2
      cases e2
/-- the pairs of a walk, in the order of their ends: p the point, os the open ones -/
def clo : Int → List Int → List Stp → List (Int × Int)
  | _, _, [] => []
  | p, os, .lone :: r => clo (p + 1) os r
  | p, os, .opn :: r => clo (p + 1) (os ++ [p]) r
  | p, os, .num k :: r => (os.getD k 0, p) :: clo (p + 1) (os.eraseIdx k) r
/-- the open ones behind the steps -/
def opens : Int → List Int → List Stp → List Int
  | _, os, [] => os
  | p, os, .lone :: r => opens (p + 1) os r
  | p, os, .opn :: r => opens (p + 1) (os ++ [p]) r
  | p, os, .num k :: r => opens (p + 1) (os.eraseIdx k) r
theorem clo_append : ∀ (p : Int) (os : List Int) (a b : List Stp), clo p os (a ++ b) = clo p os a ++ clo (p + a.length) (opens p os a) b
  | p, os, [], b => by simp [clo, opens]
  | p, os, .lone :: r, b => by
    show clo (p + 1) os (r ++ b) = clo (p + 1) os r ++ clo (p + ((.lone :: r : List Stp).length : Nat)) (opens (p + 1) os r) b
    rw [clo_append (p + 1) os r b, List.length_cons]
    congr 2
    omega
  | p, os, .opn :: r, b => by
    show clo (p + 1) (os ++ [p]) (r ++ b) = clo (p + 1) (os ++ [p]) r ++ clo (p + ((.opn :: r : List Stp).length : Nat)) (opens (p + 1) (os ++ [p]) r) b
    rw [clo_append (p + 1) _ r b, List.length_cons]
    congr 2
    omega
  | p, os, .num k :: r, b => by
    show _ :: clo (p + 1) (os.eraseIdx k) (r ++ b) = (_ :: clo (p + 1) (os.eraseIdx k) r) ++ clo (p + ((.num k :: r : List Stp).length : Nat)) (opens (p + 1) (os.eraseIdx k) r) b
    rw [clo_append (p + 1) _ r b, List.length_cons, List.cons_append]
    congr 3
    omega
theorem opens_append : ∀ (p : Int) (os : List Int) (a b : List Stp), opens p os (a ++ b) = opens (p + a.length) (opens p os a) b
  | p, os, [], b => by simp [opens]
  | p, os, .lone :: r, b => by
    show opens (p + 1) os (r ++ b) = opens (p + ((.lone :: r : List Stp).length : Nat)) (opens (p + 1) os r) b
    rw [opens_append (p + 1) os r b, List.length_cons]
    congr 1
    omega
  | p, os, .opn :: r, b => by
    show opens (p + 1) (os ++ [p]) (r ++ b) = opens (p + ((.opn :: r : List Stp).length : Nat)) (opens (p + 1) (os ++ [p]) r) b
    rw [opens_append (p + 1) _ r b, List.length_cons]
    congr 1
    omega
  | p, os, .num k :: r, b => by
    show opens (p + 1) (os.eraseIdx k) (r ++ b) = opens (p + ((.num k :: r : List Stp).length : Nat)) (opens (p + 1) (os.eraseIdx k) r) b
    rw [opens_append (p + 1) _ r b, List.length_cons]
    congr 1
    omega
/-- as many are open as run tells -/
theorem opens_len : ∀ (ws : List Stp) (p : Int) (os : List Int) {h : Nat}, run os.length ws = some h → (opens p os ws).length = h
  | [], p, os, h, e => Option.some.inj e
  | .lone :: r, p, os, h, e => opens_len r (p + 1) os e
  | .opn :: r, p, os, h, e => opens_len r (p + 1) (os ++ [p]) (by rw [List.length_append]; exact e)
  | .num k :: r, p, os, h, e => by
    have e2 : (if k < os.length then run (os.length - 1) r else none) = some h := e
    by_cases c : k < os.length
    · rw [if_pos c] at e2
      exact opens_len r (p + 1) (os.eraseIdx k) (by rw [List.length_eraseIdx, if_pos c]; exact e2)
    · rw [if_neg c] at e2
      cases e2
/-- rising, all below p -/
def Asc (p : Int) (os : List Int) : Prop := os.Pairwise (· < ·) ∧ ∀ o ∈ os, o < p
theorem Asc.lone {p : Int} {os : List Int} (h : Asc p os) : Asc (p + 1) os := ⟨h.1, fun o m => by have := h.2 o m; omega⟩
theorem Asc.opn {p : Int} {os : List Int} (h : Asc p os) : Asc (p + 1) (os ++ [p]) := by
  refine ⟨List.pairwise_append.mpr ⟨h.1, List.pairwise_singleton _ _, fun a ha b hb => ?_⟩, fun o m => ?_⟩
  · rw [List.mem_singleton.mp hb]
    exact h.2 a ha
  · rcases List.mem_append.mp m with m | m
    · have := h.2 o m
      omega
    · rw [List.mem_singleton.mp m]
      omega
theorem Asc.num {p : Int} {os : List Int} (h : Asc p os) (k : Nat) : Asc (p + 1) (os.eraseIdx k) :=
  ⟨h.1.sublist (List.eraseIdx_sublist os k), fun o m => by have := h.2 o (List.mem_of_mem_eraseIdx m); omega⟩
theorem asc_nil (p : Int) : Asc p [] := ⟨List.Pairwise.nil, fun _ m => absurd m List.not_mem_nil⟩
theorem opens_asc : ∀ (ws : List Stp) (p : Int) (os : List Int), Asc p os → Asc (p + ws.length) (opens p os ws)
  | [], p, os, h => by simpa [opens] using h
  | .lone :: r, p, os, h => by
    have q := opens_asc r (p + 1) os h.lone
    rw [List.length_cons]
    show Asc _ (opens (p + 1) os r)
    have e : p + ((r.length + 1 : Nat) : Int) = p + 1 + (r.length : Int) := by omega
    rw [e]
    exact q
  | .opn :: r, p, os, h => by
    have q := opens_asc r (p + 1) _ h.opn
    rw [List.length_cons]
    show Asc _ (opens (p + 1) (os ++ [p]) r)
    have e : p + ((r.length + 1 : Nat) : Int) = p + 1 + (r.length : Int) := by omega
    rw [e]
    exact q
  | .num k :: r, p, os, h => by
    have q := opens_asc r (p + 1) _ (h.num k)
    rw [List.length_cons]
    show Asc _ (opens (p + 1) (os.eraseIdx k) r)
    have e : p + ((r.length + 1 : Nat) : Int) = p + 1 + (r.length : Int) := by omega
    rw [e]
    exact q
theorem Asc.nodup {p : Int} {os : List Int} (h : Asc p os) : os.Nodup := h.1.imp fun {a b} q e => by omega
/-- all but the one at k: of a list without doubles -/
theorem filter_ne_eraseIdx : ∀ (os : List Int) (k : Nat), os.Nodup → k < os.length → os.filter (fun o => !decide (o = os.getD k 0)) = os.eraseIdx k
  | [], k, _, h => absurd h (Nat.not_lt_zero _)
  | o :: r, 0, nd, _ => by
    obtain ⟨h1, h2⟩ := List.nodup_cons.mp nd
    show (o :: r).filter (fun x => !decide (x = o)) = r
    rw [List.filter_cons, if_neg (by simp)]
    exact List.filter_eq_self.mpr fun x hx => by
      have : x ≠ o := fun e => h1 (e ▸ hx)
      simp [this]
  | o :: r, k + 1, nd, hk => by
    obtain ⟨h1, h2⟩ := List.nodup_cons.mp nd
    have hk' : k < r.length := by simpa using hk
    have e : (o :: r).getD (k + 1) 0 = r.getD k 0 := by simp [List.getD_eq_getElem?_getD]
    rw [e, List.eraseIdx_cons_succ, List.filter_cons]
    have hm : r.getD k 0 ∈ r := by
      rw [List.getD_eq_getElem?_getD, List.getElem?_eq_getElem hk']
      exact List.getElem_mem hk'
    have ne : o ≠ r.getD k 0 := fun z => h1 (z ▸ hm)
    rw [if_pos (by rw [decide_eq_false ne]; rfl), filter_ne_eraseIdx r k h2 hk']
/-- ahead of the i-th step of a walk -/
theorem run_take {ws : List Stp} {h i : Nat} {st : Stp} (r : run 0 ws = some h) (hi : ws[i]? = some st) : ∃ hi, run 0 (ws.take i) = some hi ∧ ∀ k, st = .num k → k < hi := by
  have e : ws = ws.take i ++ ws.drop i := (List.take_append_drop i ws).symm
  have hl := (List.getElem?_eq_some_iff.mp hi).1
  have ed : ws.drop i = st :: ws.drop (i + 1) := by
    rw [List.drop_eq_getElem_cons hl, (List.getElem?_eq_some_iff.mp hi).2]
  rw [e, run_append, ed] at r
  cases c : run 0 (ws.take i) with
  | none =>
    rw [c] at r
    cases r
  | some h' =>
    refine ⟨h', rfl, fun k z => ?_⟩
    subst z
    rw [c] at r
    have r2 : (if k < h' then run (h' - 1) (ws.drop (i + 1)) else none) = some h := r
    by_cases q : k < h'
    · exact q
    · rw [if_neg q] at r2
      cases r2
theorem take_succ {α : Type} {ws : List α} {i : Nat} {st : α} (hi : ws[i]? = some st) : ws.take (i + 1) = ws.take i ++ [st] := by
  rw [List.take_add_one, hi]
  rfl
theorem take_len {α : Type} {ws : List α} {i : Nat} {st : α} (hi : ws[i]? = some st) : (ws.take i).length = i := by
  rw [List.length_take]
  have := (List.getElem?_eq_some_iff.mp hi).1
  omega
/-- the open ones and the pairs behind i steps -/
abbrev osAt (ws : List Stp) (i : Nat) : List Int := opens 0 [] (ws.take i)
abbrev prAt (ws : List Stp) (i : Nat) : List Pr := clo 0 [] (ws.take i)
theorem os_succ {ws : List Stp} {i : Nat} {st : Stp} (hi : ws[i]? = some st) : osAt ws (i + 1) = opens (i : Int) (osAt ws i) [st] := by
  show opens 0 [] (ws.take (i + 1)) = _
  rw [take_succ hi, opens_append, take_len hi, Int.zero_add]
theorem pr_succ {ws : List Stp} {i : Nat} {st : Stp} (hi : ws[i]? = some st) : prAt ws (i + 1) = prAt ws i ++ clo (i : Int) (osAt ws i) [st] := by
  show clo 0 [] (ws.take (i + 1)) = _
  rw [take_succ hi, clo_append, take_len hi, Int.zero_add]
theorem osAt_asc (ws : List Stp) (i : Nat) : Asc ((ws.take i).length) (osAt ws i) := by
  have h := opens_asc (ws.take i) 0 [] (asc_nil 0)
  rw [Int.zero_add] at h
  exact h
theorem os_num {ws : List Stp} {h i k : Nat} (r : run 0 ws = some h) (hi : ws[i]? = some (.num k)) : k < (osAt ws i).length := by
  obtain ⟨h', r', q⟩ := run_take r hi
  have e := opens_len (ws.take i) 0 [] r'
  show k < (opens 0 [] (ws.take i)).length
  rw [e]
  exact q k rfl
theorem os_le (ws : List Stp) (i : Nat) : (osAt ws i).length ≤ i := by
  have h : ∀ (r : List Stp) (p : Int) (os : List Int), (opens p os r).length ≤ os.length + r.length := by
    intro r
    induction r with
    | nil =>
      intro p os
      exact Nat.le_refl _
    | cons st r ih =>
      intro p os
      rw [List.length_cons]
      cases st with
      | lone =>
        have := ih (p + 1) os
        show (opens (p + 1) os r).length ≤ _
        omega
      | opn =>
        have := ih (p + 1) (os ++ [p])
        rw [List.length_append] at this
        show (opens (p + 1) (os ++ [p]) r).length ≤ _
        simp at this
        omega
      | num k =>
        have := ih (p + 1) (os.eraseIdx k)
        have q := (List.eraseIdx_sublist os k).length_le
        show (opens (p + 1) (os.eraseIdx k) r).length ≤ _
        omega
  have q := h (ws.take i) 0 []
  rw [List.length_take] at q
  simp at q
  show (opens 0 [] (ws.take i)).length ≤ i
  omega
theorem pr_le (ws : List Stp) (i : Nat) : (prAt ws i).length ≤ i := by
  have h : ∀ (r : List Stp) (p : Int) (os : List Int), (clo p os r).length ≤ r.length := by
    intro r
    induction r with
    | nil =>
      intro p os
      exact Nat.le_refl _
    | cons st r ih =>
      intro p os
      rw [List.length_cons]
      cases st with
      | lone => exact Nat.le_succ_of_le (ih (p + 1) os)
      | opn => exact Nat.le_succ_of_le (ih (p + 1) (os ++ [p]))
      | num k => exact Nat.succ_le_succ (ih (p + 1) (os.eraseIdx k))
  have q := h (ws.take i) 0 []
  rw [List.length_take] at q
  show (clo 0 [] (ws.take i)).length ≤ i
  omega
/-- the pairs of a walk, sorted -/
def prs (ws : List Stp) : List Pr := sortP (clo 0 [] ws)
theorem prAt_all (ws : List Stp) : prAt ws ws.length = clo 0 [] ws := by
  show clo 0 [] (ws.take ws.length) = _
  rw [List.take_length]
theorem step_at {ws : List Stp} {i : Nat} (hi : i < ws.length) : ∃ st, ws[i]? = some st ∧ (ws.map Stp.v)[i]? = some st.v := by
  refine ⟨ws[i], List.getElem?_eq_getElem hi, ?_⟩
  rw [List.getElem?_map, List.getElem?_eq_getElem hi]
  rfl
/-- where the pairs of a walk begin and end -/
theorem clo_fst : ∀ (ws : List Stp) (p : Int) (os : List Int) {h : Nat}, Asc p os → run os.length ws = some h → ((clo p os ws).map Prod.fst).Nodup ∧ ∀ x ∈ clo p os ws, (x.1 ∈ os ∨ p ≤ x.1) ∧ x.1 < x.2 ∧ p ≤ x.2
  | [], p, os, h, _, _ => ⟨List.Pairwise.nil, fun x m => absurd m List.not_mem_nil⟩
  | .lone :: r, p, os, h, a, e => by
    obtain ⟨h1, h2⟩ := clo_fst r (p + 1) os a.lone e
    refine ⟨h1, fun x m => ?_⟩
    obtain ⟨z, z2, z3⟩ := h2 x m
    refine ⟨z.imp id fun q => by omega, z2, by omega⟩
  | .opn :: r, p, os, h, a, e => by
    obtain ⟨h1, h2⟩ := clo_fst r (p + 1) (os ++ [p]) a.opn (by rw [List.length_append]; exact e)
    refine ⟨h1, fun x m => ?_⟩
    obtain ⟨z, z2, z3⟩ := h2 x m
    refine ⟨?_, z2, by omega⟩
    rcases z with z | z
    · rcases List.mem_append.mp z with z | z
      · exact .inl z
      · rw [List.mem_singleton.mp z]
        exact .inr (Int.le_refl _)
    · exact .inr (by omega)
  | .num k :: r, p, os, h, a, e => by
    have e2 : (if k < os.length then run (os.length - 1) r else none) = some h := e
    by_cases c : k < os.length
    · rw [if_pos c] at e2
      obtain ⟨h1, h2⟩ := clo_fst r (p + 1) (os.eraseIdx k) (a.num k) (by rw [List.length_eraseIdx, if_pos c]; exact e2)
      have hm : os.getD k 0 ∈ os := by
        rw [List.getD_eq_getElem?_getD, List.getElem?_eq_getElem c]
        exact List.getElem_mem c
      have hlt := a.2 _ hm
      refine ⟨?_, fun x m => ?_⟩
      · show (os.getD k 0 :: (clo (p + 1) (os.eraseIdx k) r).map Prod.fst).Nodup
        refine List.nodup_cons.mpr ⟨fun m => ?_, h1⟩
        obtain ⟨x, hx, ex⟩ := List.mem_map.mp m
        rcases (h2 x hx).1 with z | z
        · rw [← filter_ne_eraseIdx os k a.nodup c] at z
          have := (List.mem_filter.mp z).2
          rw [ex] at this
          simp at this
        · omega
      · rcases List.mem_cons.mp m with m | m
        · rw [m]
          exact ⟨.inl hm, hlt, Int.le_refl _⟩
        · obtain ⟨z, z2, z3⟩ := h2 x m
          refine ⟨?_, z2, by omega⟩
          rcases z with z | z
          · exact .inl (List.mem_of_mem_eraseIdx z)
          · exact .inr (by omega)
    · rw [if_neg c] at e2
      cases e2
theorem prs_perm (ws : List Stp) : (prs ws).Perm (clo 0 [] ws) := sortP_perm _
theorem prs_nodup {ws : List Stp} {h : Nat} (r : run 0 ws = some h) : ((prs ws).map Prod.fst).Nodup := ((prs_perm ws).map Prod.fst).nodup_iff.mpr (clo_fst ws 0 [] (asc_nil 0) r).1
theorem clo_len (ws : List Stp) : (clo 0 [] ws).length ≤ ws.length := by
  have h := pr_le ws ws.length
  rw [prAt_all] at h
  exact h
theorem prs_len (ws : List Stp) : (prs ws).length ≤ ws.length := by
  unfold prs
  rw [sortP_len]
  exact clo_len ws
theorem drop_step {α : Type} {ws : List α} {i : Nat} {st : α} (hi : ws[i]? = some st) : ws.drop i = st :: ws.drop (i + 1) := by
  have hl := (List.getElem?_eq_some_iff.mp hi).1
  rw [List.drop_eq_getElem_cons hl, (List.getElem?_eq_some_iff.mp hi).2]
theorem run_succ {ws : List Stp} {i h : Nat} {st : Stp} (hi : ws[i]? = some st) (r : run 0 (ws.take i) = some h) : run 0 (ws.take (i + 1)) = run h [st] := by
  rw [take_succ hi, run_append, r]
  rfl
end Pg
namespace Pg
open PySem L2
/-! ### how many ways go on: l points left, h pairs open -/
def cnt : Nat → Nat → Nat
  | 0, h => if h = 0 then 1 else 0
  | l + 1, h => cnt l h + cnt l (h + 1) + h * cnt l (h - 1)
/-- pairings of n points -/
def inv : Nat → Nat
  | 0 => 1
  | 1 => 1
  | n + 2 => inv (n + 1) + (n + 1) * inv n
/-- l (l - 1) .., h factors -/
def fall (l : Nat) : Nat → Nat
  | 0 => 1
  | h + 1 => fall l h * (l - h)
theorem fall_big {l : Nat} : ∀ {h : Nat}, l < h → fall l h = 0
  | 0, e => absurd e (Nat.not_lt_zero _)
  | h + 1, e => by
    show fall l h * (l - h) = 0
    by_cases c : l < h
    · rw [fall_big c, Nat.zero_mul]
    · rw [show l - h = 0 by omega, Nat.mul_zero]
theorem fall_up (l : Nat) : ∀ h, fall (l + 1) (h + 1) = (l + 1) * fall l h
  | 0 => by
    show 1 * (l + 1 - 0) = (l + 1) * 1
    omega
  | h + 1 => by
    show fall (l + 1) (h + 1) * (l + 1 - (h + 1)) = (l + 1) * (fall l h * (l - h))
    rw [fall_up l h, show l + 1 - (h + 1) = l - h by omega, Nat.mul_assoc]
theorem fall_sum {l h : Nat} (hl : h ≤ l) : fall (l + 1) (h + 1) = fall l (h + 1) + (h + 1) * fall l h := by
  rw [fall_up]
  show (l + 1) * fall l h = fall l h * (l - h) + (h + 1) * fall l h
  rw [Nat.mul_comm (fall l h), ← Nat.add_mul, show l - h + (h + 1) = l + 1 by omega]
theorem inv_step (m : Nat) : inv m + m * inv (m - 1) = inv (m + 1) := by
  cases m with
  | zero => rfl
  | succ m => rfl
theorem cnt_eq : ∀ l h, cnt l h = fall l h * inv (l - h)
  | 0, 0 => rfl
  | 0, h + 1 => by
    rw [fall_big (Nat.succ_pos h), Nat.zero_mul]
    rfl
  | l + 1, h => by
    show cnt l h + cnt l (h + 1) + h * cnt l (h - 1) = _
    rw [cnt_eq l h, cnt_eq l (h + 1), cnt_eq l (h - 1)]
    by_cases c : h ≤ l
    · have e1 : fall l h * inv (l - h) + fall l (h + 1) * inv (l - (h + 1)) = fall l h * inv (l - h + 1) := by
        rw [← inv_step (l - h), Nat.mul_add, ← Nat.mul_assoc]
        show _ + fall l h * (l - h) * inv (l - (h + 1)) = _ + fall l h * (l - h) * inv (l - h - 1)
        rw [Nat.sub_sub]
      rw [e1]
      cases h with
      | zero =>
        rw [Nat.zero_mul, Nat.add_zero]
        rfl
      | succ h =>
        rw [show h + 1 - 1 = h by omega, fall_sum (show h ≤ l by omega), show l + 1 - (h + 1) = l - h by omega, show l - (h + 1) + 1 = l - h by omega, ← Nat.mul_assoc, ← Nat.add_mul]
    · rw [fall_big (show l < h by omega), fall_big (show l < h + 1 by omega), Nat.zero_mul, Nat.zero_mul, Nat.zero_add]
      cases h with
      | zero => omega
      | succ h =>
        by_cases c2 : h ≤ l
        · have e : h = l := by omega
          subst e
          rw [show h + 1 - 1 = h by omega, show h + 1 - (h + 1) = 0 by omega, show h - h = 0 by omega, fall_up, Nat.mul_assoc]
        · rw [fall_big (show l + 1 < h + 1 by omega), show h + 1 - 1 = h by omega, fall_big (show l < h by omega), Nat.zero_mul, Nat.zero_mul, Nat.mul_zero]
theorem cnt_inv (n : Nat) : cnt n 0 = inv n := by
  rw [cnt_eq]
  show 1 * inv (n - 0) = inv n
  rw [Nat.one_mul, Nat.sub_zero]
theorem cnt_big {l h : Nat} (e : l < h) : cnt l h = 0 := by
  rw [cnt_eq, fall_big e, Nat.zero_mul]
theorem cnt_pos : ∀ {l h : Nat}, h ≤ l → 1 ≤ cnt l h
  | 0, h, e => by
    rw [show h = 0 by omega]
    exact Nat.le_refl _
  | l + 1, h, e => by
    show 1 ≤ cnt l h + cnt l (h + 1) + h * cnt l (h - 1)
    by_cases c : h ≤ l
    · have := cnt_pos (l := l) c
      omega
    · have := cnt_pos (l := l) (h := h - 1) (by omega)
      have q : 1 * 1 ≤ h * cnt l (h - 1) := Nat.mul_le_mul (by omega) this
      omega
/-! ### all walks, one point after the other -/
abbrev Row := List Stp × Nat
def ext (left : Nat) (r : Row) : List Row :=
  (if r.2 ≤ left then [(r.1 ++ [.lone], r.2)] else []) ++ ((if r.2 < left then [(r.1 ++ [.opn], r.2 + 1)] else []) ++ (List.range r.2).map fun k => (r.1 ++ [.num k], r.2 - 1))
def lev (n : Nat) : Nat → List Row
  | 0 => [([], 0)]
  | i + 1 => (lev n i).flatMap (ext (n - 1 - i))
def allW (n : Nat) : List (List Stp) := (lev n n).map Prod.fst
theorem ext_ok {n i : Nat} {r : Row} (h1 : run 0 r.1 = some r.2) (h2 : r.1.length = i) (h3 : r.2 + i ≤ n) (hi : i < n) : ∀ q ∈ ext (n - 1 - i) r, run 0 q.1 = some q.2 ∧ q.1.length = i + 1 ∧ q.2 + (i + 1) ≤ n := by
  intro q hq
  unfold ext at hq
  rcases List.mem_append.mp hq with hq | hq
  · by_cases c : r.2 ≤ n - 1 - i
    · rw [if_pos c, List.mem_singleton] at hq
      subst hq
      exact ⟨run_lone h1, by simp [h2], by show r.2 + (i + 1) ≤ n; omega⟩
    · rw [if_neg c] at hq
      cases hq
  · rcases List.mem_append.mp hq with hq | hq
    · by_cases c : r.2 < n - 1 - i
      · rw [if_pos c, List.mem_singleton] at hq
        subst hq
        exact ⟨run_opn h1, by simp [h2], by show r.2 + 1 + (i + 1) ≤ n; omega⟩
      · rw [if_neg c] at hq
        cases hq
    · obtain ⟨k, hk, e⟩ := List.mem_map.mp hq
      have hk := List.mem_range.mp hk
      subst e
      exact ⟨run_num h1 hk, by simp [h2], by show r.2 - 1 + (i + 1) ≤ n; omega⟩
theorem lev_ok {n : Nat} : ∀ {i : Nat}, i ≤ n → ∀ r ∈ lev n i, run 0 r.1 = some r.2 ∧ r.1.length = i ∧ r.2 + i ≤ n
  | 0, h, r, hr => by
    have e : r = ([], 0) := List.mem_singleton.mp hr
    subst e
    exact ⟨rfl, rfl, by show 0 + 0 ≤ n; omega⟩
  | i + 1, h, r, hr => by
    obtain ⟨p, hp, hr⟩ := List.mem_flatMap.mp hr
    obtain ⟨h1, h2, h3⟩ := lev_ok (i := i) (by omega) p hp
    exact ext_ok h1 h2 h3 (by omega) r hr
def wsum (l : Nat) (rs : List Row) : Nat := (rs.map fun r => cnt l r.2).sum
theorem wsum_append (l : Nat) (a b : List Row) : wsum l (a ++ b) = wsum l a + wsum l b := by
  unfold wsum
  rw [List.map_append, List.sum_append]
theorem wsum_range (l h : Nat) (w : List Stp) : ∀ m, wsum l ((List.range m).map fun k => ((w ++ [.num k], h) : Row)) = m * cnt l h
  | 0 => by simp [wsum]
  | m + 1 => by
    rw [List.range_succ, List.map_append, wsum_append, wsum_range l h w m]
    show m * cnt l h + (cnt l h + 0) = (m + 1) * cnt l h
    rw [Nat.add_mul]
    omega
theorem wsum_ext (left : Nat) (r : Row) : wsum left (ext left r) = cnt (left + 1) r.2 := by
  unfold ext
  rw [wsum_append, wsum_append, wsum_range]
  have e1 : wsum left (if r.2 ≤ left then [(r.1 ++ [.lone], r.2)] else []) = cnt left r.2 := by
    by_cases c : r.2 ≤ left
    · rw [if_pos c]
      exact Nat.add_zero _
    · rw [if_neg c, cnt_big (by omega)]
      rfl
  have e2 : wsum left (if r.2 < left then [(r.1 ++ [.opn], r.2 + 1)] else []) = cnt left (r.2 + 1) := by
    by_cases c : r.2 < left
    · rw [if_pos c]
      exact Nat.add_zero _
    · rw [if_neg c, cnt_big (by omega)]
      rfl
  rw [e1, e2]
  show _ = cnt left r.2 + cnt left (r.2 + 1) + r.2 * cnt left (r.2 - 1)
  omega
theorem wsum_flat (left : Nat) : ∀ rs : List Row, wsum left (rs.flatMap (ext left)) = wsum (left + 1) rs
  | [] => rfl
  | r :: t => by
    rw [List.flatMap_cons, wsum_append, wsum_ext, wsum_flat left t]
    unfold wsum
    rw [List.map_cons, List.sum_cons]
theorem lev_sum (n : Nat) : ∀ i, i ≤ n → wsum (n - i) (lev n i) = cnt n 0
  | 0, _ => by
    show cnt (n - 0) 0 + 0 = cnt n 0
    rw [Nat.sub_zero, Nat.add_zero]
  | i + 1, h => by
    show wsum (n - (i + 1)) ((lev n i).flatMap (ext (n - 1 - i))) = _
    rw [show n - (i + 1) = n - 1 - i by omega, wsum_flat, show n - 1 - i + 1 = n - i by omega]
    exact lev_sum n i (by omega)
theorem wsum_ge {l : Nat} : ∀ {rs : List Row}, (∀ r ∈ rs, r.2 ≤ l) → rs.length ≤ wsum l rs
  | [], _ => Nat.zero_le _
  | r :: t, h => by
    have h1 := wsum_ge (rs := t) fun q m => h q (List.mem_cons_of_mem _ m)
    have h2 := cnt_pos (h r List.mem_cons_self)
    show t.length + 1 ≤ cnt l r.2 + wsum l t
    omega
theorem lev_len {n i : Nat} (h : i ≤ n) : (lev n i).length ≤ cnt n 0 := by
  rw [← lev_sum n i h]
  refine wsum_ge fun r hr => ?_
  have := (lev_ok h r hr).2.2
  omega
theorem wsum_zero : ∀ {rs : List Row}, (∀ r ∈ rs, r.2 = 0) → wsum 0 rs = rs.length
  | [], _ => rfl
  | r :: t, h => by
    have h1 := wsum_zero (rs := t) fun q m => h q (List.mem_cons_of_mem _ m)
    have h2 := h r List.mem_cons_self
    show cnt 0 r.2 + wsum 0 t = t.length + 1
    rw [h1, h2]
    show 1 + t.length = t.length + 1
    omega
theorem allW_len (n : Nat) : (allW n).length = cnt n 0 := by
  unfold allW
  rw [List.length_map, ← lev_sum n n (Nat.le_refl _), Nat.sub_self]
  refine (wsum_zero fun r hr => ?_).symm
  have := (lev_ok (Nat.le_refl n) r hr).2.2
  omega
theorem allW_ok {n : Nat} {w : List Stp} (h : w ∈ allW n) : run 0 w = some 0 ∧ w.length = n := by
  obtain ⟨r, hr, e⟩ := List.mem_map.mp h
  obtain ⟨h1, h2, h3⟩ := lev_ok (Nat.le_refl n) r hr
  rw [← e]
  refine ⟨?_, h2⟩
  rw [h1, show r.2 = 0 by omega]
theorem cnt_few {n : Nat} (h : n ≤ 8) : cnt n 0 ≤ 764 := by
  have : n = 0 ∨ n = 1 ∨ n = 2 ∨ n = 3 ∨ n = 4 ∨ n = 5 ∨ n = 6 ∨ n = 7 ∨ n = 8 := by omega
  rcases this with e | e | e | e | e | e | e | e | e <;> (subst e; decide +kernel)
/-- what is appended of the rows so far -/
theorem flat_take {rs : List Row} {j left : Nat} {r : Row} (h : rs[j]? = some r) : (rs.take (j + 1)).flatMap (ext left) = (rs.take j).flatMap (ext left) ++ ext left r := by
  rw [List.take_add_one, h, List.flatMap_append]
  simp
/-! ### the table -/
def rowV (n l : Nat) : List V := (List.range (n + 2)).map fun h => V.int (cnt l h : Nat)
structure TabAt (H : Hp) (t : Addr) (n m : Nat) : Prop where
  ex : ∃ rs : List V, H t = some (.lst rs) ∧ rs.length = m ∧ ∀ l, l < m → ∃ a, rs[l]? = some (.ref a) ∧ H a = some (.lst (rowV n l))
theorem rowV_len (n l : Nat) : (rowV n l).length = n + 2 := by
  unfold rowV
  rw [List.length_map, List.length_range]
theorem rowV_at {n l h : Nat} (e : h < n + 2) : (rowV n l)[h]? = some (.int (cnt l h : Nat)) := by
  unfold rowV
  rw [List.getElem?_map, List.getElem?_range e]
  rfl
theorem TabAt.mono {H H' : Hp} {t : Addr} {n m : Nat} (e : Same H H') (h : TabAt H t n m) : TabAt H' t n m := by
  obtain ⟨rs, h1, h2, h3⟩ := h.ex
  refine ⟨rs, e _ _ h1, h2, fun l hl => ?_⟩
  obtain ⟨a, q1, q2⟩ := h3 l hl
  exact ⟨a, q1, e _ _ q2⟩
end Pg
namespace Pg
open PySem L2
/-! ### a heap without one object -/
def del (H : Hp) (r : Addr) : Hp := fun a => if a = r then none else H a
theorem del_same {H : Hp} {r : Addr} : del H r r = none := if_pos rfl
theorem del_ne {H : Hp} {r a : Addr} (h : a ≠ r) : del H r a = H a := if_neg h
theorem del_sub {H : Hp} {r : Addr} : Same (del H r) H := fun a o e => by
  by_cases c : a = r
  · subst c
    rw [del_same] at e
    cases e
  · rw [del_ne c] at e
    exact e
theorem del_upd {H : Hp} {r : Addr} {o : HO} : del (upd H r o) r = del H r := funext fun a => by
  by_cases c : a = r
  · subst c
    rw [del_same, del_same]
  · rw [del_ne c, del_ne c, upd_ne c]
theorem del_mono {H H' : Hp} {r : Addr} (h : Same H H') : Same (del H r) (del H' r) := fun a o e => by
  by_cases c : a = r
  · subst c
    rw [del_same] at e
    cases e
  · rw [del_ne c] at e
    rw [del_ne c]
    exact h _ _ e
/-- a heap that never knew it -/
theorem del_none {H H' : Hp} {r : Addr} (h : Same H H') (hr : H r = none) : Same H (del H' r) := fun a o e => by
  rw [del_ne (ne_of_none e hr)]
  exact h _ _ e
theorem del_at {H : Hp} {a r : Addr} {o : HO} (h : del H r a = some o) : a ≠ r ∧ H a = some o := by
  by_cases c : a = r
  · subst c
    rw [del_same] at h
    cases h
  · rw [del_ne c] at h
    exact ⟨c, h⟩
theorem paired_mono {α β : Type} {F G : α → β → Prop} (m : ∀ {x y}, F x y → G x y) : ∀ {xs : List α} {ys : List β}, Paired F xs ys → Paired G xs ys
  | _, _, .nil => .nil
  | _, _, .cons a b => .cons (m a) (paired_mono m b)
theorem paired_push {α β : Type} {F : α → β → Prop} {xs : List α} {ys : List β} {x : α} {y : β} (h : Paired F xs ys) (a : F x y) : Paired F (xs ++ [x]) (ys ++ [y]) := paired_append h (.cons a .nil)
/-! ### comprehensions whose elements make new objects -/
theorem yesI {σ : St} {H : Hp} {A Z : Hp → Prop} (h : A H) : tYes σ H fun b H3 => if b = true then A H3 else Z H3 := by
  show if true = true then A H else Z H
  rw [if_pos rfl]
  exact h
section
variable {K : PySem.W.Frag} {σ : St} {H : Hp} {tl te : TE} {g : TG} {vs : List Nat} {a : Addr} {xs : List V} {Q : VK} {β : Type}
theorem lcLA (R : Hp → V → β → Prop) (bs : List β) (mono : ∀ {H H' : Hp} {v : V} {b : β}, Same H H' → R H v b → R H' v b) (stab : ∀ {H : Hp} {D : Addr} {ys zs : List V} {v : V} {b : β}, H D = some (.lst ys) → R H v b → R (upd H D (.lst zs)) v b)
    (hl : ∀ Q : VK, Q (.ref a) H → tl σ H Q) (hx : SqL K H a xs) (hb : bs.length = xs.length) (hz : xs.length ≤ 40000)
    (ht : ∀ (i : Nat) (x : V) (b : β), xs[i]? = some x → bs[i]? = some b → ∀ H1, Same H H1 → ∀ (Q : VK) (Z : Hp → Prop), (∀ H2 y, Same H1 H2 → R H2 y b → Q y H2) → g x (wipe σ vs) H1 fun σ2 H2 => wipe σ2 vs = wipe σ vs ∧ tYes σ2 H2 fun b H3 => if b = true then te σ2 H3 Q else Z H3)
    (q : ∀ (H' : Hp) (p : Addr) (ys : List V), Same H H' → H p = none → H' p = some (.lst ys) → Paired (R H') ys bs → Q (.ref p) H') : tLc (iList K tl) g tYes te vs σ H Q := by
  refine hl _ ⟨a, rfl, ⟨xs, hx⟩, fun D hD => lc_list (K := K) (a := a) (xs := xs) (fun i H' => ∃ ys, Same H H' ∧ H' D = some (.lst ys) ∧ Paired (R H') ys (bs.take i)) ?_ ?_ ?_ ?_⟩
  · exact ⟨[], sm_new hD, upd_same, .nil⟩
  · rintro i H' _ ⟨ys, s, _⟩
    exact s.seq hx
  · rintro i x H' hi ⟨ys, s, hd, hp⟩
    have hil := (List.getElem?_eq_some_iff.mp hi).1
    have hbi : bs[i]? = some bs[i] := List.getElem?_eq_getElem (by omega)
    refine ht i x _ hi hbi H' s _ _ fun H2 y s2 r => ?_
    have hd2 := s2 _ _ hd
    have hlen := paired_length hp
    rw [List.length_take] at hlen
    refine ⟨ys, hd2, szl (by omega), ys ++ [y], sm_mut (s.trans s2) hD, upd_same, ?_⟩
    rw [List.take_add_one, hbi]
    exact paired_push (paired_mono (fun r => stab hd2 (mono s2 r)) hp) (stab hd2 r)
  · rintro H' ⟨ys, s, hd, hp⟩
    rw [← hb, List.take_length] at hp
    exact q H' D ys s hD hd hp
theorem lcRA {ta : TA} {n : Nat} (R : Hp → V → β → Prop) (bs : List β) (mono : ∀ {H H' : Hp} {v : V} {b : β}, Same H H' → R H v b → R H' v b) (stab : ∀ {H : Hp} {D : Addr} {ys zs : List V} {v : V} {b : β}, H D = some (.lst ys) → R H v b → R (upd H D (.lst zs)) v b)
    (hl : ∀ Q : List V → Hp → Prop, (∀ H1, Same H H1 → Q [.int (n : Int)] H1) → ta σ H Q) (hb : bs.length = n) (hz : n ≤ 40000)
    (ht : ∀ (i : Nat) (b : β), i < n → bs[i]? = some b → ∀ H1, Same H H1 → ∀ (Q : VK) (Z : Hp → Prop), (∀ H2 y, Same H1 H2 → R H2 y b → Q y H2) → g (.int (i : Int)) (wipe σ vs) H1 fun σ2 H2 => wipe σ2 vs = wipe σ vs ∧ tYes σ2 H2 fun b H3 => if b = true then te σ2 H3 Q else Z H3)
    (q : ∀ (H' : Hp) (p : Addr) (ys : List V), Same H H' → H p = none → H' p = some (.lst ys) → Paired (R H') ys bs → Q (.ref p) H') : tLc (iRng1 ta) g tYes te vs σ H Q := by
  refine hl _ fun H0 s0 => ⟨(n : Int), rfl, by omega, by omega, fun D hD0 => ?_⟩
  have hD : H D = none := s0.free hD0
  refine lc_range (lo := 0) (n := ((n : Int)).toNat) (fun i H' => ∃ ys, Same H H' ∧ H' D = some (.lst ys) ∧ Paired (R H') ys (bs.take i)) ?_ ?_ ?_
  · exact ⟨[], s0.trans (sm_new hD0), upd_same, .nil⟩
  · rintro i H' hi ⟨ys, s, hd, hp⟩
    have hi' : i < n := by omega
    have hbi : bs[i]? = some bs[i] := List.getElem?_eq_getElem (by omega)
    rw [Int.zero_add]
    refine ht i _ hi' hbi H' s _ _ fun H2 y s2 r => ?_
    have hd2 := s2 _ _ hd
    have hlen := paired_length hp
    rw [List.length_take] at hlen
    refine ⟨ys, hd2, szl (by omega), ys ++ [y], sm_mut (s.trans s2) hD, upd_same, ?_⟩
    rw [List.take_add_one, hbi]
    exact paired_push (paired_mono (fun r => stab hd2 (mono s2 r)) hp) (stab hd2 r)
  · rintro H' ⟨ys, s, hd, hp⟩
    rw [show ((n : Int)).toNat = bs.length by omega, List.take_length] at hp
    exact q H' D ys s hD hd hp
end
theorem gnE {i : Nat} {v v' : V} {σ : St} {H : Hp} {Q : St → Hp → Prop} (e : v = v') (h : gName i v' σ H Q) : gName i v σ H Q := e ▸ h
/-- a pairing stays where a list is changed -/
theorem PairingAt.stab {n : Int} {H : Hp} {D : Addr} {ys zs : List V} {v : V} {ps : List Pr} (h : H D = some (.lst ys)) (hp : PairingAt H v n ps) : PairingAt (upd H D (.lst zs)) v n ps := by
  obtain ⟨p, q, xs, rfl, h1, h2, h3⟩ := hp
  exact ⟨p, q, xs, rfl, by rw [upd_ne (ne_of h1 h (by intro z; cases z))]; exact h1, by rw [upd_ne (ne_of h2 h (by intro z; cases z))]; exact h2, upd_pairs h h3⟩
end Pg
namespace Pg
open PySem L2
/-! ### the table's rows -/
theorem rep_flat {α : Type} (x : α) : ∀ n, (List.replicate n [x]).flatten = List.replicate n x
  | 0 => rfl
  | n + 1 => by
    rw [List.replicate_succ, List.flatten_cons, rep_flat x n, List.replicate_succ]
    rfl
theorem rowV_zero (n : Nat) : rowV n 0 = [V.int 1] ++ (List.replicate (n + 1) [V.int 0]).flatten := by
  rw [rep_flat]
  unfold rowV
  rw [show n + 2 = (n + 1) + 1 by omega, List.range_succ_eq_map, List.map_cons, List.map_map]
  show V.int 1 :: _ = V.int 1 :: List.replicate (n + 1) (V.int 0)
  congr 1
  refine List.ext_getElem? fun i => ?_
  rw [List.getElem?_map]
  by_cases c : i < n + 1
  · rw [List.getElem?_range c, List.getElem?_replicate, if_pos c]
    rfl
  · rw [List.getElem?_eq_none (by rw [List.length_range]; omega), List.getElem?_eq_none (by rw [List.length_replicate]; omega)]
    rfl
/-- a row but for its last place -/
def rowI (l j : Nat) : List V := (List.range j).map fun h => V.int (cnt l h : Nat)
theorem rowI_len (l j : Nat) : (rowI l j).length = j := by
  unfold rowI
  rw [List.length_map, List.length_range]
theorem rowI_succ (l j : Nat) : rowI l (j + 1) = rowI l j ++ [V.int (cnt l j : Nat)] := by
  unfold rowI
  rw [List.range_succ, List.map_append]
  rfl
theorem rowI_all {n l : Nat} (h : l ≤ n) : rowI l (n + 1) ++ [V.int 0] = rowV n l := by
  show _ = rowI l (n + 2)
  rw [rowI_succ l (n + 1), cnt_big (by omega)]
  rfl
theorem cnt_step (i j : Nat) : (cnt i j : Int) + (cnt i (j + 1) : Int) + (if 0 < j then (j : Int) * (cnt i (j - 1) : Int) else 0) = (cnt (i + 1) j : Nat) := by
  have e : cnt (i + 1) j = cnt i j + cnt i (j + 1) + j * cnt i (j - 1) := rfl
  rw [e]
  by_cases c : 0 < j
  · rw [if_pos c]
    push_cast
    rfl
  · rw [if_neg c, show j = 0 by omega]
    push_cast
    omega
theorem tab_ne {H : Hp} {t a : Addr} {n l : Nat} {rs : List V} (hT : H t = some (.lst rs)) (hl : rs[l]? = some (.ref a)) (ha : H a = some (.lst (rowV n l))) (hn : l < n + 2) : a ≠ t := by
  intro e
  subst e
  rw [ha] at hT
  have e := HO.lst.inj (Option.some.inj hT)
  rw [← e, rowV_at hn] at hl
  cases hl
theorem at_end {xs : List V} {v : V} {m : Nat} (hl : xs.length = m + 1) (h : xs[m]? = some v) : atI xs (-1) = some v := by
  unfold atI ixN
  rw [if_neg (by decide), if_pos (by omega)]
  show xs[(-1 + (xs.length : Int)).toNat]? = some v
  rw [show (-1 + (xs.length : Int)).toNat = m by omega]
  exact h
/-! ### rows of walks in the heap -/
def RowAt (H : Hp) (v : V) (r : Row) : Prop := ∃ t l : Addr, v = .ref t ∧ H t = some (.tup [.ref l, .int (r.2 : Nat)]) ∧ H l = some (.lst (r.1.map Stp.v))
theorem RowAt.mono {H H' : Hp} {v : V} {r : Row} (e : Same H H') (h : RowAt H v r) : RowAt H' v r := by
  obtain ⟨t, l, rfl, h1, h2⟩ := h
  exact ⟨t, l, rfl, e _ _ h1, e _ _ h2⟩
theorem row_push {H2 H5 : Hp} {g t l : Addr} {ys : List V} {rows : List Row} {r : Row} (hs : Same H2 H5) (hg : H2 g = some (.lst ys)) (hp : Paired (RowAt (del H2 g)) ys rows)
    (ht : H5 t = some (.tup [.ref l, .int (r.2 : Nat)])) (hl : H5 l = some (.lst (r.1.map Stp.v))) (nl : l ≠ g) : Paired (RowAt (del (upd H5 g (.lst (ys ++ [.ref t]))) g)) (ys ++ [.ref t]) (rows ++ [r]) := by
  rw [del_upd]
  refine paired_push (paired_mono (fun q => q.mono (del_mono hs)) hp) ⟨t, l, rfl, ?_, ?_⟩
  · rw [del_ne (ne_of ht (hs _ _ hg) (by intro z; cases z))]
    exact ht
  · rw [del_ne nl]
    exact hl
theorem inv_up (i : Nat) : (inv (i + 1) : Int) + ((i + 1 : Nat) : Int) * (inv i : Int) = (inv (i + 2) : Nat) := by
  show _ = ((inv (i + 1) + (i + 1) * inv i : Nat) : Int)
  push_cast
  rfl
def invV (m : Nat) : List V := (List.range m).map fun k => V.int (inv k : Nat)
theorem invV_len (m : Nat) : (invV m).length = m := by
  unfold invV
  rw [List.length_map, List.length_range]
theorem invV_at {m k : Nat} (h : k < m) : (invV m)[k]? = some (.int (inv k : Nat)) := by
  unfold invV
  rw [List.getElem?_map, List.getElem?_range h]
  rfl
theorem invV_succ (m : Nat) : invV (m + 1) = invV m ++ [V.int (inv m : Nat)] := by
  unfold invV
  rw [List.range_succ, List.map_append]
  rfl
end Pg
namespace Pg
open PySem L2
/-! ### what a walk can do next, and all walks in order -/
abbrev Opt := Stp × Nat
def nums (h : Nat) : List Opt := (List.range h).map fun k => (Stp.num k, h - 1)
def opts (h : Nat) : List Opt := (.lone, h) :: (.opn, h + 1) :: nums h
def enum : Nat → Nat → List (List Stp)
  | 0, h => if h = 0 then [[]] else []
  | l + 1, h => (opts h).flatMap fun o => (enum l o.2).map (o.1 :: ·)
def tot (l : Nat) (os : List Opt) : Nat := (os.map fun o => cnt l o.2).sum
theorem tot_cons (l : Nat) (o : Opt) (os : List Opt) : tot l (o :: os) = cnt l o.2 + tot l os := by
  unfold tot
  rw [List.map_cons, List.sum_cons]
theorem tot_nums (l h c : Nat) : ∀ m, tot l ((List.range m).map fun k => (Stp.num k, c)) = m * cnt l c
  | 0 => by simp [tot]
  | m + 1 => by
    have ih := tot_nums l h c m
    unfold tot at ih ⊢
    rw [List.range_succ, List.map_append, List.map_append, List.sum_append, ih]
    show m * cnt l c + (cnt l c + 0) = (m + 1) * cnt l c
    rw [Nat.add_mul]
    omega
theorem tot_opts (l h : Nat) : tot l (opts h) = cnt (l + 1) h := by
  unfold opts
  rw [tot_cons, tot_cons]
  show cnt l h + (cnt l (h + 1) + tot l (nums h)) = cnt l h + cnt l (h + 1) + h * cnt l (h - 1)
  unfold nums
  rw [tot_nums l h]
  omega
theorem enum_len : ∀ l h, (enum l h).length = cnt l h
  | 0, h => by
    show (if h = 0 then [[]] else [] : List (List Stp)).length = if h = 0 then 1 else 0
    split <;> rfl
  | l + 1, h => by
    rw [← tot_opts]
    show ((opts h).flatMap fun o => (enum l o.2).map (o.1 :: ·)).length = tot l (opts h)
    generalize opts h = os
    induction os with
    | nil => rfl
    | cons o r ih =>
      rw [List.flatMap_cons, List.length_append, List.length_map, ih, tot_cons, enum_len l o.2]
def pick (l : Nat) : List Opt → Nat → Stp × Nat × Nat
  | [], _ => (.lone, 0, 0)
  | o :: r, j => if j < cnt l o.2 then (o.1, o.2, j) else pick l r (j - cnt l o.2)
def unr : Nat → Nat → Nat → List Stp
  | 0, _, _ => []
  | l + 1, h, j => (pick l (opts h) j).1 :: unr l (pick l (opts h) j).2.1 (pick l (opts h) j).2.2
theorem pick_mem {l : Nat} : ∀ {os : List Opt} {j : Nat}, j < tot l os → ((pick l os j).1, (pick l os j).2.1) ∈ os ∧ (pick l os j).2.2 < cnt l (pick l os j).2.1
  | [], j, h => absurd h (Nat.not_lt_zero _)
  | o :: r, j, h => by
    unfold pick
    by_cases c : j < cnt l o.2
    · rw [if_pos c]
      exact ⟨List.mem_cons_self, c⟩
    · rw [if_neg c]
      rw [tot_cons] at h
      obtain ⟨h1, h2⟩ := pick_mem (l := l) (os := r) (j := j - cnt l o.2) (by omega)
      exact ⟨List.mem_cons_of_mem _ h1, h2⟩
theorem enum_get : ∀ {l h j : Nat}, j < cnt l h → (enum l h)[j]? = some (unr l h j)
  | 0, h, j, e => by
    have e2 : j < (if h = 0 then 1 else 0) := e
    by_cases c : h = 0
    · rw [if_pos c] at e2
      have z : j = 0 := by omega
      subst z
      show (if h = 0 then [[]] else [] : List (List Stp))[0]? = some []
      rw [if_pos c]
      rfl
    · rw [if_neg c] at e2
      omega
  | l + 1, h, j, e => by
    rw [← tot_opts] at e
    show ((opts h).flatMap fun o => (enum l o.2).map (o.1 :: ·))[j]? = some ((pick l (opts h) j).1 :: unr l (pick l (opts h) j).2.1 (pick l (opts h) j).2.2)
    revert e
    generalize opts h = os
    intro e
    induction os generalizing j with
    | nil => exact absurd e (Nat.not_lt_zero _)
    | cons o r ih =>
      rw [List.flatMap_cons]
      unfold pick
      by_cases c : j < cnt l o.2
      · rw [if_pos c, List.getElem?_append_left (by rw [List.length_map, enum_len]; exact c), List.getElem?_map, enum_get c]
        rfl
      · rw [if_neg c]
        rw [tot_cons] at e
        rw [List.getElem?_append_right (by rw [List.length_map, enum_len]; omega), List.length_map, enum_len]
        exact ih (j - cnt l o.2) (by omega)
theorem opt_run {h : Nat} {o : Opt} (m : o ∈ opts h) (w : List Stp) : run h (o.1 :: w) = run o.2 w := by
  unfold opts nums at m
  rcases List.mem_cons.mp m with e | m
  · subst e
    rfl
  · rcases List.mem_cons.mp m with e | m
    · subst e
      rfl
    · obtain ⟨k, hk, e⟩ := List.mem_map.mp m
      have hk := List.mem_range.mp hk
      subst e
      show (if k < h then run (h - 1) w else none) = run (h - 1) w
      rw [if_pos hk]
theorem unr_run : ∀ {l h j : Nat}, j < cnt l h → run h (unr l h j) = some 0 ∧ (unr l h j).length = l
  | 0, h, j, e => by
    have e2 : j < (if h = 0 then 1 else 0) := e
    by_cases c : h = 0
    · subst c
      exact ⟨rfl, rfl⟩
    · rw [if_neg c] at e2
      omega
  | l + 1, h, j, e => by
    rw [← tot_opts] at e
    obtain ⟨h1, h2⟩ := pick_mem e
    obtain ⟨r1, r2⟩ := unr_run h2
    refine ⟨?_, ?_⟩
    · show run h ((pick l (opts h) j).1 :: unr l (pick l (opts h) j).2.1 (pick l (opts h) j).2.2) = some 0
      rw [← r1]
      exact opt_run h1 _
    · show (unr l (pick l (opts h) j).2.1 (pick l (opts h) j).2.2).length + 1 = l + 1
      rw [r2]
theorem enum_nil : ∀ {l h : Nat}, l < h → enum l h = [] := fun e => List.length_eq_zero_iff.mp (by rw [enum_len, cnt_big e])
theorem lev_enum (n : Nat) : ∀ i, i ≤ n → ((lev n i).flatMap fun r => (enum (n - i) r.2).map (r.1 ++ ·)) = enum n 0
  | 0, _ => by
    show ((enum (n - 0) 0).map ([] ++ ·)) ++ [] = enum n 0
    rw [List.append_nil, Nat.sub_zero]
    simp
  | i + 1, h => by
    rw [← lev_enum n i (by omega)]
    show (((lev n i).flatMap (ext (n - 1 - i))).flatMap fun r => (enum (n - (i + 1)) r.2).map (r.1 ++ ·)) = _
    rw [List.flatMap_assoc]
    congr 1
    funext r
    obtain ⟨w, c⟩ := r
    have el : n - (i + 1) = n - 1 - i := by omega
    have er : n - i = n - 1 - i + 1 := by omega
    rw [el, er]
    generalize n - 1 - i = l
    show ((ext l (w, c)).flatMap fun r => (enum l r.2).map (r.1 ++ ·)) = ((opts c).flatMap fun o => (enum l o.2).map (o.1 :: ·)).map (w ++ ·)
    unfold ext opts nums
    rw [List.flatMap_append, List.flatMap_append, List.flatMap_cons, List.flatMap_cons, List.map_append, List.map_append, List.map_map, List.map_map]
    have app : ∀ (st : Stp), ((fun x => w ++ x) ∘ fun x => st :: x) = fun x => (w ++ [st]) ++ x := fun st => by
      funext x
      show w ++ st :: x = (w ++ [st]) ++ x
      rw [List.append_assoc]
      rfl
    refine congr (congrArg _ ?_) (congr (congrArg _ ?_) ?_)
    · by_cases z : c ≤ l
      · rw [if_pos z, app]
        show (enum l c).map _ ++ [] = _
        rw [List.append_nil]
      · rw [if_neg z]
        show [] = (enum l c).map _
        rw [enum_nil (by omega)]
        rfl
    · by_cases z : c < l
      · rw [if_pos z, app]
        show (enum l (c + 1)).map _ ++ [] = _
        rw [List.append_nil]
      · rw [if_neg z]
        show [] = (enum l (c + 1)).map _
        rw [enum_nil (by omega)]
        rfl
    · generalize List.range c = ks
      induction ks with
      | nil => rfl
      | cons k ks ih =>
        rw [List.map_cons, List.map_cons, List.flatMap_cons, List.flatMap_cons, List.map_append, ih, List.map_map, app]
theorem flat_single : ∀ (rs : List Row), (∀ r ∈ rs, r.2 = 0) → (rs.flatMap fun r => (enum 0 r.2).map (r.1 ++ ·)) = rs.map Prod.fst
  | [], _ => rfl
  | r :: t, h => by
    rw [List.flatMap_cons, flat_single t fun q m => h q (List.mem_cons_of_mem _ m), h r List.mem_cons_self]
    show [r.1 ++ []] ++ _ = _
    rw [List.append_nil]
    rfl
theorem allW_enum (n : Nat) : allW n = enum n 0 := by
  rw [← lev_enum n n (Nat.le_refl n), Nat.sub_self, flat_single]
  · rfl
  · intro r hr
    have := (lev_ok (Nat.le_refl n) r hr).2.2
    omega
theorem allW_unr (n : Nat) : allW n = (List.range (cnt n 0)).map (unr n 0) := by
  rw [allW_enum]
  refine List.ext_getElem? fun j => ?_
  rw [List.getElem?_map]
  by_cases c : j < cnt n 0
  · rw [enum_get c, List.getElem?_range c]
    rfl
  · rw [List.getElem?_eq_none (by rw [enum_len]; omega), List.getElem?_eq_none (by rw [List.length_range]; omega)]
    rfl
/-! ### the number of a walk -/
def off (l : Nat) : List Opt → Stp → Nat
  | [], _ => 0
  | o :: r, st => if o.1 = st then 0 else cnt l o.2 + off l r st
def beh (h : Nat) : Stp → Nat
  | .lone => h
  | .opn => h + 1
  | .num _ => h - 1
def rk : Nat → List Stp → Nat
  | _, [] => 0
  | h, st :: r => off r.length (opts h) st + rk (beh h st) r
theorem pick_off {l : Nat} {st : Stp} {b : Nat} : ∀ {os : List Opt} {j : Nat}, (st, b) ∈ os → (∀ o ∈ os, o.1 = st → o.2 = b) → j < cnt l b → pick l os (off l os st + j) = (st, b, j)
  | [], j, m, _, _ => absurd m List.not_mem_nil
  | o :: r, j, m, u, e => by
    unfold pick off
    by_cases c : o.1 = st
    · have eb := u o List.mem_cons_self c
      rw [if_pos c, eb, Nat.zero_add, if_pos e, c]
    · rw [if_neg c, if_neg (by omega), show cnt l o.2 + off l r st + j - cnt l o.2 = off l r st + j by omega]
      refine pick_off ?_ (fun q m => u q (List.mem_cons_of_mem _ m)) e
      rcases List.mem_cons.mp m with z | z
      · exact absurd (by rw [← z]) c
      · exact z
theorem off_pick {l : Nat} : ∀ {os : List Opt} {j : Nat}, j < tot l os → (os.map Prod.fst).Nodup → off l os (pick l os j).1 + (pick l os j).2.2 = j
  | [], j, h, _ => absurd h (Nat.not_lt_zero _)
  | o :: r, j, h, nd => by
    rw [List.map_cons, List.nodup_cons] at nd
    rw [tot_cons] at h
    unfold pick
    by_cases c : j < cnt l o.2
    · rw [if_pos c]
      unfold off
      rw [if_pos rfl]
      exact Nat.zero_add _
    · rw [if_neg c]
      have h1 : j - cnt l o.2 < tot l r := by omega
      have ih := off_pick h1 nd.2
      have hm := (pick_mem h1).1
      unfold off
      rw [if_neg fun e => nd.1 (List.mem_map.mpr ⟨_, hm, e.symm⟩)]
      omega
theorem opts_nodup (h : Nat) : ((opts h).map Prod.fst).Nodup := by
  unfold opts nums
  rw [List.map_cons, List.map_cons, List.map_map]
  refine List.nodup_cons.mpr ⟨fun m => ?_, List.nodup_cons.mpr ⟨fun m => ?_, ?_⟩⟩
  · rcases List.mem_cons.mp m with e | m
    · cases e
    · obtain ⟨k, _, e⟩ := List.mem_map.mp m
      cases e
  · obtain ⟨k, _, e⟩ := List.mem_map.mp m
    cases e
  · refine List.pairwise_map.mpr ((List.nodup_range (n := h)).imp fun {a b} ne e => ne ?_)
    exact Stp.num.inj e
theorem opts_beh {h : Nat} {o : Opt} (m : o ∈ opts h) : o.2 = beh h o.1 := by
  unfold opts nums at m
  rcases List.mem_cons.mp m with e | m
  · subst e
    rfl
  · rcases List.mem_cons.mp m with e | m
    · subst e
      rfl
    · obtain ⟨k, hk, e⟩ := List.mem_map.mp m
      subst e
      rfl
theorem opts_has {h h' : Nat} {st : Stp} {r : List Stp} (e : run h (st :: r) = some h') : (st, beh h st) ∈ opts h ∧ run (beh h st) r = some h' := by
  unfold opts nums
  cases st with
  | lone => exact ⟨List.mem_cons_self, e⟩
  | opn => exact ⟨List.mem_cons_of_mem _ List.mem_cons_self, e⟩
  | num k =>
    have e2 : (if k < h then run (h - 1) r else none) = some h' := e
    by_cases c : k < h
    · rw [if_pos c] at e2
      exact ⟨List.mem_cons_of_mem _ (List.mem_cons_of_mem _ (List.mem_map.mpr ⟨k, List.mem_range.mpr c, rfl⟩)), e2⟩
    · rw [if_neg c] at e2
      cases e2
theorem off_lt {l : Nat} {st : Stp} {b j : Nat} : ∀ {os : List Opt}, (st, b) ∈ os → (∀ o ∈ os, o.1 = st → o.2 = b) → j < cnt l b → off l os st + j < tot l os
  | [], m, _, _ => absurd m List.not_mem_nil
  | o :: r, m, u, e => by
    rw [tot_cons]
    unfold off
    by_cases c : o.1 = st
    · have eb := u o List.mem_cons_self c
      rw [if_pos c, eb]
      omega
    · rw [if_neg c]
      have ih := off_lt (l := l) (st := st) (b := b) (j := j) (os := r) (by
        rcases List.mem_cons.mp m with z | z
        · exact absurd (by rw [← z]) c
        · exact z) (fun q m => u q (List.mem_cons_of_mem _ m)) e
      omega
theorem rk_ok : ∀ {ws : List Stp} {h : Nat}, run h ws = some 0 → rk h ws < cnt ws.length h ∧ unr ws.length h (rk h ws) = ws
  | [], h, e => by
    have e : h = 0 := Option.some.inj e
    subst e
    exact ⟨by show 0 < (if 0 = 0 then 1 else 0); decide, rfl⟩
  | st :: r, h, e => by
    obtain ⟨hm, hr⟩ := opts_has e
    obtain ⟨h1, h2⟩ := rk_ok hr
    have u : ∀ o ∈ opts h, o.1 = st → o.2 = beh h st := fun o m e => by rw [opts_beh m, e]
    refine ⟨?_, ?_⟩
    · show off r.length (opts h) st + rk (beh h st) r < cnt (r.length + 1) h
      rw [← tot_opts]
      exact off_lt hm u h1
    · show (pick r.length (opts h) (off r.length (opts h) st + rk (beh h st) r)).1 :: unr r.length (pick r.length (opts h) (off r.length (opts h) st + rk (beh h st) r)).2.1 (pick r.length (opts h) (off r.length (opts h) st + rk (beh h st) r)).2.2 = st :: r
      rw [pick_off hm u h1, h2]
theorem rk_unr : ∀ {l h j : Nat}, j < cnt l h → rk h (unr l h j) = j
  | 0, h, j, e => by
    have e2 : j < (if h = 0 then 1 else 0) := e
    by_cases c : h = 0
    · rw [if_pos c] at e2
      show 0 = j
      omega
    · rw [if_neg c] at e2
      omega
  | l + 1, h, j, e => by
    rw [← tot_opts] at e
    obtain ⟨h1, h2⟩ := pick_mem e
    have q := off_pick e (opts_nodup h)
    have ih := rk_unr h2
    have el := (unr_run h2).2
    show off (unr l (pick l (opts h) j).2.1 (pick l (opts h) j).2.2).length (opts h) (pick l (opts h) j).1 + rk (beh h (pick l (opts h) j).1) (unr l (pick l (opts h) j).2.1 (pick l (opts h) j).2.2) = j
    rw [el, ← show (pick l (opts h) j).2.1 = beh h (pick l (opts h) j).1 from opts_beh h1, ih]
    exact q
/-- as the law reckons -/
theorem off_lone (l h : Nat) : off l (opts h) .lone = 0 := by
  unfold opts off
  rw [if_pos rfl]
theorem off_opn (l h : Nat) : off l (opts h) .opn = cnt l h := by
  unfold opts off
  rw [if_neg (by intro z; cases z)]
  unfold off
  rw [if_pos rfl]
  rfl
theorem off_nums (l c : Nat) : ∀ (m a k : Nat), a ≤ k → k < a + m → off l ((List.range' a m).map fun k => (Stp.num k, c)) (.num k) = (k - a) * cnt l c
  | 0, a, k, h1, h2 => by omega
  | m + 1, a, k, h1, h2 => by
    rw [List.range'_succ, List.map_cons]
    unfold off
    by_cases e : a = k
    · subst e
      rw [if_pos rfl, Nat.sub_self, Nat.zero_mul]
    · rw [if_neg fun z => e (Stp.num.inj z), off_nums l c m (a + 1) k (by omega) (by omega)]
      show cnt l c + (k - (a + 1)) * cnt l c = (k - a) * cnt l c
      rw [show k - a = (k - (a + 1)) + 1 by omega, Nat.add_mul]
      omega
theorem off_num {l h k : Nat} (hk : k < h) : off l (opts h) (.num k) = cnt l h + cnt l (h + 1) + k * cnt l (h - 1) := by
  unfold opts off
  rw [if_neg (by intro z; cases z)]
  unfold off
  rw [if_neg (by intro z; cases z)]
  have e := off_nums l (h - 1) h 0 k (Nat.zero_le _) (by omega)
  rw [← List.range_eq_range'] at e
  unfold nums
  rw [e, Nat.sub_zero]
  show cnt l h + (cnt l (h + 1) + _) = _
  omega
/-! ### in the heap -/
def OptAt (H : Hp) (v : V) (o : Opt) : Prop := ∃ t : Addr, v = .ref t ∧ H t = some (.tup [o.1.v, .int (o.2 : Nat)])
theorem OptAt.mono {H H' : Hp} {v : V} {o : Opt} (e : Same H H') (h : OptAt H v o) : OptAt H' v o := by
  obtain ⟨t, rfl, h⟩ := h
  exact ⟨t, rfl, e _ _ h⟩
theorem OptAt.stab {H : Hp} {D : Addr} {ys zs : List V} {v : V} {o : Opt} (h : H D = some (.lst ys)) (hp : OptAt H v o) : OptAt (upd H D (.lst zs)) v o := by
  obtain ⟨t, rfl, ht⟩ := hp
  exact ⟨t, rfl, by rw [upd_ne (ne_of ht h (by intro z; cases z))]; exact ht⟩
end Pg
namespace Pg
open PySem L2
/-! ### points and their partners -/
def pts (ps : List Pr) : List Int := ps.flatMap fun q => [q.1, q.2]
theorem pts_cons (q : Pr) (r : List Pr) : pts (q :: r) = q.1 :: q.2 :: pts r := rfl
theorem mem_pts {ps : List Pr} {x : Int} : x ∈ pts ps ↔ ∃ q ∈ ps, x = q.1 ∨ x = q.2 := by
  unfold pts
  rw [List.mem_flatMap]
  constructor
  · rintro ⟨q, hq, hx⟩
    exact ⟨q, hq, by simpa using hx⟩
  · rintro ⟨q, hq, hx⟩
    exact ⟨q, hq, by simpa using hx⟩
theorem pts_perm {ps qs : List Pr} (h : ps.Perm qs) : (pts ps).Perm (pts qs) := h.flatMap_right _
theorem clo_pts : ∀ (ws : List Stp) (p : Int) (os : List Int) {h : Nat}, Asc p os → run os.length ws = some h → (pts (clo p os ws)).Nodup ∧ ∀ x ∈ pts (clo p os ws), (x ∈ os ∨ p ≤ x) ∧ x < p + ws.length
  | [], p, os, h, _, _ => ⟨List.Pairwise.nil, fun x m => absurd m List.not_mem_nil⟩
  | .lone :: r, p, os, h, a, e => by
    obtain ⟨h1, h2⟩ := clo_pts r (p + 1) os a.lone e
    refine ⟨h1, fun x m => ?_⟩
    obtain ⟨z, z2⟩ := h2 x m
    rw [List.length_cons]
    exact ⟨z.imp id fun q => by omega, by omega⟩
  | .opn :: r, p, os, h, a, e => by
    obtain ⟨h1, h2⟩ := clo_pts r (p + 1) (os ++ [p]) a.opn (by rw [List.length_append]; exact e)
    refine ⟨h1, fun x m => ?_⟩
    obtain ⟨z, z2⟩ := h2 x m
    rw [List.length_cons]
    refine ⟨?_, by omega⟩
    rcases z with z | z
    · rcases List.mem_append.mp z with z | z
      · exact .inl z
      · rw [List.mem_singleton.mp z]
        exact .inr (Int.le_refl _)
    · exact .inr (by omega)
  | .num k :: r, p, os, h, a, e => by
    have e2 : (if k < os.length then run (os.length - 1) r else none) = some h := e
    by_cases c : k < os.length
    · rw [if_pos c] at e2
      obtain ⟨h1, h2⟩ := clo_pts r (p + 1) (os.eraseIdx k) (a.num k) (by rw [List.length_eraseIdx, if_pos c]; exact e2)
      have hm : os.getD k 0 ∈ os := by
        rw [List.getD_eq_getElem?_getD, List.getElem?_eq_getElem c]
        exact List.getElem_mem c
      have hlt := a.2 _ hm
      have n1 : os.getD k 0 ∉ pts (clo (p + 1) (os.eraseIdx k) r) := fun m => by
        rcases (h2 _ m).1 with z | z
        · rw [← filter_ne_eraseIdx os k a.nodup c] at z
          have := (List.mem_filter.mp z).2
          simp at this
        · omega
      have n2 : p ∉ pts (clo (p + 1) (os.eraseIdx k) r) := fun m => by
        rcases (h2 _ m).1 with z | z
        · have := a.2 _ (List.mem_of_mem_eraseIdx z)
          omega
        · omega
      refine ⟨?_, fun x m => ?_⟩
      · show (os.getD k 0 :: p :: pts (clo (p + 1) (os.eraseIdx k) r)).Nodup
        refine List.nodup_cons.mpr ⟨fun m => ?_, List.nodup_cons.mpr ⟨n2, h1⟩⟩
        rcases List.mem_cons.mp m with m | m
        · omega
        · exact n1 m
      · have m2 : x ∈ os.getD k 0 :: p :: pts (clo (p + 1) (os.eraseIdx k) r) := m
        rw [List.length_cons]
        rcases List.mem_cons.mp m2 with m | m
        · rw [m]
          exact ⟨.inl hm, by omega⟩
        · rcases List.mem_cons.mp m with m | m
          · rw [m]
            exact ⟨.inr (Int.le_refl _), by omega⟩
          · obtain ⟨z, z2⟩ := h2 x m
            refine ⟨?_, by omega⟩
            rcases z with z | z
            · exact .inl (List.mem_of_mem_eraseIdx z)
            · exact .inr (by omega)
    · rw [if_neg c] at e2
      cases e2
/-- what is open is closed, where none is left open -/
theorem clo_closed : ∀ (ws : List Stp) (p : Int) (os : List Int), run os.length ws = some 0 → ∀ o ∈ os, ∃ b, (o, b) ∈ clo p os ws ∧ p ≤ b
  | [], p, os, e, o, m => by
    have e1 : os.length = 0 := Option.some.inj e
    rw [List.length_eq_zero_iff.mp e1] at m
    exact absurd m List.not_mem_nil
  | .lone :: r, p, os, e, o, m => by
    obtain ⟨b, hb, z⟩ := clo_closed r (p + 1) os e o m
    exact ⟨b, hb, by omega⟩
  | .opn :: r, p, os, e, o, m => by
    obtain ⟨b, hb, z⟩ := clo_closed r (p + 1) (os ++ [p]) (by rw [List.length_append]; exact e) o (List.mem_append_left _ m)
    exact ⟨b, hb, by omega⟩
  | .num k :: r, p, os, e, o, m => by
    have e2 : (if k < os.length then run (os.length - 1) r else none) = some 0 := e
    by_cases c : k < os.length
    · rw [if_pos c] at e2
      by_cases q : o = os.getD k 0
      · exact ⟨p, by rw [q]; exact List.mem_cons_self, Int.le_refl _⟩
      · have hm : o ∈ os.eraseIdx k := by
          obtain ⟨i, hi, ei⟩ := List.mem_iff_getElem.mp m
          have ne : i ≠ k := by
            intro z
            apply q
            rw [List.getD_eq_getElem?_getD, List.getElem?_eq_getElem c, ← ei]
            subst z
            rfl
          exact List.mem_eraseIdx_iff_getElem?.mpr ⟨i, ne, by rw [List.getElem?_eq_getElem hi, ei]⟩
        obtain ⟨b, hb, z⟩ := clo_closed r (p + 1) (os.eraseIdx k) (by rw [List.length_eraseIdx, if_pos c]; exact e2) o hm
        exact ⟨b, List.mem_cons_of_mem _ hb, by omega⟩
    · rw [if_neg c] at e2
      cases e2
/-- what stands at each point: none, or the partner -/
def mateStep (l : List V) (p : Pr) : List V := (l.set p.1.toNat (.int p.2)).set p.2.toNat (.int p.1)
def mateV (n : Int) (ps : List Pr) : List V := ps.foldl mateStep (List.replicate n.toNat .non)
theorem mateStep_len (l : List V) (p : Pr) : (mateStep l p).length = l.length := by
  unfold mateStep
  rw [List.length_set, List.length_set]
theorem mateF_len : ∀ (ps : List Pr) (l : List V), (ps.foldl mateStep l).length = l.length
  | [], l => rfl
  | p :: r, l => by
    show (r.foldl mateStep (mateStep l p)).length = _
    rw [mateF_len r, mateStep_len]
theorem mateV_len (n : Int) (ps : List Pr) : (mateV n ps).length = n.toNat := by
  unfold mateV
  rw [mateF_len, List.length_replicate]
theorem mate_other : ∀ (ps : List Pr) (l : List V) (i : Nat), (i : Int) ∉ pts ps → (∀ x ∈ pts ps, 0 ≤ x) → (ps.foldl mateStep l)[i]? = l[i]?
  | [], l, i, _, _ => rfl
  | p :: r, l, i, h, h0 => by
    show (r.foldl mateStep (mateStep l p))[i]? = _
    rw [pts_cons] at h h0
    have a := h0 p.1 List.mem_cons_self
    have b := h0 p.2 (List.mem_cons_of_mem _ List.mem_cons_self)
    have e1 : i ≠ p.1.toNat := fun e => h (by rw [e, Int.toNat_of_nonneg a]; exact List.mem_cons_self)
    have e2 : i ≠ p.2.toNat := fun e => h (by rw [e, Int.toNat_of_nonneg b]; exact List.mem_cons_of_mem _ List.mem_cons_self)
    rw [mate_other r _ i (fun m => h (List.mem_cons_of_mem _ (List.mem_cons_of_mem _ m))) (fun x m => h0 x (List.mem_cons_of_mem _ (List.mem_cons_of_mem _ m)))]
    unfold mateStep
    rw [List.getElem?_set_ne (Ne.symm e2), List.getElem?_set_ne (Ne.symm e1)]
theorem mate_mem : ∀ (ps : List Pr) (l : List V), (pts ps).Nodup → (∀ x ∈ pts ps, 0 ≤ x ∧ x < l.length) → ∀ q ∈ ps, (ps.foldl mateStep l)[q.1.toNat]? = some (.int q.2) ∧ (ps.foldl mateStep l)[q.2.toNat]? = some (.int q.1)
  | [], l, _, _, q, m => absurd m List.not_mem_nil
  | p :: r, l, nd, h0, q, m => by
    show (r.foldl mateStep (mateStep l p))[q.1.toNat]? = _ ∧ (r.foldl mateStep (mateStep l p))[q.2.toNat]? = _
    rw [pts_cons] at nd h0
    obtain ⟨n1, nd2⟩ := List.nodup_cons.mp nd
    obtain ⟨n2, nd3⟩ := List.nodup_cons.mp nd2
    have a := h0 p.1 List.mem_cons_self
    have b := h0 p.2 (List.mem_cons_of_mem _ List.mem_cons_self)
    have hr : ∀ x ∈ pts r, 0 ≤ x := fun x m => (h0 x (List.mem_cons_of_mem _ (List.mem_cons_of_mem _ m))).1
    rcases List.mem_cons.mp m with e | m
    · subst e
      have ne : q.1 ≠ q.2 := fun e => n1 (by rw [e]; exact List.mem_cons_self)
      have n3 : ((q.1.toNat : Nat) : Int) ∉ pts r := by
        rw [Int.toNat_of_nonneg a.1]
        exact fun m => n1 (List.mem_cons_of_mem _ m)
      have n4 : ((q.2.toNat : Nat) : Int) ∉ pts r := by
        rw [Int.toNat_of_nonneg b.1]
        exact n2
      rw [mate_other r _ _ n3 hr, mate_other r _ _ n4 hr]
      unfold mateStep
      constructor
      · rw [List.getElem?_set_ne (by omega), List.getElem?_set_self (by omega)]
      · rw [List.getElem?_set_self (by rw [List.length_set]; omega)]
    · refine mate_mem r _ nd3 (fun x mx => ?_) q m
      rw [mateStep_len]
      exact h0 x (List.mem_cons_of_mem _ (List.mem_cons_of_mem _ mx))
/-- the partners in a walk's pairing -/
theorem prs_pts {ws : List Stp} {h : Nat} (r : run 0 ws = some h) : (pts (prs ws)).Nodup ∧ ∀ x ∈ pts (prs ws), 0 ≤ x ∧ x < ws.length := by
  obtain ⟨h1, h2⟩ := clo_pts ws 0 [] (asc_nil 0) r
  have pm := pts_perm (prs_perm ws)
  refine ⟨pm.nodup_iff.mpr h1, fun x m => ?_⟩
  obtain ⟨z, z2⟩ := h2 x (pm.mem_iff.mp m)
  refine ⟨?_, by omega⟩
  rcases z with z | z
  · exact absurd z List.not_mem_nil
  · exact z
theorem clo_split {ws : List Stp} {i : Nat} {st : Stp} (hi : ws[i]? = some st) : clo 0 [] ws = prAt ws i ++ clo (i : Int) (osAt ws i) (st :: ws.drop (i + 1)) := by
  have hl := (List.getElem?_eq_some_iff.mp hi).1
  have ed : ws.drop i = st :: ws.drop (i + 1) := by
    rw [List.drop_eq_getElem_cons hl, (List.getElem?_eq_some_iff.mp hi).2]
  have e : ws = ws.take i ++ (st :: ws.drop (i + 1)) := by
    rw [← ed]
    exact (List.take_append_drop i ws).symm
  have q : clo 0 [] (ws.take i ++ (st :: ws.drop (i + 1))) = _ := clo_append 0 [] (ws.take i) (st :: ws.drop (i + 1))
  rw [take_len hi, Int.zero_add] at q
  rw [← e] at q
  exact q
theorem run_drop {ws : List Stp} {i h : Nat} {st : Stp} (r : run 0 ws = some h) (hi : ws[i]? = some st) : run (osAt ws i).length (st :: ws.drop (i + 1)) = some h := by
  have hl := (List.getElem?_eq_some_iff.mp hi).1
  have ed : ws.drop i = st :: ws.drop (i + 1) := by
    rw [List.drop_eq_getElem_cons hl, (List.getElem?_eq_some_iff.mp hi).2]
  obtain ⟨h', r', _⟩ := run_take r hi
  have e1 := opens_len (ws.take i) 0 [] r'
  have r2 := r
  rw [← List.take_append_drop i ws, run_append, r', ed] at r2
  show run (opens 0 [] (ws.take i)).length _ = _
  rw [e1]
  exact r2
theorem mate_lone {ws : List Stp} {h i : Nat} (r : run 0 ws = some h) (hi : ws[i]? = some .lone) : (mateV (ws.length : Int) (prs ws))[i]? = some .non := by
  have hl := (List.getElem?_eq_some_iff.mp hi).1
  obtain ⟨h1, h2⟩ := prs_pts r
  unfold mateV
  rw [mate_other _ _ _ (fun m => ?_) (fun x m => (h2 x m).1)]
  · rw [List.getElem?_replicate, if_pos (by omega)]
  · have m1 := (pts_perm (prs_perm ws)).mem_iff.mp m
    rw [clo_split hi] at m1
    have m2 : (i : Int) ∈ pts (prAt ws i) ∨ (i : Int) ∈ pts (clo (i : Int) (osAt ws i) (.lone :: ws.drop (i + 1))) := by
      obtain ⟨q, hq, z⟩ := mem_pts.mp m1
      rcases List.mem_append.mp hq with hq | hq
      · exact .inl (mem_pts.mpr ⟨q, hq, z⟩)
      · exact .inr (mem_pts.mpr ⟨q, hq, z⟩)
    obtain ⟨h', r', _⟩ := run_take r hi
    have tl := take_len hi
    rcases m2 with m2 | m2
    · have := ((clo_pts (ws.take i) 0 [] (asc_nil 0) r').2 _ m2).2
      omega
    · have asc := osAt_asc ws i
      rw [tl] at asc
      have rd : run (osAt ws i).length (ws.drop (i + 1)) = some h := run_drop r hi
      have := ((clo_pts (ws.drop (i + 1)) ((i : Int) + 1) (osAt ws i) asc.lone rd).2 _ m2).1
      rcases this with z | z
      · have := asc.2 _ z
        omega
      · omega
theorem mate_num {ws : List Stp} {h i k : Nat} (r : run 0 ws = some h) (hi : ws[i]? = some (.num k)) : (mateV (ws.length : Int) (prs ws))[i]? = some (.int ((osAt ws i).getD k 0)) := by
  obtain ⟨h1, h2⟩ := prs_pts r
  have m : (((osAt ws i).getD k 0, (i : Int)) : Pr) ∈ prs ws := (prs_perm ws).mem_iff.mpr (by
    rw [clo_split hi]
    exact List.mem_append_right _ List.mem_cons_self)
  have q := (mate_mem (prs ws) (List.replicate ((ws.length : Int)).toNat .non) h1 (fun x mx => by
    have := h2 x mx
    rw [List.length_replicate]
    omega) _ m).2
  exact q
theorem mate_opn {ws : List Stp} {i : Nat} (r : run 0 ws = some 0) (hi : ws[i]? = some .opn) : ∃ b : Int, (i : Int) < b ∧ (mateV (ws.length : Int) (prs ws))[i]? = some (.int b) := by
  obtain ⟨h1, h2⟩ := prs_pts r
  have rd := run_drop r hi
  have rd2 : run (osAt ws i ++ [(i : Int)]).length (ws.drop (i + 1)) = some 0 := by
    rw [List.length_append]
    exact rd
  obtain ⟨b, hb, hlt⟩ := clo_closed (ws.drop (i + 1)) ((i : Int) + 1) (osAt ws i ++ [(i : Int)]) rd2 (i : Int) (List.mem_append_right _ (List.mem_singleton.mpr rfl))
  have m : (((i : Int), b) : Pr) ∈ prs ws := (prs_perm ws).mem_iff.mpr (by
    rw [clo_split hi]
    exact List.mem_append_right _ hb)
  have q := (mate_mem (prs ws) (List.replicate ((ws.length : Int)).toNat .non) h1 (fun x mx => by
    have := h2 x mx
    rw [List.length_replicate]
    omega) _ m).1
  exact ⟨b, by omega, q⟩
end Pg
namespace Pg
open PySem L2
/-! ### data that may be compared -/
/-- of a depth of d at most -/
def Shp (d : Nat) (x : PyData) : Prop := x.canLay0 = true ∧ x.depth ≤ d
theorem Shp.mono {d e : Nat} {x : PyData} (h : Shp d x) (l : d ≤ e) : Shp e x := ⟨h.1, Nat.le_trans h.2 l⟩
theorem Shp.shaped {d : Nat} {x : PyData} (h : Shp d x) (l : d ≤ 64 := by decide) : SeqAt.shaped x = true := by
  show (x.canLay0 && decide (x.depth ≤ 64)) = true
  rw [Bool.and_eq_true]
  exact ⟨h.1, decide_eq_true (Nat.le_trans h.2 l)⟩
theorem Shp.refl {d : Nat} {x : PyData} (h : Shp d x) : PyData.eqv x x = true := SeqAt.eqv_refl x h.1
theorem shp_all {d : Nat} : ∀ {xs : List PyData}, (∀ x ∈ xs, Shp d x) → PyData.canLayAll0 xs = true ∧ PyData.depthAll xs ≤ d
  | [], _ => ⟨by simp [PyData.canLayAll0], by simp [PyData.depthAll]⟩
  | x :: r, h => by
    obtain ⟨h1, h2⟩ := shp_all (xs := r) fun y m => h y (List.mem_cons_of_mem _ m)
    obtain ⟨h3, h4⟩ := h x List.mem_cons_self
    refine ⟨by simp [PyData.canLayAll0, h1, h3], ?_⟩
    simp only [PyData.depthAll]
    omega
theorem shp_lst {d : Nat} {xs : List PyData} (h : ∀ x ∈ xs, Shp d x) : Shp (d + 1) (.list xs) := by
  obtain ⟨h1, h2⟩ := shp_all h
  refine ⟨by simpa [PyData.canLay0] using h1, ?_⟩
  simp only [PyData.depth]
  omega
theorem shp_tup {d : Nat} {xs : List PyData} (h : ∀ x ∈ xs, Shp d x) : Shp (d + 1) (.tuple xs) := by
  obtain ⟨h1, h2⟩ := shp_all h
  refine ⟨by simpa [PyData.canLay0] using h1, ?_⟩
  simp only [PyData.depth]
  omega
theorem shp_int {d : Nat} (i : Int) : Shp d (.int i) := ⟨by simp [PyData.canLay0], by simp [PyData.depth]⟩
theorem shp_bool {d : Nat} (i : Bool) : Shp d (.bool i) := ⟨by simp [PyData.canLay0], by simp [PyData.depth]⟩
theorem shp_prD (p : Pr) : Shp 1 (prD p) := shp_tup fun x m => by
  rcases List.mem_cons.mp m with e | m
  · rw [e]
    exact shp_int _
  · rw [List.mem_singleton.mp m]
    exact shp_int _
theorem shp_prsD (ps : List Pr) : Shp 2 (prsD ps) := shp_tup fun x m => by
  obtain ⟨p, _, e⟩ := List.mem_map.mp m
  rw [← e]
  exact shp_prD p
theorem shp_pgD (n : Int) (ps : List Pr) : Shp 3 (pgD n ps) := shp_tup fun x m => by
  rcases List.mem_cons.mp m with e | m
  · rw [e]
    exact shp_int _
  · rw [List.mem_singleton.mp m]
    exact shp_prsD _
theorem prD_eqv (p q : Pr) : PyData.eqv (prD p) (prD q) = decide (p = q) := by
  obtain ⟨a, b⟩ := p
  obtain ⟨c, d⟩ := q
  show PyData.eqv (.tuple [.int a, .int b]) (.tuple [.int c, .int d]) = _
  simp only [PyData.eqv, PyData.eqvAll, Bool.and_true, Prod.mk.injEq]
  rw [Bool.eq_iff_iff]
  simp
theorem eqvAll_map {α : Type} [DecidableEq α] (f : α → PyData) (h : ∀ x y, PyData.eqv (f x) (f y) = decide (x = y)) : ∀ xs ys : List α, PyData.eqvAll (xs.map f) (ys.map f) = decide (xs = ys)
  | [], [] => by simp [PyData.eqvAll]
  | [], _ :: _ => by simp [PyData.eqvAll]
  | _ :: _, [] => by simp [PyData.eqvAll]
  | x :: xs, y :: ys => by
    simp only [List.map_cons, PyData.eqvAll, h x y, eqvAll_map f h xs ys, List.cons.injEq]
    rw [Bool.eq_iff_iff]
    simp
theorem prsD_eqv (ps qs : List Pr) : PyData.eqv (prsD ps) (prsD qs) = decide (ps = qs) := by
  unfold prsD
  simp only [PyData.eqv]
  exact eqvAll_map prD prD_eqv ps qs
theorem pgD_eqv (n m : Int) (ps qs : List Pr) : PyData.eqv (pgD n ps) (pgD m qs) = (decide (n = m) && decide (ps = qs)) := by
  unfold pgD
  simp only [PyData.eqv, PyData.eqvAll, prsD_eqv, Bool.and_true]
  rw [Bool.eq_iff_iff]
  simp
theorem pgs_dp {K : PySem.W.Frag} {H : Hp} {n : Int} : ∀ {xs : List V} {ls : List (List Stp)}, Paired (fun v b => PairingAt H v n (prs b)) xs ls → DpAll K H xs (ls.map fun b => pgD n (prs b))
  | _, _, .nil => .nil
  | _, _, .cons a b => .cons a.dp (pgs_dp b)
theorem shp_pgs (n : Int) (ls : List (List Stp)) : Shp 4 (.list (ls.map fun b => pgD n (prs b))) := shp_lst fun x m => by
  obtain ⟨b, _, e⟩ := List.mem_map.mp m
  rw [← e]
  exact shp_pgD _ _
/-- a walk's steps -/
def Stp.d : Stp → PyData
  | .lone => .str "lone"
  | .opn => .str "open"
  | .num k => .int (k : Int)
theorem stp_dp {K : PySem.W.Frag} {H : Hp} : ∀ st : Stp, Dp K H st.v st.d
  | .lone => .str _
  | .opn => .str _
  | .num _ => .int _
theorem stps_dp {K : PySem.W.Frag} {H : Hp} : ∀ ws : List Stp, DpAll K H (ws.map Stp.v) (ws.map Stp.d)
  | [] => .nil
  | st :: r => .cons (stp_dp st) (stps_dp r)
theorem shp_stp : ∀ st : Stp, Shp 0 st.d
  | .lone => ⟨by decide +kernel, by decide +kernel⟩
  | .opn => ⟨by decide +kernel, by decide +kernel⟩
  | .num k => shp_int _
theorem shp_stps (ws : List Stp) : Shp 1 (.list (ws.map Stp.d)) := shp_lst fun x m => by
  obtain ⟨st, _, e⟩ := List.mem_map.mp m
  rw [← e]
  exact shp_stp st
theorem scal_stp : ∀ a b : Stp, scal a.v b.v = true
  | .lone, .lone => rfl
  | .lone, .opn => rfl
  | .lone, .num _ => rfl
  | .opn, .lone => rfl
  | .opn, .opn => rfl
  | .opn, .num _ => rfl
  | .num _, .lone => rfl
  | .num _, .opn => rfl
  | .num _, .num _ => rfl
/-! ### lists of truth values -/
theorem bools_dp {K : PySem.W.Frag} {H : Hp} : ∀ bs : List Bool, DpAll K H (bs.map V.bl) (bs.map PyData.bool)
  | [] => .nil
  | b :: r => .cons (.bl b) (bools_dp r)
theorem shp_bools (bs : List Bool) : Shp 1 (.list (bs.map PyData.bool)) := shp_lst fun x m => by
  obtain ⟨b, _, e⟩ := List.mem_map.mp m
  rw [← e]
  exact shp_bool b
end Pg
/-! xs.count(y) of flat items: some number up to the length; lists of whole numbers and texts as walks -/
namespace Pg
open PySem PySem.Spec PyProof.Rows L2
def rCntF (K : PySem.W.Frag) : V → List V → Hp → VK → Prop := fun x xs H Q => ∃ (p : Addr) (ys : List V) (y : V), x = .ref p ∧ xs = [y] ∧ SqL K H p ys ∧ flatV y = true ∧ ys.all flatV = true ∧ ∀ m : Nat, m ≤ ys.length → Q (.int (m : Nat)) H
theorem mt_countF (K : PySem.W.Frag) {X : Cx} (e : X.K = K := by rfl) : MtR X "list.count" (rCntF K) := by
  subst e
  intro pins s σ H x xs v us Q I rx rxs h
  obtain ⟨p, ys, y, rfl, rfl, hs, fy, fys, q⟩ := h
  cases rx
  obtain ⟨u, rfl, ru⟩ := rxs.one
  obtain ⟨its, rv, ⟨o, n, ho, h1, h2, h3⟩, _⟩ := I.list hs
  obtain ⟨oc, od, oda, osl⟩ := o
  dsimp only at h1 h2 h3
  subst h1 h3
  refine call_meets PySem.F.slot_list_count ⟨_, ho, rfl⟩ PySem.F.entry_list_count (PySem.F.args_list_count_2 _ _) (SeqAt.list_countAt p its.toArray n od osl u (eqU y))
    ⟨ho, fun z hz => mem_eqAt ru fy rv fys z (by simpa using hz), .int ((its.toArray.toList.countP (eqU y) : Nat) : Int), H, I.tok _, ⟨s.toks, rfl⟩, ?_⟩
  refine q _ ?_
  rw [rv.length]
  exact List.countP_le_length
/-! ### lists of whole numbers and texts -/
def isIS : V → Bool
  | .int _ => true
  | .str _ => true
  | _ => false
theorem is_flat {x : V} (h : isIS x = true) : flatV x = true := by
  cases x <;> first | rfl | cases h
theorem stp_is : ∀ st : Stp, isIS st.v = true
  | .lone => rfl
  | .opn => rfl
  | .num _ => rfl
theorem stp_inj : ∀ a b : Stp, a.v = b.v → a = b
  | .lone, .lone, _ => rfl
  | .lone, .opn, h => absurd (V.str.inj h) (by decide +kernel)
  | .lone, .num _, h => nomatch h
  | .opn, .lone, h => absurd (V.str.inj h) (by decide +kernel)
  | .opn, .opn, _ => rfl
  | .opn, .num _, h => nomatch h
  | .num _, .lone, h => nomatch h
  | .num _, .opn, h => nomatch h
  | .num a, .num b, h => by
    have e : (a : Int) = (b : Int) := V.int.inj h
    rw [show a = b by omega]
theorem stps_inj : ∀ {a b : List Stp}, a.map Stp.v = b.map Stp.v → a = b
  | [], [], _ => rfl
  | [], _ :: _, h => nomatch h
  | _ :: _, [], h => nomatch h
  | x :: a, y :: b, h => by
    rw [List.map_cons, List.map_cons] at h
    obtain ⟨h1, h2⟩ := List.cons.inj h
    rw [stp_inj x y h1, stps_inj h2]
/-- the list writes the walk ws -/
structure WalkOf (xs : List V) (ws : List Stp) : Prop where
  eq : xs = ws.map Stp.v
  run : run 0 ws = some 0
  len : ws.length ≤ 60
theorem WalkOf.uniq {xs : List V} {a b : List Stp} (h : WalkOf xs a) (h' : WalkOf xs b) : a = b := stps_inj (h.eq.symm.trans h'.eq)
/-- a step that can't be -/
theorem no_walk_at {xs : List V} {ws : List Stp} {i h : Nat} {x : V} (ht : xs.take i = ws.map Stp.v) (hr : run 0 ws = some h) (hx : xs[i]? = some x) (bad : ∀ st : Stp, x = st.v → run h [st] = none) : ¬ ∃ w, WalkOf xs w := by
  rintro ⟨w, e, r, _⟩
  have hx2 : (w.map Stp.v)[i]? = some x := by rw [← e]; exact hx
  rw [List.getElem?_map] at hx2
  cases c : w[i]? with
  | none =>
    rw [c] at hx2
    cases hx2
  | some st =>
    rw [c] at hx2
    have ex : x = st.v := (Option.some.inj hx2).symm
    have et : w.take i = ws := stps_inj (by rw [List.map_take, ← e, ht])
    have es := run_drop r c
    rw [show (osAt w i).length = h from opens_len (w.take i) 0 [] (by rw [et]; exact hr)] at es
    have b := bad st ex
    have eapp : run h (st :: w.drop (i + 1)) = (run h [st]).bind fun h' => run h' (w.drop (i + 1)) := run_append h [st] _
    rw [eapp, b] at es
    cases es
/-- pairs that are still open -/
theorem no_walk_end {xs : List V} {ws : List Stp} {h : Nat} (ht : xs = ws.map Stp.v) (hr : run 0 ws = some h) (h0 : h ≠ 0) : ¬ ∃ w, WalkOf xs w := by
  rintro ⟨w, e, r, _⟩
  have ew : w = ws := stps_inj (e.symm.trans ht)
  rw [ew, hr] at r
  exact h0 (Option.some.inj r)
theorem no_walk_long {xs : List V} (hl : 60 < xs.length) : ¬ ∃ w, WalkOf xs w := by
  rintro ⟨w, e, _, l⟩
  rw [e, List.length_map] at hl
  omega
theorem num_bad {z : Int} {h : Nat} (hz : z < 0 ∨ (h : Int) ≤ z) : ∀ st : Stp, V.int z = st.v → run h [st] = none := by
  intro st e
  cases st with
  | lone => cases e
  | opn => cases e
  | num k =>
    have ek : z = (k : Int) := V.int.inj e
    show (if k < h then run (h - 1) [] else none) = none
    rw [if_neg (by omega)]
theorem str_bad {x : Str} {h : Nat} (h1 : x ≠ "open") (h2 : x ≠ "lone") : ∀ st : Stp, V.str x = st.v → run h [st] = none := by
  intro st e
  cases st with
  | lone => exact absurd (V.str.inj e) h2
  | opn => exact absurd (V.str.inj e) h1
  | num k => cases e
theorem cutV_mem {xs : List V} {lo hi : Option Int} {x : V} (h : x ∈ cutV xs lo hi) : x ∈ xs := by
  unfold cutV at h
  exact List.mem_of_mem_drop (List.mem_of_mem_take h)
theorem all_flat {xs : List V} (h : ∀ x ∈ xs, isIS x = true) : xs.all flatV = true := List.all_eq_true.mpr fun x m => is_flat (h x m)
theorem is_stps (ws : List Stp) : ∀ x ∈ ws.map Stp.v, isIS x = true := fun x m => by
  obtain ⟨st, _, e⟩ := List.mem_map.mp m
  rw [← e]
  exact stp_is st
end Pg
namespace Pg
open PySem L2
def topS (i : Nat) : Stmt := PySem.Challenge.pw_pairlings_k10_told_by_number.main.body.getD i (.Pass ⟨0, 0, 0, 0⟩)
structure CA where
  PairError : Addr
  NoPairing : Addr
  NoWalk : Addr
  NoNumber : Addr
  TooMany : Addr
  BadNote : Addr
/-- what the top has left of the names that the defs read -/
structure Txt (K : PySem.W.Frag) (mg : Str → Option Value) (ca : CA) : Prop where
  z_ValueError : mg "ValueError" = none
  z_bool : mg "bool" = none
  z_int : mg "int" = none
  z_isinstance : mg "isinstance" = none
  z_len : mg "len" = none
  z_list : mg "list" = none
  z_range : mg "range" = none
  z_sorted : mg "sorted" = none
  z_str : mg "str" = none
  z_tuple : mg "tuple" = none
  g_MOST : ∃ t, mg "MOST" = some (.int 60 t)
  g_PairError : mg "PairError" = some (.ref ca.PairError)
  g_NoPairing : mg "NoPairing" = some (.ref ca.NoPairing)
  g_NoWalk : mg "NoWalk" = some (.ref ca.NoWalk)
  g_NoNumber : mg "NoNumber" = some (.ref ca.NoNumber)
  g_TooMany : mg "TooMany" = some (.ref ca.TooMany)
  g_BadNote : mg "BadNote" = some (.ref ca.BadNote)
  x_NoNumber : PySem.W.excIn K ca.NoNumber [.type "ValueError", .type "Exception", .type "BaseException", .type "object"] "ValueError.__new__" = true
  k_NoNumber : PySem.W.keepIn K (.ref ca.NoNumber) = true
  b_NoNumber : PySem.W.subIn K (.ref ca.NoNumber) (.type "BaseException") = some true
  t_NoNumber : PySem.W.typeIn K (.ref ca.NoNumber) = some (.type "type")
  me_NoNumber : PySem.W.exmOne K (.ref ca.NoNumber) (.ref ca.PairError) = some true
  ec_NoNumber : ExcC K ca.NoNumber
  i_NoNumber_NoPairing : PySem.W.kitOne K (.ref ca.NoNumber) (.ref ca.NoPairing) = some false
  i_NoNumber_NoWalk : PySem.W.kitOne K (.ref ca.NoNumber) (.ref ca.NoWalk) = some false
  i_NoNumber_NoNumber : PySem.W.kitOne K (.ref ca.NoNumber) (.ref ca.NoNumber) = some true
  i_NoNumber_TooMany : PySem.W.kitOne K (.ref ca.NoNumber) (.ref ca.TooMany) = some false
  i_NoNumber_BadNote : PySem.W.kitOne K (.ref ca.NoNumber) (.ref ca.BadNote) = some false
  i_NoNumber_VE : PySem.W.kitOne K (.ref ca.NoNumber) (.type "ValueError") = some true
end Pg

namespace Pg
open PySem L2
section
variable {P : Program} {w : World} {K : PySem.W.Frag} {mg : Str → Option Value} {base : Heap} {ca : CA}
abbrev s_law_cell_at : Stmt := topS 19
theorem sc_law_cell_at : FnScope ["script", "k"] ["script", "k"] (defScope s_law_cell_at) := ⟨rfl, rfl, rfl, by decide +kernel, rfl, by decide +kernel, by decide +kernel⟩
def cellAt (ns : List Int) (k : Int) : Int := ns.getD k.toNat 0
def sp_law_cell_at (K : PySem.W.Frag) : Sp := fun vs H Q _ => ∃ (a : Addr) (ns : List Int) (k : Int), vs = [.ref a, .int k] ∧ SqL K H a (ns.map V.int) ∧ 0 ≤ k ∧ Q (.int (cellAt ns k)) H
theorem ok_law_cell_at (T : Txt K mg ca) (D : Def K mg "_law_cell_at" ["script", "k"] s_law_cell_at) : Known P w K mg base CX0 1 "_law_cell_at" ["script", "k"] (sp_law_cell_at K) := by
  refine D.known fun f fd F => F.ok sc_law_cell_at (fun vs H Q E h => ?_) (fun cdv A outer s H vs Q E hr h => ?_)
  · obtain ⟨_, _, _, rfl, _⟩ := h
    rfl
  · obtain ⟨a, ns, k, rfl, hS, hk, q⟩ := h
    refine ⟨_, (pss_cons (ps_if (pt_cmpR op_lt (pv 1) (pe_callB (callLen K) (by rfl) T.z_len PySem.boot_len (pa_cons (pv 0) pa_nil)) (nomark _))
      (pss_one (ps_ret (pe_ix (ixL K) (pv 0) (pv 1) (fun _ _ => rfl))))
      pss_nil)
      (pss_one (ps_ret pe_int))), ?_⟩
    refine ⟨_, rfl, _, rfl, a, _, rfl, .inl hS, _, _, rfl, rfl, _, rfl, ?_⟩
    refine ite2 (fun e => ?_) (fun e => ?_)
    · have e1 := of_decide_eq_true e
      rw [List.length_map] at e1
      have g : (ns.map V.int)[k.toNat]? = some (.int (cellAt ns k)) := by
        have hl : k.toNat < ns.length := by omega
        rw [List.getElem?_map, List.getElem?_eq_getElem hl]
        show some (V.int ns[k.toNat]) = _
        rw [cellAt, List.getD_eq_getElem?_getD, List.getElem?_eq_getElem hl]
        rfl
      exact ⟨_, rfl, _, rfl, a, _, k, _, rfl, rfl, hS, at_of (j := k.toNat) (by omega) g, q⟩
    · have e1 : ¬ k < (ns.map V.int).length := fun z => e (decide_eq_true z)
      rw [List.length_map] at e1
      have g : cellAt ns k = 0 := by
        rw [cellAt, List.getD_eq_getElem?_getD, List.getElem?_eq_none (by omega)]
        rfl
      rw [g] at q
      exact q
end
end Pg

namespace Pg
open PySem L2
section
variable {P : Program} {w : World} {K : PySem.W.Frag} {mg : Str → Option Value} {base : Heap} {ca : CA}
abbrev s_law_choice : Stmt := topS 21
theorem sc_law_choice : FnScope ["state", "many", "found", "mixed"] ["state", "many"] (defScope s_law_choice) := ⟨rfl, rfl, rfl, by decide +kernel, rfl, by decide +kernel, by decide +kernel⟩
/-- some number below many, whatever the state; the state is changed -/
def sp_law_choice (K : PySem.W.Frag) : Sp := fun vs H Q _ => ∃ (a : Addr) (c m : Int) (b : Bool), vs = [.ref a, .int m] ∧ H a = some (.lst [.int c, .bl b]) ∧ 0 < m ∧ m < 1000 ∧
  ∀ c' r : Int, 0 ≤ r → r < m → Q (.int r) (upd H a (.lst [.int c', .bl b]))
theorem ok_law_choice (T : Txt K mg ca) (D : Def K mg "_law_choice" ["state", "many"] s_law_choice) : Known P w K mg base CX0 1 "_law_choice" ["state", "many"] (sp_law_choice K) := by
  refine D.known fun f fd F => F.ok sc_law_choice (fun vs H Q E h => ?_) (fun cdv A outer s H vs Q E hr h => ?_)
  · obtain ⟨_, _, _, _, rfl, _⟩ := h
    rfl
  · obtain ⟨a, c, m, b, rfl, hS, h0, h1, q⟩ := h
    have g0 : atI [V.int c, V.bl b] 0 = some (.int c) := atI_nat (j := 0) rfl
    have g1 : atI [V.int c, V.bl b] 1 = some (.bl b) := atI_nat (j := 1) rfl
    have hL : SqL K H a [V.int c, V.bl b] := SqL.of hS
    refine ⟨_, (pss_cons (ps_if (pt_val (pe_ix (ixL K) (pv 0) pe_int (fun _ _ => rfl)))
      (pss_cons (ps_set (i := 2) sc_law_choice.nd rfl (Or.inl rfl) (pe_op op_mod (pe_ix (ixL K) (pv 0) pe_int (fun _ _ => rfl)) (pv 1)))
      (pss_cons (ps_asg (pe_op op_fdiv (pe_ix (ixL K) (pv 0) pe_int (fun _ _ => rfl)) (pv 1)) (pg_sub (pv 0) pe_int set_list))
      (pss_one (ps_ret (pv 2)))))
      pss_nil)
      (pss_cons (ps_asg (pe_op op_mod (pe_op op_add (pe_op op_mul (pe_ix (ixL K) (pv 0) pe_int (fun _ _ => rfl)) pe_int) pe_int) pe_int) (pg_sub (pv 0) pe_int set_list))
      (pss_cons (ps_set (i := 3) sc_law_choice.nd rfl (Or.inl rfl) (pe_op op_mod (pe_op op_add (pe_op op_add (pe_op op_mul (pe_ix (ixL K) (pv 0) pe_int (fun _ _ => rfl)) (pe_ix (ixL K) (pv 0) pe_int (fun _ _ => rfl))) (pe_op op_mul pe_int (pe_ix (ixL K) (pv 0) pe_int (fun _ _ => rfl)))) pe_int) pe_int))
      (pss_one (ps_ret (pe_op op_mod (pe_op op_fdiv (pv 3) pe_int) (pv 1))))))), ?_⟩
    refine ⟨_, rfl, a, _, 1, _, rfl, rfl, hL, g1, _, rfl, ?_⟩
    cases b with
    | true =>
      refine iteT ?_
      refine ⟨_, rfl, a, _, 0, _, rfl, rfl, hL, g0, _, rfl, _, _, rfl, rfl, h0, ?_⟩
      refine ⟨_, rfl, a, _, 0, _, rfl, rfl, hL, g0, _, rfl, _, _, rfl, rfl, ⟨h0, by omega⟩, ?_⟩
      refine ⟨_, rfl, a, _, 0, 0, rfl, rfl, hS, rfl, ?_⟩
      exact ⟨_, rfl, q _ _ (Int.emod_nonneg _ (by omega)) (Int.emod_lt_of_pos _ h0)⟩
    | false =>
      refine iteF ?_
      have k1 : (-(2 ^ 64) : Int) < 48271 ∧ (48271 : Int) < 2 ^ 64 := by decide
      refine ⟨_, rfl, a, _, 0, _, rfl, rfl, hL, g0, _, _, rfl, rfl, .inr k1, _, _, rfl, rfl, _, _, rfl, rfl, (by decide : (0 : Int) < 2147483647), ?_⟩
      refine ⟨_, rfl, a, _, 0, 0, rfl, rfl, hS, rfl, ?_⟩
      have z0 : 0 ≤ (c * 48271 + 29) % 2147483647 := Int.emod_nonneg _ (by decide)
      have z1 : (c * 48271 + 29) % 2147483647 < 2147483647 := Int.emod_lt_of_pos _ (by decide)
      have hL' : SqL K (upd H a (.lst [V.int ((c * 48271 + 29) % 2147483647), V.bl false])) a [V.int ((c * 48271 + 29) % 2147483647), V.bl false] := SqL.of upd_same
      have g0' : atI [V.int ((c * 48271 + 29) % 2147483647), V.bl false] 0 = some (.int ((c * 48271 + 29) % 2147483647)) := atI_nat (j := 0) rfl
      have k2 : (-(2 ^ 64) : Int) < (c * 48271 + 29) % 2147483647 ∧ (c * 48271 + 29) % 2147483647 < 2 ^ 64 := ⟨by omega, by omega⟩
      refine ⟨_, rfl, a, _, 0, _, rfl, rfl, hL', g0', _, rfl, a, _, 0, _, rfl, rfl, hL', g0', _, _, rfl, rfl, .inl k2, ?_⟩
      refine ⟨_, rfl, a, _, 0, _, rfl, rfl, hL', g0', _, _, rfl, rfl, .inr k2, _, _, rfl, rfl, _, _, rfl, rfl, _, _, rfl, rfl, (by decide : (0 : Int) < 2147483629), ?_⟩
      refine ⟨_, rfl, _, _, rfl, rfl, ⟨by decide, by decide⟩, _, rfl, _, _, rfl, rfl, h0, ?_⟩
      exact q _ _ (Int.emod_nonneg _ (by omega)) (Int.emod_lt_of_pos _ h0)
end
end Pg

namespace Pg
open PySem L2
section
variable {P : Program} {w : World} {K : PySem.W.Frag} {mg : Str → Option Value} {base : Heap} {ca : CA}
abbrev s_law_walk : Stmt := topS 22
theorem sc_law_walk : FnScope ["cell", "points", "plain", "state", "walk", "height", "left", "some", "step"] ["cell", "points", "plain"] (defScope s_law_walk) := ⟨rfl, rfl, rfl, by decide +kernel, rfl, by decide +kernel, by decide +kernel⟩
/-- some walk of so many points -/
def sp_law_walk (K : PySem.W.Frag) : Sp := fun vs H Q _ => ∃ (c n : Int) (b : Bool), vs = [.int c, .int n, .bl b] ∧ 0 ≤ n ∧ n ≤ 60 ∧
  ∀ (ws : List Stp) (H' : Hp) (q : Addr), run 0 ws = some 0 → (ws.length : Int) = n → Same H H' → H q = none → H' q = some (.lst (ws.map Stp.v)) → Q (.ref q) H'
theorem ok_law_walk (T : Txt K mg ca) (D : Def K mg "_law_walk" ["cell", "points", "plain"] s_law_walk) (G_law_choice : Known P w K mg base CX0 1 "_law_choice" ["state", "many"] (sp_law_choice K)) : Known P w K mg base CX0 2 "_law_walk" ["cell", "points", "plain"] (sp_law_walk K) := by
  refine D.known fun f fd F => F.ok sc_law_walk (fun vs H Q E h => ?_) (fun cdv A outer s H vs Q E hr h => ?_)
  · obtain ⟨_, _, _, rfl, _⟩ := h
    rfl
  · obtain ⟨c, n, b, rfl, h0, h1, q⟩ := h
    refine ⟨_, (pss_cons (ps_set (i := 3) sc_law_walk.nd rfl (Or.inl rfl) (pe_lst (pa_cons (pv 0) (pa_cons (pv 2) pa_nil))))
      (Evl.pss_cut (ps_if (pt_not (pt_val (pv 2)))
      (pss_one (ps_asg (pe_op op_mod (pv 0) pe_int) (pg_sub (pv 3) pe_int set_list)))
      pss_nil)
      (pss_cons (ps_set (i := 4) sc_law_walk.nd rfl (Or.inl rfl) (pe_lst pa_nil))
      (pss_cons (ps_set (i := 5) sc_law_walk.nd rfl (Or.inl rfl) pe_int)
      (pss_cons (ps_for PassesOwn.never rfl (pi_range3 (by rfl) T.z_range (pa_cons (pe_op op_sub (pv 1) pe_int) (pa_cons (pe_un un_neg pe_int) (pa_cons (pe_un un_neg pe_int) pa_nil)))) (pg_name (i := 6) sc_law_walk.nd rfl (Or.inl rfl))
      (pss_cons (ps_set (i := 7) sc_law_walk.nd rfl (Or.inl rfl) (pe_listRg rfl (by rfl) T.z_list (prg_1 (by rfl) T.z_range (pv 5))))
      (Evl.pss_cut (ps_if (pt_cmpR op_le (pv 5) (pv 6) (nomark _))
      (pss_one (ps_expr (peM K PySem.F.plainAttrs_list PySem.F.slot_list_append PySem.F.type_list_append mt_append (pv 7) (pa_cons pe_str pa_nil))))
      pss_nil)
      (Evl.pss_cut (ps_if (pt_cmpR op_lt (pv 5) (pv 6) (nomark _))
      (pss_one (ps_expr (peM K PySem.F.plainAttrs_list PySem.F.slot_list_append PySem.F.type_list_append mt_append (pv 7) (pa_cons pe_str pa_nil))))
      pss_nil)
      (pss_cons (ps_set (i := 8) sc_law_walk.nd rfl (Or.inl rfl) (pe_ix (ixL K) (pv 7) (pe_kc G_law_choice (hr.mono (by decide)) (by rfl) pass0 (pa_cons (pv 3) (pa_cons (pe_callB (callLen K) (by rfl) T.z_len PySem.boot_len (pa_cons (pv 7) pa_nil)) pa_nil))) (fun _ _ => rfl)))
      (pss_cons (ps_expr (peM K PySem.F.plainAttrs_list PySem.F.slot_list_append PySem.F.type_list_append mt_append (pv 4) (pa_cons (pv 8) pa_nil)))
      (pss_one (ps_if (pt_cmpR op_eq (pv 8) pe_str (nomark _))
      (pss_one (ps_set (i := 5) sc_law_walk.nd rfl (Or.inl rfl) (pe_op op_add (pv 5) pe_int)))
      (pss_one (ps_if (pt_cmpR op_ne (pv 8) pe_str (nomark _))
      (pss_one (ps_set (i := 5) sc_law_walk.nd rfl (Or.inl rfl) (pe_op op_sub (pv 5) pe_int)))
      pss_nil))))))))))
      (pss_one (ps_ret (pv 4)))))))), ?_⟩
    -- state = [cell, plain]
    refine ⟨_, rfl, _, rfl, (by show 2 ≤ sizeLine; decide), fun a ha => ?_⟩
    -- if not plain
    refine ⟨fun σ' H' => ∃ c', σ' = [some (.int c), some (.int n), some (.bl b), some (.ref a), none, none, none, none, none] ∧ H' = upd H a (.lst [.int c', .bl b]), ?_, ?_⟩
    · refine ⟨_, rfl, _, rfl, ?_⟩
      cases b with
      | true => exact iteF ⟨c, rfl, rfl⟩
      | false =>
        refine iteT ?_
        refine ⟨_, rfl, _, _, rfl, rfl, (by decide : (0 : Int) < 2147483647), _, rfl, a, _, 0, 0, rfl, rfl, upd_same, rfl, ?_⟩
        exact ⟨c % 2147483647, rfl, upd_upd⟩
    rintro σ' H' ⟨c1, rfl, rfl⟩
    -- walk = []; height = 0
    refine ⟨Nat.zero_le _, fun w hw => ?_⟩
    have naw : a ≠ w := ne_of_none upd_same hw
    have hwH : H w = none := by
      rw [upd_ne (Ne.symm naw)] at hw
      exact hw
    -- for left in range(points - 1, -1, -1)
    refine ⟨_, rfl, _, _, rfl, rfl, _, rfl, _, rfl, n - 1, -1, -1, (n - 1 - -1).toNat, rfl, RgC.neg (by omega) (by omega) (by decide) (by decide), ?_⟩
    refine for_rangeC (fun i σ H' => ∃ (ws : List Stp) (h : Nat) (c' : Int) (x6 x7 x8 : Option V), σ = [some (.int c), some (.int n), some (.bl b), some (.ref a), some (.ref w), some (.int (h : Int)), x6, x7, x8] ∧ run 0 ws = some h ∧ (h : Int) + i ≤ n ∧ ws.length = i ∧
      Same H H' ∧ H' a = some (.lst [.int c', .bl b]) ∧ H' w = some (.lst (ws.map Stp.v))) ?_ ?_ ?_
    · refine ⟨[], 0, c1, none, none, none, rfl, rfl, by simpa using h0, rfl, ?_, ?_, upd_same⟩
      · exact (sm_new ha).trans (sm_new hw)
      · rw [upd_ne naw, upd_same]
    · rintro i σ H' hi ⟨ws, h, c', x6, x7, x8, rfl, hrun, hle, hlen, hs, hA, hW⟩
      have hi' : (i : Int) < n := by omega
      -- some = list(range(height))
      refine ⟨_, rfl, _, rfl, ⟨by decide, by decide, by omega, by omega, by omega⟩, fun o ho => ?_⟩
      have nao : a ≠ o := ne_of_none hA ho
      have nwo : w ≠ o := ne_of_none hW ho
      let opts : List Stp := (List.range h).map Stp.num ++ ((if (h : Int) ≤ n - 1 + i * -1 then [.lone] else []) ++ (if (h : Int) < n - 1 + i * -1 then [.opn] else []))
      refine ⟨fun σ' H2 => σ' = [some (.int c), some (.int n), some (.bl b), some (.ref a), some (.ref w), some (.int (h : Int)), some (.int (n - 1 + i * -1)), some (.ref o), x8] ∧
        H2 = upd H' o (.lst (((List.range h).map Stp.num ++ (if (h : Int) ≤ n - 1 + i * -1 then [Stp.lone] else [])).map Stp.v)), ?_, ?_⟩
      · have e0 : rgV 0 (h : Int) = ((List.range h).map Stp.num).map Stp.v := by
          unfold rgV
          rw [List.map_map]
          have : ((h : Int) - 0).toNat = h := by omega
          rw [this]
          refine List.map_congr_left fun j _ => ?_
          show V.int (0 + (j : Int)) = V.int (j : Int)
          rw [Int.zero_add]
        refine ⟨_, rfl, _, rfl, _, _, rfl, rfl, _, rfl, ite2 (fun e => ?_) (fun e => ?_)⟩
        · have e1 := of_decide_eq_true e
          refine ⟨_, rfl, .inl ⟨rfl, _, SqL.of upd_same⟩, o, _, _, rfl, rfl, upd_same, szl (by rw [rgV_length]; omega), rfl, ?_⟩
          rw [upd_upd, if_pos e1, List.map_append, ← e0]
          rfl
        · have e1 : ¬ (h : Int) ≤ n - 1 + i * -1 := fun z => e (decide_eq_true z)
          refine ⟨rfl, ?_⟩
          rw [if_neg e1, List.append_nil, ← e0]
      rintro σ' H2 ⟨rfl, rfl⟩
      refine ⟨fun σ' H2 => σ' = [some (.int c), some (.int n), some (.bl b), some (.ref a), some (.ref w), some (.int (h : Int)), some (.int (n - 1 + i * -1)), some (.ref o), x8] ∧
        H2 = upd H' o (.lst (opts.map Stp.v)), ?_, ?_⟩
      · refine ⟨_, rfl, _, rfl, _, _, rfl, rfl, _, rfl, ite2 (fun e => ?_) (fun e => ?_)⟩
        · have e1 := of_decide_eq_true e
          refine ⟨_, rfl, .inl ⟨rfl, _, SqL.of upd_same⟩, o, _, _, rfl, rfl, upd_same, szl ?_, rfl, ?_⟩
          · rw [List.length_map, List.length_append, List.length_map, List.length_range]
            split <;> simp <;> omega
          · rw [upd_upd]
            show _ = upd H' o (.lst (List.map Stp.v ((List.range h).map Stp.num ++ (_ ++ _))))
            rw [if_pos e1, ← List.append_assoc, List.map_append (l₂ := [Stp.opn])]
            rfl
        · have e1 : ¬ (h : Int) < n - 1 + i * -1 := fun z => e (decide_eq_true z)
          refine ⟨rfl, ?_⟩
          show _ = upd H' o (.lst (List.map Stp.v ((List.range h).map Stp.num ++ (_ ++ _))))
          rw [if_neg e1, List.append_nil]
      rintro σ' H2 ⟨rfl, rfl⟩
      have hno : 0 < opts.length := by
        show 0 < ((List.range h).map Stp.num ++ (_ ++ _)).length
        by_cases z : h = 0
        · rw [if_pos (by omega)]
          simp
          omega
        · rw [List.length_append, List.length_map, List.length_range]
          omega
      have hno2 : opts.length ≤ 62 := by
        show ((List.range h).map Stp.num ++ (_ ++ _)).length ≤ 62
        rw [List.length_append, List.length_map, List.length_range, List.length_append]
        split <;> split <;> simp <;> omega
      -- step = some[_law_choice(state, len(some))]
      refine ⟨_, rfl, _, rfl, _, rfl, o, _, rfl, .inl (SqL.of upd_same), a, c', _, b, rfl, by rw [upd_ne nao]; exact hA, ?_, ?_, fun c2 r hr0 hr1 => ?_⟩
      · rw [List.length_map]; omega
      · rw [List.length_map]; omega
      rw [List.length_map] at hr1
      have hr2 : r.toNat < opts.length := by omega
      have hat : (opts.map Stp.v)[r.toNat]? = some (opts[r.toNat]).v := by rw [List.getElem?_map, List.getElem?_eq_getElem hr2]; rfl
      have ho2 : (upd (upd H' o (.lst (opts.map Stp.v))) a (.lst [.int c2, .bl b])) o = some (.lst (opts.map Stp.v)) := by rw [upd_ne (Ne.symm nao), upd_same]
      refine ⟨o, _, r, _, rfl, rfl, SqL.of ho2, at_of (j := r.toNat) (by omega) hat, ?_⟩
      have hW2 : (upd (upd H' o (.lst (opts.map Stp.v))) a (.lst [.int c2, .bl b])) w = some (.lst (ws.map Stp.v)) := by rw [upd_ne (Ne.symm naw), upd_ne nwo]; exact hW
      -- walk.append(step)
      refine ⟨_, rfl, .inl ⟨rfl, _, SqL.of hW2⟩, _, rfl, w, _, _, rfl, rfl, hW2, szl (by rw [List.length_map, hlen]; omega), ?_⟩
      have hmem : opts[r.toNat] ∈ opts := List.getElem_mem hr2
      have fin : ∀ (h2 : Nat) x6 x7 x8, run 0 (ws ++ [opts[r.toNat]]) = some h2 → (h2 : Int) + ((i + 1 : Nat) : Int) ≤ n → ∃ (ws2 : List Stp) (h : Nat) (c' : Int) (y6 y7 y8 : Option V), [some (V.int c), some (.int n), some (.bl b), some (.ref a), some (.ref w), some (.int (h2 : Int)), x6, x7, x8] =
          [some (V.int c), some (.int n), some (.bl b), some (.ref a), some (.ref w), some (.int (h : Int)), y6, y7, y8] ∧ run 0 ws2 = some h ∧ (h : Int) + ((i + 1 : Nat) : Int) ≤ n ∧ ws2.length = i + 1 ∧
          Same H (upd (upd (upd H' o (.lst (opts.map Stp.v))) a (.lst [.int c2, .bl b])) w (.lst (ws.map Stp.v ++ [(opts[r.toNat]).v]))) ∧
          (upd (upd (upd H' o (.lst (opts.map Stp.v))) a (.lst [.int c2, .bl b])) w (.lst (ws.map Stp.v ++ [(opts[r.toNat]).v]))) a = some (.lst [.int c', .bl b]) ∧
          (upd (upd (upd H' o (.lst (opts.map Stp.v))) a (.lst [.int c2, .bl b])) w (.lst (ws.map Stp.v ++ [(opts[r.toNat]).v]))) w = some (.lst (ws2.map Stp.v)) := fun h2 x6 x7 x8 r1 r2 =>
        ⟨ws ++ [opts[r.toNat]], h2, c2, x6, x7, x8, rfl, r1, r2, by rw [List.length_append, hlen]; rfl, sm_mut (sm_mut (hs.trans (sm_new ho)) ha) hwH, by rw [upd_ne naw, upd_same], by rw [upd_same, List.map_append]; rfl⟩
      revert fin
      generalize opts[r.toNat] = st at hmem ⊢
      intro fin
      cases st with
      | lone =>
        refine ⟨_, rfl, rfl, _, rfl, iteF ?_⟩
        refine ⟨_, rfl, rfl, _, rfl, iteF ?_⟩
        have hc : (h : Int) ≤ n - 1 + i * -1 := by
          rcases List.mem_append.mp hmem with m | m
          · obtain ⟨_, _, z⟩ := List.mem_map.mp m
            cases z
          · by_cases z : (h : Int) ≤ n - 1 + i * -1
            · exact z
            · rw [if_neg z, if_neg (by omega)] at m
              cases m
        exact fin h _ _ _ (run_lone hrun) (by omega)
      | opn =>
        refine ⟨_, rfl, rfl, _, rfl, iteT ?_⟩
        have hc : (h : Int) < n - 1 + i * -1 := by
          rcases List.mem_append.mp hmem with m | m
          · obtain ⟨_, _, z⟩ := List.mem_map.mp m
            cases z
          · by_cases z : (h : Int) < n - 1 + i * -1
            · exact z
            · rw [if_neg z] at m
              split at m <;> simp at m
        refine ⟨_, rfl, _, _, rfl, rfl, ?_⟩
        exact fin (h + 1) _ _ _ (run_opn hrun) (by omega)
      | num k =>
        refine ⟨_, rfl, rfl, _, rfl, iteF ?_⟩
        refine ⟨_, rfl, rfl, _, rfl, iteT ?_⟩
        have hk : k < h := by
          rcases List.mem_append.mp hmem with m | m
          · obtain ⟨j, hj, z⟩ := List.mem_map.mp m
            cases z
            exact List.mem_range.mp hj
          · exfalso
            split at m <;> split at m <;> simp at m
        refine ⟨_, rfl, _, _, rfl, rfl, ?_⟩
        have e : (h : Int) - 1 = ((h - 1 : Nat) : Int) := by omega
        have g := fin (h - 1) (some (.int (n - 1 + i * -1))) (some (.ref o)) (some (.int (k : Int))) (run_num hrun hk) (by omega)
        rw [← e] at g
        exact g
    · rintro σ H' ⟨ws, h, c', x6, x7, x8, rfl, hrun, hle, hlen, hs, hA, hW⟩
      have hz : h = 0 := by omega
      subst hz
      exact ⟨_, rfl, q ws H' w hrun (by omega) hs hwH hW⟩
end
end Pg

namespace Pg
open PySem L2
section
variable {P : Program} {w : World} {K : PySem.W.Frag} {mg : Str → Option Value} {base : Heap} {ca : CA}
abbrev s_law_points : Stmt := topS 24
theorem sc_law_points : FnScope ["cell", "most"] ["cell", "most"] (defScope s_law_points) := ⟨rfl, rfl, rfl, by decide +kernel, rfl, by decide +kernel, by decide +kernel⟩
def sp_law_points (K : PySem.W.Frag) : Sp := fun vs H Q _ => ∃ (c m : Int), vs = [.int c, .int m] ∧ 0 ≤ m ∧ m ≤ 60 ∧ ∀ n : Int, 0 ≤ n → n ≤ 60 → Q (.int n) H
theorem ok_law_points (T : Txt K mg ca) (D : Def K mg "_law_points" ["cell", "most"] s_law_points) : Known P w K mg base CX0 1 "_law_points" ["cell", "most"] (sp_law_points K) := by
  refine D.known fun f fd F => F.ok sc_law_points (fun vs H Q E h => ?_) (fun cdv A outer s H vs Q E hr h => ?_)
  · obtain ⟨_, _, rfl, _⟩ := h
    rfl
  · obtain ⟨c, m, rfl, h0, h1, q⟩ := h
    refine ⟨_, (pss_cons (ps_if (pt_cmpR op_eq (pe_op op_mod (pe_op op_fdiv (pv 0) pe_int) pe_int) pe_int (nomark _))
      (pss_one (ps_ret (pe_op op_mod (pe_op op_fdiv (pv 0) pe_int) pe_int)))
      pss_nil)
      (pss_one (ps_ret (pe_op op_mod (pv 0) (pe_op op_add (pv 1) pe_int))))), ?_⟩
    refine ⟨_, rfl, _, _, rfl, rfl, ⟨by decide, by decide⟩, _, _, rfl, rfl, (by decide : (0 : Int) < 8), rfl, _, rfl, ite2 (fun _ => ?_) (fun _ => ?_)⟩
    · refine ⟨_, rfl, _, _, rfl, rfl, ⟨by decide, by decide⟩, _, _, rfl, rfl, (by decide : (0 : Int) < 61), ?_⟩
      have a1 := Int.emod_nonneg (c / 512) (by decide : (61 : Int) ≠ 0)
      have a2 := Int.emod_lt_of_pos (c / 512) (by decide : (0 : Int) < 61)
      exact q _ a1 (by omega)
    · have hm : (0 : Int) < m + 1 := by omega
      refine ⟨_, rfl, _, rfl, _, _, rfl, rfl, _, _, rfl, rfl, hm, ?_⟩
      have a1 := Int.emod_nonneg c (by omega : (m + 1 : Int) ≠ 0)
      have a2 := Int.emod_lt_of_pos c hm
      exact q _ a1 (by omega)
end
end Pg

namespace Pg
open PySem L2
section
variable {P : Program} {w : World} {K : PySem.W.Frag} {mg : Str → Option Value} {base : Heap} {ca : CA}
abbrev s_law_drawn : Stmt := topS 25
theorem sc_law_drawn : FnScope ["script", "start", "most", "cell"] ["script", "start", "most"] (defScope s_law_drawn) := ⟨rfl, rfl, rfl, by decide +kernel, rfl, by decide +kernel, by decide +kernel⟩
/-- some walk -/
def sp_law_drawn (K : PySem.W.Frag) : Sp := fun vs H Q _ => ∃ (a : Addr) (ns : List Int) (k m : Int), vs = [.ref a, .int k, .int m] ∧ SqL K H a (ns.map V.int) ∧ 0 ≤ k ∧ 0 ≤ m ∧ m ≤ 60 ∧
  ∀ (ws : List Stp) (H' : Hp) (q : Addr), run 0 ws = some 0 → ws.length ≤ 60 → Same H H' → H q = none → H' q = some (.lst (ws.map Stp.v)) → Q (.ref q) H'
theorem ok_law_drawn (T : Txt K mg ca) (D : Def K mg "_law_drawn" ["script", "start", "most"] s_law_drawn) (G_law_cell_at : Known P w K mg base CX0 1 "_law_cell_at" ["script", "k"] (sp_law_cell_at K)) (G_law_walk : Known P w K mg base CX0 2 "_law_walk" ["cell", "points", "plain"] (sp_law_walk K)) (G_law_points : Known P w K mg base CX0 1 "_law_points" ["cell", "most"] (sp_law_points K)) : Known P w K mg base CX0 3 "_law_drawn" ["script", "start", "most"] (sp_law_drawn K) := by
  refine D.known fun f fd F => F.ok sc_law_drawn (fun vs H Q E h => ?_) (fun cdv A outer s H vs Q E hr h => ?_)
  · obtain ⟨_, _, _, _, rfl, _⟩ := h
    rfl
  · obtain ⟨a, ns, k, m, rfl, hS, hk, h0, h1, q⟩ := h
    refine ⟨_, (pss_cons (ps_set (i := 3) sc_law_drawn.nd rfl (Or.inl rfl) (pe_kc G_law_cell_at (hr.mono (by decide)) (by rfl) pass0 (pa_cons (pv 0) (pa_cons (pv 1) pa_nil))))
      (pss_one (ps_ret (pe_kc G_law_walk (hr.mono (by decide)) (by rfl) pass0 (pa_cons (pe_kc G_law_cell_at (hr.mono (by decide)) (by rfl) pass0 (pa_cons (pv 0) (pa_cons (pe_op op_add (pv 1) pe_int) pa_nil))) (pa_cons (pe_kc G_law_points (hr.mono (by decide)) (by rfl) pass0 (pa_cons (pv 3) (pa_cons (pv 2) pa_nil))) (pa_cons (pe_cmpR op_eq (pe_op op_mod (pe_op op_fdiv (pv 3) pe_int) pe_int) pe_int (nomark _)) pa_nil))))))), ?_⟩
    refine ⟨_, rfl, _, rfl, a, ns, k, rfl, hS, hk, ?_⟩
    refine ⟨_, rfl, _, rfl, _, _, rfl, rfl, a, ns, k + 1, rfl, hS, by omega, ?_⟩
    refine ⟨_, rfl, _, rfl, _, m, rfl, h0, h1, fun n n0 n1 => ?_⟩
    refine ⟨_, rfl, _, _, rfl, rfl, ⟨by decide, by decide⟩, _, _, rfl, rfl, (by decide : (0 : Int) < 2), rfl, ?_⟩
    exact ⟨_, n, _, rfl, n0, n1, fun ws H' p r1 r2 r3 r4 r5 => q ws H' p r1 (by omega) r3 r4 r5⟩
end
end Pg

namespace Pg
open PySem L2
section
variable {P : Program} {w : World} {K : PySem.W.Frag} {mg : Str → Option Value} {base : Heap} {ca : CA}
abbrev s_law_of_walk : Stmt := topS 23
theorem sc_law_of_walk : FnScope ["walk", "open_ones", "pairs", "point", "start", "one"] ["walk"] (defScope s_law_of_walk) := ⟨rfl, rfl, rfl, by decide +kernel, rfl, by decide +kernel, by decide +kernel⟩
/-- the pairing of a walk -/
def sp_law_of_walk (K : PySem.W.Frag) : Sp := fun vs H Q _ => ∃ (a : Addr) (ws : List Stp) (h : Nat), vs = [.ref a] ∧ SqL K H a (ws.map Stp.v) ∧ run 0 ws = some h ∧ ws.length ≤ 100 ∧
  ∀ (H' : Hp) (v : V), Same H H' → PairingAt H' v (ws.length : Int) (prs ws) → Q v H'
theorem ok_law_of_walk (T : Txt K mg ca) (D : Def K mg "_law_of_walk" ["walk"] s_law_of_walk) : Known P w K mg base CX0 1 "_law_of_walk" ["walk"] (sp_law_of_walk K) := by
  refine D.known fun f fd F => F.ok sc_law_of_walk (fun vs H Q E h => ?_) (fun cdv A outer s H vs Q E hr h => ?_)
  · obtain ⟨_, _, _, rfl, _⟩ := h
    rfl
  · obtain ⟨a, ws, h, rfl, hS, hrun, hlen, q⟩ := h
    refine ⟨_, (pss_cons (ps_set (i := 1) sc_law_of_walk.nd rfl (Or.inl rfl) (pe_lst pa_nil))
      (pss_cons (ps_set (i := 2) sc_law_of_walk.nd rfl (Or.inl rfl) (pe_lst pa_nil))
      (pss_cons (ps_for PassesOwn.never rfl (pi_range1 (by rfl) T.z_range (pa_cons (pe_callB (callLen K) (by rfl) T.z_len PySem.boot_len (pa_cons (pv 0) pa_nil)) pa_nil)) (pg_name (i := 3) sc_law_of_walk.nd rfl (Or.inl rfl))
      (pss_one (ps_if (pt_cmpR op_eq (pe_ix (ixL K) (pv 0) (pv 3) (fun _ _ => rfl)) pe_str (nomark _))
      (pss_one (ps_expr (peM K PySem.F.plainAttrs_list PySem.F.slot_list_append PySem.F.type_list_append mt_append (pv 1) (pa_cons (pv 3) pa_nil))))
      (pss_one (ps_if (pt_cmpR op_ne (pe_ix (ixL K) (pv 0) (pv 3) (fun _ _ => rfl)) pe_str (nomark _))
      (pss_cons (ps_set (i := 4) sc_law_of_walk.nd rfl (Or.inr rfl) (pe_ix (ixL K) (pv 1) (pe_ix (ixL K) (pv 0) (pv 3) (fun _ _ => rfl)) (fun _ _ => rfl)))
      (pss_cons (ps_setLc (i := 1) (own := [("one", 5)]) (g := gName 5) (tt := _) rfl sc_law_of_walk.nd rfl rfl (sw_true rfl rfl rfl (by decide +kernel)) (piL K (pv 1)) (blkOk_by (N := ["walk", "open_ones", "pairs", "point", "start", "one"]) (sc := defScope s_law_of_walk) (by decide +kernel)) (fun _ _ _ _ _ => (pg_name (i := 5) sc_law_of_walk.nd rfl (Or.inl rfl))) (fun _ _ _ _ _ => (pts_one (pt_cmpR op_ne (pv 5) (pv 4) (nomark _)))) (fun _ _ _ _ _ => (pv 5)))
      (pss_one (ps_expr (peM K PySem.F.plainAttrs_list PySem.F.slot_list_append PySem.F.type_list_append mt_append (pv 2) (pa_cons (pe_tup (pa_cons (pv 4) (pa_cons (pv 3) pa_nil))) pa_nil))))))
      pss_nil)))))
      (pss_one (ps_ret (pe_tup (pa_cons (pe_callB (callLen K) (by rfl) T.z_len PySem.boot_len (pa_cons (pv 0) pa_nil)) (pa_cons (pe_callTy (callTup K) (by rfl) T.z_tuple (by decide +kernel) (pa_cons (pe_callB (cr_sortedPP K) (by rfl) T.z_sorted (by decide +kernel) (pa_cons (pv 2) pa_nil)) pa_nil)) pa_nil)))))))), ?_⟩
    refine ⟨Nat.zero_le _, fun o ho => ?_⟩
    refine ⟨Nat.zero_le _, fun r hr' => ?_⟩
    have nor : o ≠ r := ne_of_none upd_same hr'
    have hrH : H r = none := by
      rw [upd_ne (Ne.symm nor)] at hr'
      exact hr'
    have s1 := (sm_new (o := .lst []) ho).trans (sm_new (o := .lst []) hr')
    -- for point in range(len(walk))
    refine ⟨_, rfl, a, _, rfl, .inl (s1.seq hS), _, rfl, by omega, (by rw [List.length_map]; omega), ?_⟩
    refine for_range (lo := 0) (n := ((ws.map Stp.v).length : Int).toNat) (fun i σ H' => ∃ (o : Addr) (xs : List V) (x3 x4 x5 : Option V), σ = [some (.ref a), some (.ref o), some (.ref r), x3, x4, x5] ∧
      H o = none ∧ o ≠ r ∧ Same H H' ∧ H' o = some (.lst ((osAt ws i).map V.int)) ∧ H' r = some (.lst xs) ∧ PairsAt H' xs (prAt ws i)) ?_ ?_ ?_
    · exact ⟨o, [], none, none, none, rfl, ho, nor, s1, (by rw [upd_ne nor, upd_same]; rfl), upd_same, .nil⟩
    · rintro i σ H' hi ⟨o, xs, x3, x4, x5, rfl, ho, nor, hs, hO, hR, hP⟩
      have hi' : i < ws.length := by
        rw [List.length_map] at hi
        omega
      obtain ⟨st, hst, hv⟩ := step_at hi'
      have hA : SqL K H' a (ws.map Stp.v) := hs.seq hS
      have hat : atI (ws.map Stp.v) (0 + (i : Int)) = some st.v := at_of (j := i) (by omega) hv
      have e1 := os_succ hst
      have e2 := pr_succ hst
      have hos := os_le ws i
      have hpr := pr_le ws i
      refine ⟨_, rfl, _, rfl, a, _, _, _, rfl, rfl, hA, hat, ?_⟩
      cases st with
      | opn =>
        refine ⟨rfl, _, rfl, iteT ?_⟩
        refine ⟨_, rfl, .inl ⟨rfl, _, SqL.of hO⟩, _, rfl, o, _, _, rfl, rfl, hO, szl (by rw [List.length_map]; omega), ?_⟩
        refine ⟨o, xs, _, _, _, rfl, ho, nor, sm_mut hs ho, ?_, (by rw [upd_ne (Ne.symm nor)]; exact hR), ?_⟩
        · rw [upd_same, e1]
          show _ = some (HO.lst ((osAt ws i ++ [(i : Int)]).map V.int))
          rw [List.map_append, Int.zero_add]
          rfl
        · rw [e2]
          show PairsAt _ xs (prAt ws i ++ [])
          rw [List.append_nil]
          exact upd_pairs hO hP
      | lone =>
        refine ⟨rfl, _, rfl, iteF ?_⟩
        refine ⟨_, rfl, _, rfl, a, _, _, _, rfl, rfl, hA, hat, rfl, _, rfl, iteF ?_⟩
        refine ⟨o, xs, _, _, _, rfl, ho, nor, hs, ?_, hR, ?_⟩
        · rw [e1]
          exact hO
        · rw [e2]
          show PairsAt _ xs (prAt ws i ++ [])
          rw [List.append_nil]
          exact hP
      | num k =>
        refine ⟨rfl, _, rfl, iteF ?_⟩
        refine ⟨_, rfl, _, rfl, a, _, _, _, rfl, rfl, hA, hat, rfl, _, rfl, iteT ?_⟩
        -- start = open_ones[walk[point]]
        have hk := os_num hrun hst
        have hat2 : atI ((osAt ws i).map V.int) (k : Int) = some (.int ((osAt ws i).getD k 0)) := atI_nat (by
          rw [List.getElem?_map, List.getElem?_eq_getElem hk, List.getD_eq_getElem?_getD, List.getElem?_eq_getElem hk]
          rfl)
        refine ⟨_, rfl, _, rfl, _, rfl, a, _, _, _, rfl, rfl, hA, hat, o, _, _, _, rfl, rfl, SqL.of hO, hat2, ?_⟩
        -- open_ones = [one for one in open_ones if one != start]
        with_reducible refine gn (sq (asg ?_))
        refine lcL (K := K) (a := o) (xs := (osAt ws i).map V.int) (fun x => !decide (x = .int ((osAt ws i).getD k 0))) id (fun Q q => ⟨_, rfl, q⟩) (SqL.of hO) (by rw [List.length_map]; omega) (fun x => rfl) (fun x hx H1 s1 Q q => ?_) (fun x hx _ H1 s1 Q q => ⟨_, rfl, q⟩) fun p hp => ?_
        · obtain ⟨z, hz, rfl⟩ := List.mem_map.mp hx
          exact ⟨_, rfl, _, rfl, rfl, _, rfl, q⟩
        have nrp : r ≠ p := ne_of_none hR hp
        -- pairs.append((start, point))
        refine ⟨_, rfl, .inl ⟨rfl, _, SqL.of (by rw [upd_ne nrp]; exact hR)⟩, _, rfl, _, rfl, (by show 2 ≤ sizeLine; decide), fun t ht => ?_⟩
        have hpH : H p = none := hs.free hp
        have hR2 : (upd H' p (.lst (((((osAt ws i).map V.int).filter fun x => !decide (x = .int ((osAt ws i).getD k 0))).map id)))) r = some (.lst xs) := by rw [upd_ne nrp]; exact hR
        have nrt : r ≠ t := ne_of_none hR2 ht
        have npt : p ≠ t := ne_of_none upd_same ht
        have hT : H' t = none := by
          rw [upd_ne (Ne.symm npt)] at ht
          exact ht
        refine ⟨r, _, _, rfl, rfl, (by rw [upd_ne nrt]; exact hR2), szl (by rw [paired_length hP]; omega), ?_⟩
        refine ⟨p, _, _, _, _, rfl, hpH, Ne.symm nrp, ?_, ?_, upd_same, ?_⟩
        · exact sm_mut ((hs.trans (sm_new hp)).trans (sm_new ht)) hrH
        · rw [upd_ne (Ne.symm nrp), upd_ne npt, upd_same, List.map_id, e1, List.filter_map]
          show _ = some (HO.lst (((osAt ws i).eraseIdx k).map V.int))
          rw [← filter_ne_eraseIdx _ k (osAt_asc ws i).nodup hk]
          congr 3
          refine List.filter_congr fun x _ => ?_
          show (!decide (V.int x = V.int ((osAt ws i).getD k 0))) = !decide (x = (osAt ws i).getD k 0)
          congr 1
          rw [decide_eq_decide]
          exact ⟨fun z => V.int.inj z, fun z => by rw [z]⟩
        · rw [e2]
          show PairsAt _ _ (prAt ws i ++ [((osAt ws i).getD k 0, (i : Int))])
          refine paired_append (upd_pairs (o := .lst xs) (by rw [upd_ne nrt, upd_ne nrp]; exact hR) ((PairsAt.mono (sm_new hp) hP).mono (sm_new ht))) (.cons ⟨t, rfl, ?_⟩ .nil)
          rw [upd_ne (Ne.symm nrt), upd_same, Int.zero_add]
    · rintro σ H' ⟨o, xs, x3, x4, x5, rfl, ho, nor, hs, hO, hR, hP⟩
      have hA : SqL K H' a (ws.map Stp.v) := hs.seq hS
      have e : (((ws.map Stp.v).length : Int)).toNat = ws.length := by
        rw [List.length_map]
        omega
      rw [e, prAt_all] at hP
      -- return (len(walk), tuple(sorted(pairs)))
      refine ⟨_, rfl, a, _, rfl, .inl hA, _, rfl, r, xs, _, rfl, SqL.of hR, hP, fun ys p hy hperm hp => ?_⟩
      have hlen2 := paired_length hy
      refine ⟨p, ys, rfl, .inl ⟨SqL.of upd_same, fun t ht => ?_⟩⟩
      refine ⟨(by show 2 ≤ sizeLine; decide), fun u hu => ?_⟩
      refine q _ _ (((hs.trans (sm_new hp)).trans (sm_new ht)).trans (sm_new hu)) ⟨u, t, ys, rfl, ?_, ?_, ?_⟩
      · rw [upd_same, List.length_map]
      · rw [upd_ne (ne_of_none upd_same hu), upd_same]
      · exact ((hy.mono (sm_new hp)).mono (sm_new ht)).mono (sm_new hu)
end
end Pg

namespace Pg
open PySem L2
section
variable {P : Program} {w : World} {K : PySem.W.Frag} {mg : Str → Option Value} {base : Heap} {ca : CA}
abbrev s_law_goes_on : Stmt := topS 28
theorem sc_law_goes_on : FnScope ["points", "rows", "left", "last", "row", "h"] ["points"] (defScope s_law_goes_on) := ⟨rfl, rfl, rfl, by decide +kernel, rfl, by decide +kernel, by decide +kernel⟩
/-- the law's own table -/
def sp_law_goes_on (K : PySem.W.Frag) : Sp := fun vs H Q _ => ∃ n : Nat, vs = [.int (n : Int)] ∧ n ≤ 60 ∧ ∀ (H' : Hp) (t : Addr), Same H H' → H t = none → TabAt H' t n (n + 1) → Q (.ref t) H'
theorem ok_law_goes_on (T : Txt K mg ca) (D : Def K mg "_law_goes_on" ["points"] s_law_goes_on) : Known P w K mg base CX0 1 "_law_goes_on" ["points"] (sp_law_goes_on K) := by
  refine D.known fun f fd F => F.ok sc_law_goes_on (fun vs H Q E h => ?_) (fun cdv A outer s H vs Q E hr h => ?_)
  · obtain ⟨_, rfl, _⟩ := h
    rfl
  · obtain ⟨n, rfl, h60, q⟩ := h
    refine ⟨_, (pss_cons (ps_set (i := 1) sc_law_goes_on.nd rfl (Or.inl rfl) (pe_lst (pa_cons (pe_op op_cat (pe_lst (pa_cons pe_int pa_nil)) (pe_op op_rep (pe_lst (pa_cons pe_int pa_nil)) (pe_op op_add (pv 0) pe_int))) pa_nil)))
      (pss_cons (ps_for PassesOwn.never rfl (pi_range1 (by rfl) T.z_range (pa_cons (pv 0) pa_nil)) (pg_name (i := 2) sc_law_goes_on.nd rfl (Or.inl rfl))
      (pss_cons (ps_set (i := 3) sc_law_goes_on.nd rfl (Or.inl rfl) (pe_op op_cat (pe_ix (ixL K) (pv 1) (pe_un un_neg pe_int) (fun _ _ => rfl)) (pe_lst (pa_cons pe_int pa_nil))))
      (pss_cons (ps_set (i := 4) sc_law_goes_on.nd rfl (Or.inl rfl) (pe_lst pa_nil))
      (pss_cons (ps_for PassesOwn.never rfl (pi_range1 (by rfl) T.z_range (pa_cons (pe_op op_add (pv 0) pe_int) pa_nil)) (pg_name (i := 5) sc_law_goes_on.nd rfl (Or.inl rfl))
      (pss_one (ps_expr (peM K PySem.F.plainAttrs_list PySem.F.slot_list_append PySem.F.type_list_append mt_append (pv 4) (pa_cons (pe_op op_add (pe_op op_add (pe_ix (ixL K) (pv 3) (pv 5) (fun _ _ => rfl)) (pe_ix (ixL K) (pv 3) (pe_op op_add (pv 5) pe_int) (fun _ _ => rfl))) (pe_op op_mul (pv 5) (pe_ix (ixL K) (pv 3) (pe_op op_sub (pv 5) pe_int) (fun _ _ => rfl)))) pa_nil)))))
      (pss_one (ps_expr (peM K PySem.F.plainAttrs_list PySem.F.slot_list_append PySem.F.type_list_append mt_append (pv 1) (pa_cons (pv 4) pa_nil))))))))
      (pss_one (ps_ret (pv 1))))), ?_⟩
    refine ⟨(by show 1 ≤ sizeLine; decide), fun p1 hp1 => ?_⟩
    refine ⟨(by show 1 ≤ sizeLine; decide), fun p2 hp2 => ?_⟩
    refine ⟨_, rfl, _, _, rfl, rfl, ?_⟩
    have hn1 : ((n : Int) + 1).toNat = n + 1 := by omega
    have hn2 : ((n : Int) + 2).toNat = n + 2 := by omega
    refine ⟨p2, _, _, rfl, rfl, upd_same, by omega, by omega, ?_, fun p3 hp3 => ?_⟩
    · rw [hn1]
      show 1 * (n + 1) ≤ sizeLine
      exact sz (by omega)
    rw [hn1]
    have h12 : (upd (upd H p1 (.lst [.int 1])) p2 (.lst [.int 0])) p1 = some (.lst [.int 1]) := by
      rw [upd_ne (ne_of_none upd_same hp2), upd_same]
    refine ⟨p1, p3, _, _, rfl, rfl, by rw [upd_ne (ne_of_none h12 hp3)]; exact h12, upd_same, ?_, fun p4 hp4 => ?_⟩
    · rw [rep_flat, List.length_replicate]
      exact sz (by show 1 + (n + 1) ≤ 100000; omega)
    rw [← rowV_zero]
    refine ⟨(by show 1 ≤ sizeLine; decide), fun t ht => ?_⟩
    have s0 : Same H (upd (upd (upd (upd H p1 (.lst [.int 1])) p2 (.lst [.int 0])) p3 (.lst (List.replicate (n + 1) [V.int 0]).flatten)) p4 (.lst (rowV n 0))) := (((sm_new hp1).trans (sm_new hp2)).trans (sm_new hp3)).trans (sm_new hp4)
    have htH : H t = none := s0.free ht
    refine ⟨_, rfl, _, rfl, by omega, by omega, ?_⟩
    refine for_range (lo := 0) (n := ((n : Int)).toNat) (fun i σ H' => ∃ x2 x3 x4 x5, σ = [some (.int (n : Int)), some (.ref t), x2, x3, x4, x5] ∧ Same H H' ∧ TabAt H' t n (i + 1)) ?_ ?_ ?_
    · refine ⟨none, none, none, none, rfl, s0.trans (sm_new ht), ⟨_, upd_same, rfl, fun l hl => ?_⟩⟩
      have e : l = 0 := by omega
      subst e
      refine ⟨p4, rfl, ?_⟩
      rw [upd_ne (ne_of_none upd_same ht), upd_same]
    · rintro i σ H' hi ⟨x2, x3, x4, x5, rfl, hs, ⟨rs, hT, hlen, hrow⟩⟩
      have hi' : i < n := by omega
      obtain ⟨a, ha, hA⟩ := hrow i (by omega)
      -- last = rows[-1] + [0]
      refine ⟨_, rfl, _, rfl, t, _, _, _, rfl, rfl, SqL.of hT, at_end hlen ha, ?_⟩
      refine ⟨(by show 1 ≤ sizeLine; decide), fun z hz => ?_⟩
      refine ⟨a, z, _, _, rfl, rfl, sm_new hz _ _ hA, upd_same, by rw [rowV_len]; exact sz (by show n + 2 + 1 ≤ 100000; omega), fun b hb => ?_⟩
      have hLast : rowV n i ++ [V.int 0] = rowI i (n + 3) := by
        rw [rowI_succ i (n + 2), cnt_big (show i < n + 2 by omega)]
        rfl
      have hatL : ∀ k, k < n + 3 → (rowV n i ++ [V.int 0])[k]? = some (.int (cnt i k : Nat)) := fun k hk => by
        rw [hLast]
        unfold rowI
        rw [List.getElem?_map, List.getElem?_range hk]
        rfl
      have s1 := (sm_new (o := .lst [.int 0]) hz).trans (sm_new (o := .lst (rowV n i ++ [V.int 0])) hb)
      refine ⟨Nat.zero_le _, fun r hr' => ?_⟩
      have hB : (upd (upd H' z (.lst [.int 0])) b (.lst (rowV n i ++ [V.int 0]))) b = some (.lst (rowV n i ++ [V.int 0])) := upd_same
      have nbr : b ≠ r := ne_of_none hB hr'
      have ntr : t ≠ r := ne_of_none (s1 _ _ hT) hr'
      refine ⟨_, rfl, _, _, rfl, rfl, _, rfl, by omega, by omega, ?_⟩
      refine for_range (lo := 0) (n := ((n : Int) + 2).toNat) (fun j σ H2 => ∃ x5, σ = [some (.int (n : Int)), some (.ref t), some (.int (0 + (i : Int))), some (.ref b), some (.ref r), x5] ∧ H2 = upd (upd (upd H' z (.lst [.int 0])) b (.lst (rowV n i ++ [V.int 0]))) r (.lst (rowI (i + 1) j))) ?_ ?_ ?_
      · exact ⟨_, rfl, rfl⟩
      · rintro j σ H2 hj ⟨x5, rfl, rfl⟩
        have hj' : j < n + 2 := by omega
        have hB2 : (upd (upd (upd H' z (.lst [.int 0])) b (.lst (rowV n i ++ [V.int 0]))) r (.lst (rowI (i + 1) j))) b = some (.lst (rowV n i ++ [V.int 0])) := by
          rw [upd_ne nbr]
          exact hB
        refine ⟨_, rfl, .inl ⟨rfl, _, SqL.of upd_same⟩, ?_⟩
        refine ⟨_, rfl, _, rfl, b, _, _, _, rfl, rfl, SqL.of hB2, at_of (j := j) (by omega) (hatL j (by omega)), ?_⟩
        refine ⟨_, rfl, _, rfl, _, _, rfl, rfl, b, _, _, _, rfl, rfl, SqL.of hB2, at_of (j := j + 1) (by omega) (hatL (j + 1) (by omega)), ?_⟩
        refine ⟨_, _, rfl, rfl, ?_⟩
        have hat3 : ∃ y : Int, atI (rowV n i ++ [V.int 0]) ((0 : Int) + (j : Int) - 1) = some (.int y) ∧ ((0 : Int) + (j : Int)) * y = if 0 < j then (j : Int) * (cnt i (j - 1) : Int) else 0 := by
          by_cases c : 0 < j
          · refine ⟨(cnt i (j - 1) : Nat), at_of (j := j - 1) (by omega) (hatL (j - 1) (by omega)), ?_⟩
            rw [if_pos c, Int.zero_add]
          · have e : j = 0 := by omega
            subst e
            exact ⟨0, atI_last (rowV n i) (V.int 0), by simp⟩
        obtain ⟨y, hy, hmul⟩ := hat3
        refine ⟨_, rfl, _, rfl, _, rfl, _, _, rfl, rfl, b, _, _, _, rfl, rfl, SqL.of hB2, hy, _, _, rfl, rfl, .inl ⟨by omega, by omega⟩, _, _, rfl, rfl, ?_⟩
        refine ⟨r, _, _, rfl, rfl, upd_same, szl (by rw [rowI_len]; omega), ?_⟩
        refine ⟨_, rfl, ?_⟩
        rw [upd_upd, rowI_succ, ← cnt_step, ← hmul]
      · rintro σ H2 ⟨x5, rfl, rfl⟩
        rw [hn2]
        have e2 : rowI (i + 1) (n + 2) = rowV n (i + 1) := rfl
        rw [e2]
        have hT2 : (upd (upd (upd H' z (.lst [.int 0])) b (.lst (rowV n i ++ [V.int 0]))) r (.lst (rowV n (i + 1)))) t = some (.lst rs) := by
          rw [upd_ne ntr]
          exact s1 _ _ hT
        have s2 := s1.trans (sm_new (o := .lst (rowV n (i + 1))) hr')
        refine ⟨_, rfl, .inl ⟨rfl, _, SqL.of hT2⟩, _, rfl, t, _, _, rfl, rfl, hT2, szl (by omega), ?_⟩
        refine ⟨_, _, _, _, rfl, sm_mut (hs.trans s2) htH, ⟨_, upd_same, by rw [List.length_append, hlen]; rfl, fun l hl => ?_⟩⟩
        by_cases c : l < i + 1
        · obtain ⟨b', hb', hB'⟩ := hrow l c
          refine ⟨b', by rw [List.getElem?_append_left (by omega)]; exact hb', ?_⟩
          rw [upd_ne (tab_ne hT hb' hB' (by omega))]
          exact s2 _ _ hB'
        · have e : l = i + 1 := by omega
          subst e
          refine ⟨r, by rw [List.getElem?_append_right (by omega), hlen, Nat.sub_self]; rfl, ?_⟩
          rw [upd_ne (Ne.symm ntr), upd_same]
    · rintro σ H' ⟨x2, x3, x4, x5, rfl, hs, hT⟩
      refine ⟨_, rfl, ?_⟩
      rw [show ((n : Int)).toNat = n by omega] at hT
      exact q H' t hs htH hT
end
end Pg

namespace Pg
open PySem L2
section
variable {P : Program} {w : World} {K : PySem.W.Frag} {mg : Str → Option Value} {base : Heap} {ca : CA}
abbrev s_law_number : Stmt := topS 29
theorem sc_law_number : FnScope ["walk", "rows", "height", "found", "k", "row"] ["walk"] (defScope s_law_number) := ⟨rfl, rfl, rfl, by decide +kernel, rfl, by decide +kernel, by decide +kernel⟩
/-- the number of a walk, as the law reckons it -/
def sp_law_number (K : PySem.W.Frag) : Sp := fun vs H Q _ => ∃ (a : Addr) (ws : List Stp), vs = [.ref a] ∧ SqL K H a (ws.map Stp.v) ∧ run 0 ws = some 0 ∧ ws.length ≤ 60 ∧ ∀ H', Same H H' → Q (.int (rk 0 ws : Nat)) H'
theorem ok_law_number (T : Txt K mg ca) (D : Def K mg "_law_number" ["walk"] s_law_number) (G_law_goes_on : Known P w K mg base CX0 1 "_law_goes_on" ["points"] (sp_law_goes_on K)) : Known P w K mg base CX0 2 "_law_number" ["walk"] (sp_law_number K) := by
  refine D.known fun f fd F => F.ok sc_law_number (fun vs H Q E h => ?_) (fun cdv A outer s H vs Q E hr h => ?_)
  · obtain ⟨_, _, rfl, _⟩ := h
    rfl
  · obtain ⟨a, ws, rfl, hS, hrun, h60, q⟩ := h
    have hml : (ws.map Stp.v).length = ws.length := List.length_map _
    refine ⟨_, (pss_cons (ps_set (i := 1) sc_law_number.nd rfl (Or.inl rfl) (pe_kc G_law_goes_on (hr.mono (by decide)) (by rfl) pass0 (pa_cons (pe_callB (callLen K) (by rfl) T.z_len PySem.boot_len (pa_cons (pv 0) pa_nil)) pa_nil)))
      (pss_cons (ps_set (i := 2) sc_law_number.nd rfl (Or.inl rfl) pe_int)
      (pss_cons (ps_set (i := 3) sc_law_number.nd rfl (Or.inl rfl) pe_int)
      (pss_cons (ps_for PassesOwn.never rfl (pi_range1 (by rfl) T.z_range (pa_cons (pe_callB (callLen K) (by rfl) T.z_len PySem.boot_len (pa_cons (pv 0) pa_nil)) pa_nil)) (pg_name (i := 4) sc_law_number.nd rfl (Or.inl rfl))
      (pss_cons (ps_set (i := 5) sc_law_number.nd rfl (Or.inl rfl) (pe_ix (ixL K) (pv 1) (pe_op op_sub (pe_op op_sub (pe_callB (callLen K) (by rfl) T.z_len PySem.boot_len (pa_cons (pv 0) pa_nil)) pe_int) (pv 4)) (fun _ _ => rfl)))
      (pss_one (ps_if (pt_cmpR op_eq (pe_ix (ixL K) (pv 0) (pv 4) (fun _ _ => rfl)) pe_str (nomark _))
      (pss_cons (ps_set (i := 3) sc_law_number.nd rfl (Or.inl rfl) (pe_op op_add (pv 3) (pe_ix (ixL K) (pv 5) (pv 2) (fun _ _ => rfl))))
      (pss_one (ps_set (i := 2) sc_law_number.nd rfl (Or.inl rfl) (pe_op op_add (pv 2) pe_int))))
      (pss_one (ps_if (pt_cmpR op_ne (pe_ix (ixL K) (pv 0) (pv 4) (fun _ _ => rfl)) pe_str (nomark _))
      (pss_cons (ps_set (i := 3) sc_law_number.nd rfl (Or.inl rfl) (pe_op op_add (pe_op op_add (pv 3) (pe_ix (ixL K) (pv 5) (pv 2) (fun _ _ => rfl))) (pe_ix (ixL K) (pv 5) (pe_op op_add (pv 2) pe_int) (fun _ _ => rfl))))
      (pss_cons (ps_set (i := 3) sc_law_number.nd rfl (Or.inl rfl) (pe_op op_add (pv 3) (pe_op op_mul (pe_ix (ixL K) (pv 0) (pv 4) (fun _ _ => rfl)) (pe_ix (ixL K) (pv 5) (pe_op op_sub (pv 2) pe_int) (fun _ _ => rfl)))))
      (pss_one (ps_set (i := 2) sc_law_number.nd rfl (Or.inl rfl) (pe_op op_sub (pv 2) pe_int)))))
      pss_nil))))))
      (pss_one (ps_ret (pv 3))))))), ?_⟩
    refine ⟨_, rfl, a, _, rfl, .inl hS, ws.length, by rw [hml], h60, fun H1 t s1 ht ⟨rs, hT, hlen, hrow⟩ => ?_⟩
    refine ⟨_, rfl, a, _, rfl, .inl (s1.seq hS), _, rfl, by omega, by omega, ?_⟩
    refine for_range (lo := 0) (n := ((ws.map Stp.v).length : Int).toNat) (fun i σ H' => ∃ (c h : Nat) (x4 x5 : Option V), σ = [some (.ref a), some (.ref t), some (.int (h : Int)), some (.int (c : Int)), x4, x5] ∧ H' = H1 ∧
      run h (ws.drop i) = some 0 ∧ h ≤ i ∧ c + rk h (ws.drop i) = rk 0 ws) ?_ ?_ ?_
    · exact ⟨0, 0, none, none, rfl, rfl, hrun, Nat.le_refl _, by rw [List.drop_zero]; exact Nat.zero_add _⟩
    · rintro i σ H' hi ⟨c, h, x4, x5, rfl, rfl, hr2, hhi, hc⟩
      have hi' : i < ws.length := by omega
      obtain ⟨st, hst, hv⟩ := step_at hi'
      have hd := drop_step hst
      rw [hd] at hr2 hc
      obtain ⟨l, hl⟩ : ∃ l : Nat, (ws.drop (i + 1)).length = l := ⟨_, rfl⟩
      have hl2 : ws.length - 1 - i = l := by rw [← hl, List.length_drop]; omega
      obtain ⟨_, hr3⟩ := opts_has hr2
      have hc2 : c + (off l (opts h) st + rk (beh h st) (ws.drop (i + 1))) = rk 0 ws := by
        rw [← hc, ← hl]
        rfl
      obtain ⟨al, hal, hAl⟩ := hrow l (by omega)
      have hA := s1.seq hS
      have hat : atI (ws.map Stp.v) (0 + (i : Int)) = some st.v := at_of (j := i) (by omega) hv
      have hrw : ∀ k, k < ws.length + 2 → (rowV ws.length l)[k]? = some (.int (cnt l k : Nat)) := fun k hk => rowV_at hk
      -- row = rows[len(walk) - 1 - k]
      refine ⟨_, rfl, _, rfl, a, _, rfl, .inl hA, _, _, rfl, rfl, _, rfl, _, _, rfl, rfl, t, _, _, _, rfl, rfl, SqL.of hT, at_of (j := l) (by rw [hml]; omega) hal, ?_⟩
      cases st with
      | opn =>
        rw [off_opn] at hc2
        refine ⟨_, rfl, _, rfl, a, _, _, _, rfl, rfl, hA, hat, rfl, _, rfl, iteT ?_⟩
        refine ⟨_, rfl, _, rfl, _, rfl, al, _, _, _, rfl, rfl, SqL.of hAl, atI_nat (hrw h (by omega)), _, _, rfl, rfl, ?_⟩
        refine ⟨_, rfl, _, _, rfl, rfl, ?_⟩
        refine ⟨c + cnt l h, h + 1, some (.int (0 + (i : Int))), some (.ref al), rfl, rfl, hr3, by omega, ?_⟩
        rw [Nat.add_assoc]
        exact hc2
      | lone =>
        rw [off_lone, Nat.zero_add] at hc2
        refine ⟨_, rfl, _, rfl, a, _, _, _, rfl, rfl, hA, hat, rfl, _, rfl, iteF ?_⟩
        refine ⟨_, rfl, _, rfl, a, _, _, _, rfl, rfl, hA, hat, rfl, _, rfl, iteF ?_⟩
        exact ⟨c, h, _, _, rfl, rfl, hr3, by omega, hc2⟩
      | num k =>
        have hk : k < h := by
          have e2 : (if k < h then run (h - 1) (ws.drop (i + 1)) else none) = some 0 := hr2
          by_cases z : k < h
          · exact z
          · rw [if_neg z] at e2
            cases e2
        rw [off_num hk] at hc2
        refine ⟨_, rfl, _, rfl, a, _, _, _, rfl, rfl, hA, hat, rfl, _, rfl, iteF ?_⟩
        refine ⟨_, rfl, _, rfl, a, _, _, _, rfl, rfl, hA, hat, rfl, _, rfl, iteT ?_⟩
        refine ⟨_, rfl, _, rfl, _, rfl, al, _, _, _, rfl, rfl, SqL.of hAl, atI_nat (hrw h (by omega)), _, _, rfl, rfl, ?_⟩
        refine ⟨_, rfl, _, rfl, _, _, rfl, rfl, al, _, _, _, rfl, rfl, SqL.of hAl, at_of (j := h + 1) (by omega) (hrw (h + 1) (by omega)), _, _, rfl, rfl, ?_⟩
        refine ⟨_, rfl, _, rfl, _, rfl, a, _, _, _, rfl, rfl, hA, hat, _, rfl, _, rfl, _, _, rfl, rfl, al, _, _, _, rfl, rfl, SqL.of hAl, at_of (j := h - 1) (by omega) (hrw (h - 1) (by omega)), _, _, rfl, rfl, .inl ⟨by omega, by omega⟩, _, _, rfl, rfl, ?_⟩
        refine ⟨_, rfl, _, _, rfl, rfl, ?_⟩
        refine ⟨c + cnt l h + cnt l (h + 1) + k * cnt l (h - 1), h - 1, some (.int (0 + (i : Int))), some (.ref al), ?_, rfl, hr3, by omega, ?_⟩
        · have e1 : ((h - 1 : Nat) : Int) = (h : Int) - 1 := by omega
          rw [e1]
          push_cast
          rfl
        · have e : beh h (.num k) = h - 1 := rfl
          rw [e] at hc2
          omega
    · rintro σ H' ⟨c, h, x4, x5, rfl, rfl, hr2, hhi, hc⟩
      rw [show ((ws.map Stp.v).length : Int).toNat = ws.length by omega, List.drop_length] at hc
      have e : c = rk 0 ws := by
        rw [← hc]
        rfl
      refine ⟨_, rfl, ?_⟩
      rw [e]
      exact q H' s1
end
end Pg

namespace Pg
open PySem L2
section
variable {P : Program} {w : World} {K : PySem.W.Frag} {mg : Str → Option Value} {base : Heap} {ca : CA}
abbrev s_endings : Stmt := topS 14
theorem sc_endings : FnScope ["points", "table", "left", "last", "row", "height", "less"] ["points"] (defScope s_endings) := ⟨rfl, rfl, rfl, by decide +kernel, rfl, by decide +kernel, by decide +kernel⟩
/-- the table of how many ways go on, a new list of lists -/
def sp_endings (K : PySem.W.Frag) : Sp := fun vs H Q _ => ∃ n : Nat, vs = [.int (n : Int)] ∧ n ≤ 60 ∧ ∀ (H' : Hp) (t : Addr), Same H H' → H t = none → TabAt H' t n (n + 1) → Q (.ref t) H'
theorem ok_endings (T : Txt K mg ca) (D : Def K mg "endings" ["points"] s_endings) : Known P w K mg base CX0 1 "endings" ["points"] (sp_endings K) := by
  refine D.known fun f fd F => F.ok sc_endings (fun vs H Q E h => ?_) (fun cdv A outer s H vs Q E hr h => ?_)
  · obtain ⟨_, rfl, _⟩ := h
    rfl
  · obtain ⟨n, rfl, h60, q⟩ := h
    refine ⟨_, (pss_cons (ps_set (i := 1) sc_endings.nd rfl (Or.inl rfl) (pe_lst (pa_cons (pe_op op_cat (pe_lst (pa_cons pe_int pa_nil)) (pe_op op_rep (pe_lst (pa_cons pe_int pa_nil)) (pe_op op_add (pv 0) pe_int))) pa_nil)))
      (pss_cons (ps_for PassesOwn.never rfl (pi_range1 (by rfl) T.z_range (pa_cons (pv 0) pa_nil)) (pg_name (i := 2) sc_endings.nd rfl (Or.inl rfl))
      (pss_cons (ps_set (i := 3) sc_endings.nd rfl (Or.inl rfl) (pe_ix (ixL K) (pv 1) (pe_un un_neg pe_int) (fun _ _ => rfl)))
      (pss_cons (ps_set (i := 4) sc_endings.nd rfl (Or.inl rfl) (pe_lst pa_nil))
      (pss_cons (ps_for PassesOwn.never rfl (pi_range1 (by rfl) T.z_range (pa_cons (pe_op op_add (pv 0) pe_int) pa_nil)) (pg_name (i := 5) sc_endings.nd rfl (Or.inl rfl))
      (pss_cons (ps_set (i := 6) sc_endings.nd rfl (Or.inl rfl) pe_int)
      (Evl.pss_cut (ps_if (pt_cmpR op_gt (pv 5) pe_int (nomark _))
      (pss_one (ps_set (i := 6) sc_endings.nd rfl (Or.inl rfl) (pe_op op_mul (pv 5) (pe_ix (ixL K) (pv 3) (pe_op op_sub (pv 5) pe_int) (fun _ _ => rfl)))))
      pss_nil)
      (pss_one (ps_expr (peM K PySem.F.plainAttrs_list PySem.F.slot_list_append PySem.F.type_list_append mt_append (pv 4) (pa_cons (pe_op op_add (pe_op op_add (pe_ix (ixL K) (pv 3) (pv 5) (fun _ _ => rfl)) (pe_ix (ixL K) (pv 3) (pe_op op_add (pv 5) pe_int) (fun _ _ => rfl))) (pv 6)) pa_nil)))))))
      (pss_one (ps_expr (peM K PySem.F.plainAttrs_list PySem.F.slot_list_append PySem.F.type_list_append mt_append (pv 1) (pa_cons (pe_op op_cat (pv 4) (pe_lst (pa_cons pe_int pa_nil))) pa_nil))))))))
      (pss_one (ps_ret (pv 1))))), ?_⟩
    -- table = [[1] + [0] * (points + 1)]
    refine ⟨(by show 1 ≤ sizeLine; decide), fun p1 hp1 => ?_⟩
    refine ⟨(by show 1 ≤ sizeLine; decide), fun p2 hp2 => ?_⟩
    refine ⟨_, rfl, _, _, rfl, rfl, ?_⟩
    have hn1 : ((n : Int) + 1).toNat = n + 1 := by omega
    refine ⟨p2, _, _, rfl, rfl, upd_same, by omega, by omega, ?_, fun p3 hp3 => ?_⟩
    · rw [hn1]
      show 1 * (n + 1) ≤ sizeLine
      exact sz (by omega)
    rw [hn1]
    have h12 : (upd (upd H p1 (.lst [.int 1])) p2 (.lst [.int 0])) p1 = some (.lst [.int 1]) := by
      rw [upd_ne (ne_of_none upd_same hp2), upd_same]
    refine ⟨p1, p3, _, _, rfl, rfl, by rw [upd_ne (ne_of_none h12 hp3)]; exact h12, upd_same, ?_, fun p4 hp4 => ?_⟩
    · rw [rep_flat, List.length_replicate]
      exact sz (by show 1 + (n + 1) ≤ 100000; omega)
    rw [← rowV_zero]
    refine ⟨(by show 1 ≤ sizeLine; decide), fun t ht => ?_⟩
    have s0 : Same H (upd (upd (upd (upd H p1 (.lst [.int 1])) p2 (.lst [.int 0])) p3 (.lst (List.replicate (n + 1) [V.int 0]).flatten)) p4 (.lst (rowV n 0))) := (((sm_new hp1).trans (sm_new hp2)).trans (sm_new hp3)).trans (sm_new hp4)
    have htH : H t = none := s0.free ht
    -- for left in range(points)
    refine ⟨_, rfl, _, rfl, by omega, by omega, ?_⟩
    refine for_range (lo := 0) (n := ((n : Int)).toNat) (fun i σ H' => ∃ x2 x3 x4 x5 x6, σ = [some (.int (n : Int)), some (.ref t), x2, x3, x4, x5, x6] ∧ Same H H' ∧ TabAt H' t n (i + 1)) ?_ ?_ ?_
    · refine ⟨none, none, none, none, none, rfl, s0.trans (sm_new ht), ⟨_, upd_same, rfl, fun l hl => ?_⟩⟩
      have e : l = 0 := by omega
      subst e
      refine ⟨p4, rfl, ?_⟩
      rw [upd_ne (ne_of_none upd_same ht), upd_same]
    · rintro i σ H' hi ⟨x2, x3, x4, x5, x6, rfl, hs, ⟨rs, hT, hlen, hrow⟩⟩
      have hi' : i < n := by omega
      obtain ⟨a, ha, hA⟩ := hrow i (by omega)
      -- last = table[-1]
      refine ⟨_, rfl, _, rfl, t, _, _, _, rfl, rfl, SqL.of hT, at_end hlen ha, ?_⟩
      refine ⟨Nat.zero_le _, fun r hr' => ?_⟩
      have hrH : H r = none := hs.free hr'
      have nar : a ≠ r := ne_of_none hA hr'
      have ntr : t ≠ r := ne_of_none hT hr'
      -- for height in range(points + 1)
      refine ⟨_, rfl, _, _, rfl, rfl, _, rfl, by omega, by omega, ?_⟩
      refine for_range (lo := 0) (n := ((n : Int) + 1).toNat) (fun j σ H2 => ∃ x5 x6, σ = [some (.int (n : Int)), some (.ref t), some (.int (0 + (i : Int))), some (.ref a), some (.ref r), x5, x6] ∧ H2 = upd H' r (.lst (rowI (i + 1) j))) ?_ ?_ ?_
      · exact ⟨_, _, rfl, rfl⟩
      · rintro j σ H2 hj ⟨x5, x6, rfl, rfl⟩
        have hj' : j < n + 1 := by omega
        have hA2 : (upd H' r (.lst (rowI (i + 1) j))) a = some (.lst (rowV n i)) := by
          rw [upd_ne nar]
          exact hA
        refine ⟨fun σ' H3 => σ' = [some (.int (n : Int)), some (.ref t), some (.int (0 + (i : Int))), some (.ref a), some (.ref r), some (.int (0 + (j : Int))), some (.int (if 0 < j then (j : Int) * (cnt i (j - 1) : Int) else 0))] ∧ H3 = upd H' r (.lst (rowI (i + 1) j)), ?_, ?_⟩
        · refine ⟨_, rfl, _, _, rfl, rfl, _, rfl, ?_⟩
          by_cases c : 0 < j
          · rw [decide_eq_true (show (0 : Int) < 0 + (j : Int) by omega)]
            refine iteT ?_
            refine ⟨_, rfl, _, rfl, _, rfl, _, _, rfl, rfl, a, _, _, _, rfl, rfl, SqL.of hA2, at_of (j := j - 1) (by omega) (rowV_at (by omega)), _, _, rfl, rfl, .inl ⟨by omega, by omega⟩, ?_⟩
            refine ⟨?_, rfl⟩
            rw [if_pos c, show (0 : Int) + (j : Int) = (j : Int) by omega]
            rfl
          · rw [decide_eq_false (show ¬ (0 : Int) < 0 + (j : Int) by omega)]
            refine iteF ⟨?_, rfl⟩
            rw [if_neg c]
            rfl
        rintro σ' H3 ⟨rfl, rfl⟩
        refine ⟨_, rfl, .inl ⟨rfl, _, SqL.of upd_same⟩, ?_⟩
        refine ⟨_, rfl, _, rfl, a, _, _, _, rfl, rfl, SqL.of hA2, at_of (j := j) (by omega) (rowV_at (by omega)), ?_⟩
        refine ⟨_, rfl, _, rfl, _, _, rfl, rfl, a, _, _, _, rfl, rfl, SqL.of hA2, at_of (j := j + 1) (by omega) (rowV_at (by omega)), ?_⟩
        refine ⟨_, _, rfl, rfl, _, rfl, _, _, rfl, rfl, ?_⟩
        refine ⟨r, _, _, rfl, rfl, upd_same, szl (by rw [rowI_len]; omega), ?_⟩
        refine ⟨_, _, rfl, ?_⟩
        rw [upd_upd, rowI_succ, ← cnt_step]
      · rintro σ H2 ⟨x5, x6, rfl, rfl⟩
        rw [hn1]
        have hT2 : (upd H' r (.lst (rowI (i + 1) (n + 1)))) t = some (.lst rs) := by
          rw [upd_ne ntr]
          exact hT
        -- table.append(row + [0])
        refine ⟨_, rfl, .inl ⟨rfl, _, SqL.of hT2⟩, _, rfl, (by show 1 ≤ sizeLine; decide), fun p hp => ?_⟩
        have hr2 : (upd H' r (.lst (rowI (i + 1) (n + 1)))) r = some (.lst (rowI (i + 1) (n + 1))) := upd_same
        refine ⟨r, p, _, _, rfl, rfl, by rw [upd_ne (ne_of_none hr2 hp)]; exact hr2, upd_same, by rw [rowI_len]; exact sz (by show n + 1 + 1 ≤ 100000; omega), fun u hu => ?_⟩
        rw [rowI_all (show i + 1 ≤ n by omega)]
        have s2 : Same H' (upd (upd (upd H' r (.lst (rowI (i + 1) (n + 1)))) p (.lst [.int 0])) u (.lst (rowV n (i + 1)))) := ((sm_new hr').trans (sm_new hp)).trans (sm_new hu)
        refine ⟨t, _, _, rfl, rfl, s2 _ _ hT, szl (by omega), ?_⟩
        have htu : u ≠ t := Ne.symm (ne_of_none ((((sm_new hr').trans (sm_new hp))) _ _ hT) hu)
        refine ⟨_, _, _, _, _, rfl, sm_mut (hs.trans s2) htH, ⟨_, upd_same, by rw [List.length_append, hlen]; rfl, fun l hl => ?_⟩⟩
        by_cases c : l < i + 1
        · obtain ⟨b, hb, hB⟩ := hrow l c
          refine ⟨b, by rw [List.getElem?_append_left (by omega)]; exact hb, ?_⟩
          rw [upd_ne (tab_ne hT hb hB (by omega))]
          exact s2 _ _ hB
        · have e : l = i + 1 := by omega
          subst e
          refine ⟨u, by rw [List.getElem?_append_right (by omega), hlen, Nat.sub_self]; rfl, ?_⟩
          rw [upd_ne htu, upd_same]
    · rintro σ H' ⟨x2, x3, x4, x5, x6, rfl, hs, hT⟩
      refine ⟨_, rfl, ?_⟩
      rw [show ((n : Int)).toNat = n by omega] at hT
      exact q H' t hs htH hT
end
end Pg

namespace Pg
open PySem L2
section
variable {P : Program} {w : World} {K : PySem.W.Frag} {mg : Str → Option Value} {base : Heap} {ca : CA}
abbrev s_partners : Stmt := topS 9
theorem sc_partners : FnScope ["pairing", "found", "a", "b", "point"] ["pairing"] (defScope s_partners) := ⟨rfl, rfl, rfl, by decide +kernel, rfl, by decide +kernel, by decide +kernel⟩
/-- a new list: none or the partner, at each point -/
def sp_partners (K : PySem.W.Frag) : Sp := fun vs H Q _ => ∃ (v : V) (n : Int) (ps : List Pr), vs = [v] ∧ PairingAt H v n ps ∧ 0 ≤ n ∧ n ≤ 1000 ∧ (∀ x ∈ pts ps, 0 ≤ x ∧ x < n) ∧
  ∀ (H' : Hp) (q : Addr), Same H H' → H q = none → H' q = some (.lst (mateV n ps)) → Q (.ref q) H'
theorem ok_partners (T : Txt K mg ca) (D : Def K mg "partners" ["pairing"] s_partners) : Known P w K mg base CX0 1 "partners" ["pairing"] (sp_partners K) := by
  refine D.known fun f fd F => F.ok sc_partners (fun vs H Q E h => ?_) (fun cdv A outer s H vs Q E hr h => ?_)
  · obtain ⟨_, _, _, rfl, _⟩ := h
    rfl
  · obtain ⟨v, n, ps, rfl, ⟨a, b, xs, rfl, h1, h2, h3⟩, hn0, hn1, hpt, k⟩ := h
    have hlen := paired_length h3
    have g0 : atI [V.int n, V.ref b] 0 = some (.int n) := atI_nat (j := 0) rfl
    have g1 : atI [V.int n, V.ref b] 1 = some (.ref b) := atI_nat (j := 1) rfl
    refine ⟨_, (pss_cons (ps_setLc (i := 1) (own := [("point", 4)]) (g := gName 4) (tt := tYes) rfl sc_partners.nd rfl rfl (sw_true rfl rfl rfl (by decide +kernel)) (pi_range1 (by rfl) T.z_range (pa_cons (pe_ix (ixT K) (pv 0) pe_int (fun _ _ => rfl)) pa_nil)) (blkOk_by (N := ["pairing", "found", "a", "b", "point"]) (sc := defScope s_partners) (by decide +kernel)) (fun _ _ _ _ _ => (pg_name (i := 4) sc_partners.nd rfl (Or.inl rfl))) (fun _ _ _ _ _ => pts_nil) (fun _ _ _ _ _ => pe_non))
      (pss_cons (ps_for PassesOwn.never rfl (piT K (pe_ix (ixT K) (pv 0) pe_int (fun _ _ => rfl))) (pgT K rfl (pgs_cons (pg_name (i := 2) sc_partners.nd rfl (Or.inl rfl)) (pgs_cons (pg_name (i := 3) sc_partners.nd rfl (Or.inl rfl)) pgs_nil)))
      (pss_cons (ps_asg (pv 3) (pg_sub (pv 1) (pv 2) set_list))
      (pss_one (ps_asg (pv 2) (pg_sub (pv 1) (pv 3) set_list)))))
      (pss_one (ps_ret (pv 1))))), ?_⟩
    -- found = [None for point in range(pairing[0])]
    with_reducible refine sq (asg ?_)
    refine lcR (n := n) (fun _ => true) (fun _ => .non) (fun Q q => ⟨_, rfl, a, _, 0, _, rfl, rfl, SqT.of h1, g0, q⟩) (by omega) (fun x => rfl) (fun i hi H1 s1 Q q => q) (fun i hi _ H1 s1 Q q => q) (by omega) fun p hp => ?_
    have e0 : (((List.range n.toNat).map fun i : Nat => V.int (i : Int)).filter fun _ => true).map (fun _ => V.non) = mateV n [] := by
      rw [filt_all, List.map_map]
      show List.map (fun _ => V.non) _ = List.replicate n.toNat .non
      rw [List.map_const', List.length_range]
    rw [e0]
    -- for a, b in pairing[1]
    have s1 := sm_new (H := H) (o := .lst (mateV n [])) hp
    refine ⟨_, rfl, a, _, 1, _, rfl, rfl, SqT.of (s1 _ _ h1), g1, b, rfl, ⟨_, SqT.of (s1 _ _ h2)⟩, ?_⟩
    refine for_tup (K := K) (a := b) (xs := xs) (fun i σ H' => ∃ (x2 x3 x4 : Option V), σ = [some (.ref a), some (.ref p), x2, x3, x4] ∧ Same H H' ∧ H' p = some (.lst (mateV n (ps.take i)))) ?_ (fun i σ H' _ ⟨_, _, _, _, hs, _⟩ => SqT.of (hs _ _ h2)) ?_ ?_
    · exact ⟨none, none, none, rfl, s1, upd_same⟩
    · rintro i x σ H' hx ⟨x2, x3, x4, rfl, hs, hp'⟩
      obtain ⟨q, hq, t, rfl, ht⟩ := paired_get' h3 hx
      refine ⟨t, _, rfl, SqT.of (hs _ _ ht), rfl, _, _, rfl, _, _, rfl, rfl, ?_⟩
      have hmem := List.mem_of_getElem? hq
      have r1 := hpt q.1 (mem_pts.mpr ⟨q, hmem, .inl rfl⟩)
      have r2 := hpt q.2 (mem_pts.mpr ⟨q, hmem, .inr rfl⟩)
      have hl : (mateV n (ps.take i)).length = n.toNat := mateV_len _ _
      refine ⟨_, rfl, _, rfl, _, rfl, p, _, q.1, q.1.toNat, rfl, rfl, hp', ixn (by omega) (by omega), ?_⟩
      refine ⟨_, rfl, _, rfl, _, rfl, p, _, q.2, q.2.toNat, rfl, rfl, upd_same, ixn (by omega) (by rw [List.length_set]; omega), ?_⟩
      refine ⟨_, _, _, rfl, sm_mut (sm_mut hs hp) hp, ?_⟩
      rw [upd_same, take_succ hq]
      unfold mateV
      rw [List.foldl_append]
      rfl
    · rintro σ H' ⟨x2, x3, x4, rfl, hs, hp'⟩
      rw [hlen, List.take_length] at hp'
      exact ⟨_, rfl, k H' p hs hp hp'⟩
end
end Pg

namespace Pg
open PySem L2
section
variable {P : Program} {w : World} {K : PySem.W.Frag} {mg : Str → Option Value} {base : Heap} {ca : CA}
abbrev s_walk_of : Stmt := topS 11
theorem sc_walk_of : FnScope ["pairing", "mates", "found", "open_ones", "point"] ["pairing"] (defScope s_walk_of) := ⟨rfl, rfl, rfl, by decide +kernel, rfl, by decide +kernel, by decide +kernel⟩
/-- of a walk's pairing: that walk, a new list -/
def sp_walk_of (K : PySem.W.Frag) : Sp := fun vs H Q _ => ∃ (v : V) (ws : List Stp), vs = [v] ∧ PairingAt H v (ws.length : Int) (prs ws) ∧ run 0 ws = some 0 ∧ ws.length ≤ 100 ∧
  ∀ (H' : Hp) (q : Addr), Same H H' → H q = none → H' q = some (.lst (ws.map Stp.v)) → Q (.ref q) H'
theorem ok_walk_of (T : Txt K mg ca) (D : Def K mg "walk_of" ["pairing"] s_walk_of) (G_partners : Known P w K mg base CX0 1 "partners" ["pairing"] (sp_partners K)) : Known P w K mg base CX0 2 "walk_of" ["pairing"] (sp_walk_of K) := by
  refine D.known fun f fd F => F.ok sc_walk_of (fun vs H Q E h => ?_) (fun cdv A outer s H vs Q E hr h => ?_)
  · obtain ⟨_, _, rfl, _⟩ := h
    rfl
  · obtain ⟨v, ws, rfl, hpg, hrun, hlen, k⟩ := h
    obtain ⟨hnd, hrng⟩ := prs_pts hrun
    refine ⟨_, (pss_cons (ps_set (i := 1) sc_walk_of.nd rfl (Or.inl rfl) (pe_kc G_partners (hr.mono (by decide)) (by rfl) pass0 (pa_cons (pv 0) pa_nil)))
      (pss_cons (ps_set (i := 2) sc_walk_of.nd rfl (Or.inl rfl) (pe_lst pa_nil))
      (pss_cons (ps_set (i := 3) sc_walk_of.nd rfl (Or.inl rfl) (pe_lst pa_nil))
      (pss_cons (ps_for PassesOwn.never rfl (pi_range1 (by rfl) T.z_range (pa_cons (pe_ix (ixT K) (pv 0) pe_int (fun _ _ => rfl)) pa_nil)) (pg_name (i := 4) sc_walk_of.nd rfl (Or.inl rfl))
      (pss_one (ps_if (pt_cmpR op_isN (pe_ix (ixL K) (pv 1) (pv 4) (fun _ _ => rfl)) pe_non (nomark _))
      (pss_one (ps_expr (peM K PySem.F.plainAttrs_list PySem.F.slot_list_append PySem.F.type_list_append mt_append (pv 2) (pa_cons pe_str pa_nil))))
      (pss_one (ps_if (pt_cmpR op_gt (pe_ix (ixL K) (pv 1) (pv 4) (fun _ _ => rfl)) (pv 4) (nomark _))
      (pss_cons (ps_expr (peM K PySem.F.plainAttrs_list PySem.F.slot_list_append PySem.F.type_list_append mt_append (pv 2) (pa_cons pe_str pa_nil)))
      (pss_one (ps_expr (peM K PySem.F.plainAttrs_list PySem.F.slot_list_append PySem.F.type_list_append mt_append (pv 3) (pa_cons (pv 4) pa_nil)))))
      (pss_cons (ps_expr (peM K PySem.F.plainAttrs_list PySem.F.slot_list_append PySem.F.type_list_append mt_append (pv 2) (pa_cons (peM K PySem.F.plainAttrs_list PySem.F.slot_list_index PySem.F.type_list_index (mtIndex K) (pv 3) (pa_cons (pe_ix (ixL K) (pv 1) (pv 4) (fun _ _ => rfl)) pa_nil)) pa_nil)))
      (pss_one (ps_expr (peM K PySem.F.plainAttrs_list PySem.F.slot_list_remove PySem.F.type_list_remove mt_remove (pv 3) (pa_cons (pe_ix (ixL K) (pv 1) (pv 4) (fun _ _ => rfl)) pa_nil))))))))))
      (pss_one (ps_ret (pv 2))))))), ?_⟩
    -- mates = partners(pairing)
    refine ⟨_, rfl, v, _, _, rfl, hpg, by omega, by omega, hrng, fun H1 m s1 hm hM => ?_⟩
    refine ⟨Nat.zero_le _, fun w hw => ?_⟩
    refine ⟨Nat.zero_le _, fun o ho => ?_⟩
    have hwH := s1.free hw
    have nwo : w ≠ o := ne_of_none upd_same ho
    have hoH : H o = none := by
      rw [upd_ne (Ne.symm nwo)] at ho
      exact s1.free ho
    have nmw : m ≠ w := ne_of_none hM hw
    have hM2 : (upd (upd H1 w (.lst [])) o (.lst [])) m = some (.lst (mateV (ws.length : Int) (prs ws))) := by
      have nmo : m ≠ o := fun e => by
        rw [e] at hM
        rw [upd_ne (Ne.symm nwo), hM] at ho
        cases ho
      rw [upd_ne nmo, upd_ne nmw]
      exact hM
    have s2 : Same H (upd (upd H1 w (.lst [])) o (.lst [])) := sm_mut (sm_mut s1 hwH) hoH
    obtain ⟨a, b, xs, rfl, h1, h2, h3⟩ := hpg
    have g0 : atI [V.int (ws.length : Int), V.ref b] 0 = some (.int (ws.length : Int)) := atI_nat (j := 0) rfl
    refine ⟨_, rfl, a, _, 0, _, rfl, rfl, SqT.of (s2 _ _ h1), g0, _, rfl, by omega, by omega, ?_⟩
    have nmo : m ≠ o := fun e => by
      rw [e] at hM
      rw [upd_ne (Ne.symm nwo), hM] at ho
      cases ho
    refine for_range (lo := 0) (n := ((ws.length : Int)).toNat) (fun i σ H' => ∃ (x4 : Option V), σ = [some (.ref a), some (.ref m), some (.ref w), some (.ref o), x4] ∧ Same H H' ∧ H' m = some (.lst (mateV (ws.length : Int) (prs ws))) ∧
      H' w = some (.lst ((ws.take i).map Stp.v)) ∧ H' o = some (.lst ((osAt ws i).map V.int))) ?_ ?_ ?_
    · exact ⟨none, rfl, s2, hM2, by rw [upd_ne nwo, upd_same]; rfl, upd_same⟩
    · rintro i σ H' hi ⟨x4, rfl, hs, hM', hW, hO⟩
      have hi' : i < ws.length := by omega
      obtain ⟨st, hst, hv⟩ := step_at hi'
      have e0 : ((0 : Int) + (i : Int)) = (i : Int) := Int.zero_add _
      have eW : (ws.take (i + 1)).map Stp.v = (ws.take i).map Stp.v ++ [st.v] := by
        rw [take_succ hst, List.map_append]
        rfl
      have eO := os_succ hst
      have hol := os_le ws i
      have hwl : ((ws.take i).map Stp.v).length < 100000 := by
        rw [List.length_map, List.length_take]
        omega
      cases st with
      | lone =>
        have at1 : atI (mateV (ws.length : Int) (prs ws)) (0 + (i : Int)) = some .non := at_of (j := i) e0 (mate_lone hrun hst)
        refine ⟨_, rfl, _, rfl, m, _, _, _, rfl, rfl, SqL.of hM', at1, rfl, _, rfl, iteT ?_⟩
        refine ⟨_, rfl, .inl ⟨rfl, _, SqL.of hW⟩, w, _, _, rfl, rfl, hW, szl hwl, ?_⟩
        refine ⟨_, rfl, sm_mut hs hwH, by rw [upd_ne nmw]; exact hM', ?_, ?_⟩
        · rw [upd_same, eW]
          rfl
        · rw [upd_ne (Ne.symm nwo), eO]
          exact hO
      | opn =>
        obtain ⟨z, hz, hzm⟩ := mate_opn hrun hst
        have at1 : atI (mateV (ws.length : Int) (prs ws)) (0 + (i : Int)) = some (.int z) := at_of (j := i) e0 hzm
        refine ⟨_, rfl, _, rfl, m, _, _, _, rfl, rfl, SqL.of hM', at1, rfl, _, rfl, iteF ?_⟩
        refine ⟨_, rfl, _, rfl, m, _, _, _, rfl, rfl, SqL.of hM', at1, _, rfl, _, _, rfl, rfl, _, rfl, ?_⟩
        rw [decide_eq_true (show (0 : Int) + (i : Int) < z by omega)]
        refine iteT ?_
        refine ⟨_, rfl, .inl ⟨rfl, _, SqL.of hW⟩, w, _, _, rfl, rfl, hW, szl hwl, ?_⟩
        refine ⟨_, rfl, .inl ⟨rfl, _, SqL.of (by rw [upd_ne (Ne.symm nwo)]; exact hO)⟩, _, rfl, o, _, _, rfl, rfl, (by rw [upd_ne (Ne.symm nwo)]; exact hO), szl (by rw [List.length_map]; omega), ?_⟩
        refine ⟨_, rfl, sm_mut (sm_mut hs hwH) hoH, by rw [upd_ne nmo, upd_ne nmw]; exact hM', ?_, ?_⟩
        · rw [upd_ne nwo, upd_same, eW]
          rfl
        · rw [upd_same, eO]
          show _ = some (HO.lst ((osAt ws i ++ [(i : Int)]).map V.int))
          rw [List.map_append, e0]
          rfl
      | num j =>
        have hj := os_num hrun hst
        have hat : (osAt ws i)[j]? = some ((osAt ws i).getD j 0) := by
          rw [List.getD_eq_getElem?_getD, List.getElem?_eq_getElem hj]
          rfl
        have asc := osAt_asc ws i
        rw [take_len hst] at asc
        have hlt : (osAt ws i).getD j 0 < (i : Int) := asc.2 _ (List.mem_of_getElem? hat)
        have nd := asc.nodup
        have first : ∀ m' : Nat, m' < j → (osAt ws i)[m']? ≠ some ((osAt ws i).getD j 0) := fun m' hm' e => by
          have := nd_ix nd e hat
          omega
        have at1 : atI (mateV (ws.length : Int) (prs ws)) (0 + (i : Int)) = some (.int ((osAt ws i).getD j 0)) := at_of (j := i) e0 (mate_num hrun hst)
        refine ⟨_, rfl, _, rfl, m, _, _, _, rfl, rfl, SqL.of hM', at1, rfl, _, rfl, iteF ?_⟩
        refine ⟨_, rfl, _, rfl, m, _, _, _, rfl, rfl, SqL.of hM', at1, _, rfl, _, _, rfl, rfl, _, rfl, ?_⟩
        rw [decide_eq_false (show ¬ (0 : Int) + (i : Int) < (osAt ws i).getD j 0 by omega)]
        refine iteF ?_
        -- found.append(open_ones.index(mates[point]))
        refine ⟨_, rfl, .inl ⟨rfl, _, SqL.of hW⟩, _, rfl, .inl ⟨rfl, _, SqL.of hO⟩, _, rfl, _, rfl, m, _, _, _, rfl, rfl, SqL.of hM', at1, ?_⟩
        refine ⟨o, _, _, j, .int ((osAt ws i).getD j 0), rfl, rfl, SqL.of hO, rfl, ?_, ?_, ?_, ?_, ?_⟩
        · exact List.all_eq_true.mpr fun x hx => by
            obtain ⟨z, _, rfl⟩ := List.mem_map.mp hx
            rfl
        · rw [List.getElem?_map, hat]
          rfl
        · exact beq_self_eq_true _
        · intro m' z' hm' hz'
          rw [List.getElem?_map] at hz'
          cases q : (osAt ws i)[m']? with
          | none =>
            rw [q] at hz'
            cases hz'
          | some y =>
            rw [q] at hz'
            rw [← Option.some.inj hz']
            show (y == (osAt ws i).getD j 0) = false
            rw [beq_eq_false_iff_ne]
            exact fun e => first m' hm' (by rw [q, e])
        refine ⟨w, _, _, rfl, rfl, hW, szl hwl, ?_⟩
        have hO2 : (upd H' w (.lst ((ws.take i).map Stp.v ++ [.int (j : Int)]))) o = some (.lst ((osAt ws i).map V.int)) := by
          rw [upd_ne (Ne.symm nwo)]
          exact hO
        have hM3 : (upd H' w (.lst ((ws.take i).map Stp.v ++ [.int (j : Int)]))) m = some (.lst (mateV (ws.length : Int) (prs ws))) := by
          rw [upd_ne nmw]
          exact hM'
        refine ⟨_, rfl, .inl ⟨rfl, _, SqL.of hO2⟩, _, rfl, _, rfl, m, _, _, _, rfl, rfl, SqL.of hM3, at1, o, osAt ws i, _, j, rfl, rfl, hO2, hat, first, ?_⟩
        refine ⟨_, rfl, sm_mut (sm_mut hs hwH) hoH, by rw [upd_ne nmo]; exact hM3, ?_, ?_⟩
        · rw [upd_ne nwo, upd_same, eW]
          rfl
        · rw [upd_same, eO]
          rfl
    · rintro σ H' ⟨x4, rfl, hs, hM', hW, hO⟩
      have e : ((ws.length : Int)).toNat = ws.length := by omega
      rw [e, List.take_length] at hW
      exact ⟨_, rfl, k H' w hs hwH hW⟩
end
end Pg

namespace Pg
open PySem L2
section
variable {P : Program} {w : World} {K : PySem.W.Frag} {mg : Str → Option Value} {base : Heap} {ca : CA}
abbrev s_steps_at : Stmt := topS 15
theorem sc_steps_at : FnScope ["height", "found", "step"] ["height"] (defScope s_steps_at) := ⟨rfl, rfl, rfl, by decide +kernel, rfl, by decide +kernel, by decide +kernel⟩
/-- what a walk can do next, a new list -/
def sp_steps_at (K : PySem.W.Frag) : Sp := fun vs H Q _ => ∃ h : Nat, vs = [.int (h : Int)] ∧ h ≤ 1000 ∧ ∀ (H' : Hp) (p : Addr) (xs : List V), Same H H' → H p = none → H' p = some (.lst xs) → Paired (OptAt H') xs (opts h) → Q (.ref p) H'
theorem ok_steps_at (T : Txt K mg ca) (D : Def K mg "steps_at" ["height"] s_steps_at) : Known P w K mg base CX0 1 "steps_at" ["height"] (sp_steps_at K) := by
  refine D.known fun f fd F => F.ok sc_steps_at (fun vs H Q E h => ?_) (fun cdv A outer s H vs Q E hr h => ?_)
  · obtain ⟨_, rfl, _⟩ := h
    rfl
  · obtain ⟨h, rfl, hh, q⟩ := h
    refine ⟨_, (pss_cons (ps_set (i := 1) sc_steps_at.nd rfl (Or.inl rfl) (pe_lst (pa_cons (pe_tup (pa_cons pe_str (pa_cons (pv 0) pa_nil))) (pa_cons (pe_tup (pa_cons pe_str (pa_cons (pe_op op_add (pv 0) pe_int) pa_nil))) pa_nil))))
      (pss_cons (ps_expr (peM K PySem.F.plainAttrs_list PySem.F.slot_list_extend PySem.F.type_list_extend mt_extend (pv 1) (pa_cons (pe_lc (own := [("step", 2)]) (g := gName 2) (tt := tYes) rfl sc_steps_at.nd (pi_range1 (by rfl) T.z_range (pa_cons (pv 0) pa_nil)) (blkOk_by (N := ["height", "found", "step"]) (sc := defScope s_steps_at) (by decide +kernel)) (fun _ _ _ _ _ => (pg_name (i := 2) sc_steps_at.nd rfl (Or.inl rfl))) (fun _ _ _ _ _ => pts_nil) (fun _ _ _ _ _ => (pe_tup (pa_cons (pv 2) (pa_cons (pe_op op_sub (pv 0) pe_int) pa_nil))))) pa_nil)))
      (pss_one (ps_ret (pv 1))))), ?_⟩
    refine ⟨_, rfl, (by show 2 ≤ sizeLine; decide), fun t1 ht1 => ?_⟩
    refine ⟨_, rfl, _, _, rfl, rfl, (by show 2 ≤ sizeLine; decide), fun t2 ht2 => ?_⟩
    refine ⟨(by show 2 ≤ sizeLine; decide), fun g hg => ?_⟩
    have s2 := (sm_new (o := .tup [.str "lone", .int (h : Int)]) ht1).trans (sm_new (o := .tup [.str "open", .int ((h : Int) + 1)]) ht2)
    have hgH : H g = none := s2.free hg
    have h1 := sm_new (o := .lst [.ref t1, .ref t2]) hg _ _ (sm_new (o := .tup [.str "open", .int ((h : Int) + 1)]) ht2 _ _ upd_same)
    have h2 := sm_new (o := .lst [.ref t1, .ref t2]) hg _ _ (upd_same (H := upd H t1 (.tup [.str "lone", .int (h : Int)])) (a := t2) (o := .tup [.str "open", .int ((h : Int) + 1)]))
    refine ⟨_, rfl, .inl ⟨rfl, _, SqL.of upd_same⟩, ?_⟩
    with_reducible refine cns ?_
    refine lcRA (n := h) OptAt (nums h) (fun e r => r.mono e) (fun e r => r.stab e) (fun Q q => ⟨_, rfl, q _ (Same.refl _)⟩) (by unfold nums; rw [List.length_map, List.length_range]) (by omega) (fun i b hi hb H1 s1 Q Z k => ?_) (fun H' p ys s3 hp hys hP => ?_)
    · have eb : b = (Stp.num i, h - 1) := by
        unfold nums at hb
        rw [List.getElem?_map, List.getElem?_range hi] at hb
        exact (Option.some.inj hb).symm
      subst eb
      refine ⟨rfl, yesI ⟨_, rfl, _, rfl, _, _, rfl, rfl, (by show 2 ≤ sizeLine; decide), fun t ht => ?_⟩⟩
      refine k _ _ (sm_new ht) ⟨t, rfl, ?_⟩
      rw [upd_same, show (((Stp.num i, h - 1) : Opt).2 : Int) = (h : Int) - 1 by show ((h - 1 : Nat) : Int) = _; omega]
      rfl
    · have hg3 := s3 _ _ (upd_same (H := upd (upd H t1 (.tup [.str "lone", .int (h : Int)])) t2 (.tup [.str "open", .int ((h : Int) + 1)])) (a := g) (o := .lst [.ref t1, .ref t2]))
      have hl := paired_length hP
      have hl2 : (nums h).length = h := by unfold nums; rw [List.length_map, List.length_range]
      refine ⟨g, p, _, _, rfl, rfl, hg3, hys, sz (by show 2 + ys.length ≤ 100000; omega), ?_⟩
      refine ⟨_, rfl, q _ g ([.ref t1, .ref t2] ++ ys) (sm_mut ((s2.trans (sm_new hg)).trans s3) hgH) hgH upd_same ?_⟩
      have d1 : OptAt H' (.ref t1) (.lone, h) := ⟨t1, rfl, s3 _ _ h1⟩
      have d2 : OptAt H' (.ref t2) (.opn, h + 1) := ⟨t2, rfl, s3 _ _ h2⟩
      exact .cons (d1.stab hg3) (.cons (d2.stab hg3) (paired_mono (fun r => r.stab hg3) hP))
end
end Pg

namespace Pg
open PySem L2
section
variable {P : Program} {w : World} {K : PySem.W.Frag} {mg : Str → Option Value} {base : Heap} {ca : CA}
abbrev s_number_of : Stmt := topS 17
theorem sc_number_of : FnScope ["pairing", "points", "table", "number", "height", "walk", "point", "step", "behind"] ["pairing"] (defScope s_number_of) := ⟨rfl, rfl, rfl, by decide +kernel, rfl, by decide +kernel, by decide +kernel⟩
/-- the number of a walk's pairing -/
def sp_number_of (K : PySem.W.Frag) : Sp := fun vs H Q _ => ∃ (v : V) (ws : List Stp), vs = [v] ∧ PairingAt H v (ws.length : Int) (prs ws) ∧ run 0 ws = some 0 ∧ ws.length ≤ 60 ∧ ∀ H', Same H H' → Q (.int (rk 0 ws : Nat)) H'
theorem ok_number_of (T : Txt K mg ca) (D : Def K mg "number_of" ["pairing"] s_number_of) (G_endings : Known P w K mg base CX0 1 "endings" ["points"] (sp_endings K)) (G_walk_of : Known P w K mg base CX0 2 "walk_of" ["pairing"] (sp_walk_of K)) (G_steps_at : Known P w K mg base CX0 1 "steps_at" ["height"] (sp_steps_at K)) : Known P w K mg base CX0 3 "number_of" ["pairing"] (sp_number_of K) := by
  refine D.known fun f fd F => F.ok sc_number_of (fun vs H Q E h => ?_) (fun cdv A outer s H vs Q E hr h => ?_)
  · obtain ⟨_, _, rfl, _⟩ := h
    rfl
  · obtain ⟨v, ws, rfl, hpg, hrun, h60, q⟩ := h
    have hpg0 := hpg
    obtain ⟨a, b, xs, rfl, h1, h2, h3⟩ := hpg
    have g0 : atI [V.int (ws.length : Int), V.ref b] 0 = some (.int (ws.length : Int)) := atI_nat (j := 0) rfl
    refine ⟨_, (pss_cons (ps_set (i := 1) sc_number_of.nd rfl (Or.inl rfl) (pe_ix (ixT K) (pv 0) pe_int (fun _ _ => rfl)))
      (pss_cons (ps_set (i := 2) sc_number_of.nd rfl (Or.inl rfl) (pe_kc G_endings (hr.mono (by decide)) (by rfl) pass0 (pa_cons (pv 1) pa_nil)))
      (pss_cons (ps_set (i := 3) sc_number_of.nd rfl (Or.inl rfl) pe_int)
      (pss_cons (ps_set (i := 4) sc_number_of.nd rfl (Or.inl rfl) pe_int)
      (pss_cons (ps_set (i := 5) sc_number_of.nd rfl (Or.inl rfl) (pe_kc G_walk_of (hr.mono (by decide)) (by rfl) pass0 (pa_cons (pv 0) pa_nil)))
      (pss_cons (ps_for PassesOwn.never rfl (pi_range1 (by rfl) T.z_range (pa_cons (pv 1) pa_nil)) (pg_name (i := 6) sc_number_of.nd rfl (Or.inl rfl))
      (pss_one (ps_for PassesOwn.never rfl (piL K (pe_kc G_steps_at (hr.mono (by decide)) (by rfl) pass0 (pa_cons (pv 4) pa_nil))) (pgT K rfl (pgs_cons (pg_name (i := 7) sc_number_of.nd rfl (Or.inl rfl)) (pgs_cons (pg_name (i := 8) sc_number_of.nd rfl (Or.inl rfl)) pgs_nil)))
      (pss_cons (ps_if (pt_cmpR op_eq (pv 7) (pe_ix (ixL K) (pv 5) (pv 6) (fun _ _ => rfl)) (nomark _))
      (pss_cons (ps_set (i := 4) sc_number_of.nd rfl (Or.inl rfl) (pv 8))
      (pss_one ps_break))
      pss_nil)
      (pss_one (ps_set (i := 3) sc_number_of.nd rfl (Or.inl rfl) (pe_op op_add (pv 3) (pe_ix (ixL K) (pe_ix (ixL K) (pv 2) (pe_op op_sub (pe_op op_sub (pv 1) pe_int) (pv 6)) (fun _ _ => rfl)) (pv 8) (fun _ _ => rfl)))))))))
      (pss_one (ps_ret (pv 3))))))))), ?_⟩
    refine ⟨_, rfl, a, _, 0, _, rfl, rfl, SqT.of h1, g0, ?_⟩
    refine ⟨_, rfl, ws.length, rfl, h60, fun H1 t s1 ht ⟨rs, hT, hlen, hrow⟩ => ?_⟩
    refine ⟨_, rfl, .ref a, ws, rfl, hpg0.mono s1, hrun, by omega, fun H2 w s2 hw hW => ?_⟩
    have hT2 := s2 _ _ hT
    refine ⟨_, rfl, _, rfl, by omega, by omega, ?_⟩
    refine for_range (lo := 0) (n := ((ws.length : Int)).toNat) (fun i σ H' => ∃ (c h : Nat) (x6 x7 x8 : Option V), σ = [some (.ref a), some (.int (ws.length : Int)), some (.ref t), some (.int (c : Int)), some (.int (h : Int)), some (.ref w), x6, x7, x8] ∧ Same H2 H' ∧
      run h (ws.drop i) = some 0 ∧ h ≤ i ∧ c + rk h (ws.drop i) = rk 0 ws) ?_ ?_ ?_
    · exact ⟨0, 0, none, none, none, rfl, Same.refl _, hrun, Nat.le_refl _, by rw [List.drop_zero]; exact Nat.zero_add _⟩
    · rintro i σ H' hi ⟨c, h, x6, x7, x8, rfl, hs, hr2, hhi, hc⟩
      have hi' : i < ws.length := by omega
      obtain ⟨st, hst, hv⟩ := step_at hi'
      have hd := drop_step hst
      rw [hd] at hr2 hc
      have hrl : (ws.drop (i + 1)).length = ws.length - 1 - i := by rw [List.length_drop]; omega
      obtain ⟨hmem, hr3⟩ := opts_has hr2
      obtain ⟨l, hl⟩ : ∃ l : Nat, ws.length - 1 - i = l := ⟨_, rfl⟩
      rw [hl] at hrl
      have hc2 : c + (off l (opts h) st + rk (beh h st) (ws.drop (i + 1))) = rk 0 ws := by
        rw [← hc, ← hrl]
        rfl
      obtain ⟨al, hal, hAl⟩ := hrow l (by omega)
      refine ⟨_, rfl, h, rfl, by omega, fun H3 p xs s3 hp hxs hP => ?_⟩
      have hxl := paired_length hP
      have hT3 := s3 _ _ (hs _ _ hT2)
      have hAl3 := s3 _ _ (hs _ _ (s2 _ _ hAl))
      have hW3 := s3 _ _ (hs _ _ hW)
      have hat : atI (ws.map Stp.v) (0 + (i : Int)) = some st.v := at_of (j := i) (by omega) hv
      refine ⟨p, rfl, ⟨_, SqL.of hxs⟩, ?_⟩
      refine for_list (K := K) (a := p) (xs := xs) (fun m σ H' => ∃ (c' : Nat) (x7 x8 : Option V), σ = [some (.ref a), some (.int (ws.length : Int)), some (.ref t), some (.int (c' : Int)), some (.int (h : Int)), some (.ref w), some (.int (0 + (i : Int))), x7, x8] ∧ H' = H3 ∧
        (st, beh h st) ∈ (opts h).drop m ∧ c' + (off l ((opts h).drop m) st + rk (beh h st) (ws.drop (i + 1))) = rk 0 ws) ?_ (fun m σ H' _ ⟨_, _, _, _, e, _⟩ => by rw [e]; exact SqL.of hxs) ?_ ?_
      · exact ⟨c, x7, x8, rfl, rfl, by rw [List.drop_zero]; exact hmem, by rw [List.drop_zero]; exact hc2⟩
      · rintro m x σ H' hx ⟨c', x7, x8, rfl, rfl, hm', hc'⟩
        obtain ⟨⟨st2, b2⟩, ho, t', rfl, ht'⟩ := paired_get' hP hx
        have hd2 := drop_step ho
        have hom := List.mem_of_getElem? ho
        have hb2 : b2 = beh h st2 := opts_beh hom
        rw [hd2] at hm' hc'
        have hoff : off l ((st2, b2) :: (opts h).drop (m + 1)) st = if st2 = st then 0 else cnt l b2 + off l ((opts h).drop (m + 1)) st := rfl
        rw [hoff] at hc'
        have hb : b2 ≤ h + 1 := by
          cases st2 <;> simp only [beh] at hb2 <;> omega
        refine ⟨t', _, rfl, SqT.of ht', rfl, _, _, rfl, _, _, rfl, rfl, ?_⟩
        refine ⟨_, rfl, _, rfl, _, rfl, w, _, _, _, rfl, rfl, SqL.of hW3, hat, scal_stp st2 st, _, rfl, ?_⟩
        by_cases e : st2 = st
        · subst e
          rw [decide_eq_true rfl]
          refine iteT ?_
          rw [if_pos rfl, Nat.zero_add] at hc'
          refine ⟨_, rfl, ?_⟩
          exact ⟨c', b2, _, _, _, rfl, hs.trans s3, by rw [hb2]; exact hr3, by omega, by rw [hb2]; exact hc'⟩
        · rw [decide_eq_false (fun z => e (stp_inj st2 st z))]
          refine iteF ?_
          rw [if_neg e] at hc'
          refine ⟨_, rfl, _, rfl, _, rfl, _, _, rfl, rfl, _, rfl, _, _, rfl, rfl, t, _, _, _, rfl, rfl, SqL.of hT3, at_of (j := l) (by omega) hal, _, rfl, al, _, _, _, rfl, rfl, SqL.of hAl3, atI_nat (rowV_at (h := b2) (by omega)), _, _, rfl, rfl, ?_⟩
          refine ⟨c' + cnt l b2, some st2.v, some (.int (b2 : Nat)), ?_, rfl, ?_, by omega⟩
          · rw [show ((c' + cnt l b2 : Nat) : Int) = (c' : Int) + (cnt l b2 : Int) by omega]
            rfl
          · rcases List.mem_cons.mp hm' with z | z
            · exact absurd (congrArg Prod.fst z).symm e
            · exact z
      · rintro σ H' ⟨c', x7, x8, rfl, rfl, hm', hc'⟩
        rw [hxl, List.drop_length] at hm'
        exact absurd hm' List.not_mem_nil
    · rintro σ H' ⟨c, h, x6, x7, x8, rfl, hs, hr2, hhi, hc⟩
      rw [show ((ws.length : Int)).toNat = ws.length by omega, List.drop_length] at hc
      have e : c = rk 0 ws := by
        rw [← hc]
        rfl
      refine ⟨_, rfl, ?_⟩
      rw [e]
      exact q H' ((s1.trans s2).trans hs)
end
end Pg

namespace Pg
open PySem L2
section
variable {P : Program} {w : World} {K : PySem.W.Frag} {mg : Str → Option Value} {base : Heap} {ca : CA}
abbrev s_pairing_of : Stmt := topS 12
theorem sc_pairing_of : FnScope ["walk", "pairs", "open_ones", "point", "step"] ["walk"] (defScope s_pairing_of) := ⟨rfl, rfl, rfl, by decide +kernel, rfl, by decide +kernel, by decide +kernel⟩
/-- of a walk: its pairing (nothing is refused) -/
def sp_pairing_of (K : PySem.W.Frag) : Sp := fun vs H Q _ => ∃ (a : Addr) (ws : List Stp), vs = [.ref a] ∧ SqL K H a (ws.map Stp.v) ∧ run 0 ws = some 0 ∧ ws.length ≤ 60 ∧
  ∀ (H' : Hp) (v : V), Same H H' → PairingAt H' v (ws.length : Int) (prs ws) → Q v H'
theorem ok_pairing_of (T : Txt K mg ca) (D : Def K mg "pairing_of" ["walk"] s_pairing_of) : Known P w K mg base CX0 1 "pairing_of" ["walk"] (sp_pairing_of K) := by
  refine D.known fun f fd F => F.ok sc_pairing_of (fun vs H Q E h => ?_) (fun cdv A outer s H vs Q E hr h => ?_)
  · obtain ⟨_, _, rfl, _⟩ := h
    rfl
  · obtain ⟨a, ws, rfl, hS, hrun, hlen, q⟩ := h
    refine ⟨_, (pss_cons (ps_if (pt_cmpR op_gt (pe_callB (callLen K) (by rfl) T.z_len PySem.boot_len (pa_cons (pv 0) pa_nil)) (pe_gi T.g_MOST) (nomark _))
      (pss_one ps_never)
      pss_nil)
      (pss_cons (ps_set (i := 1) sc_pairing_of.nd rfl (Or.inl rfl) (pe_lst pa_nil))
      (pss_cons (ps_set (i := 2) sc_pairing_of.nd rfl (Or.inl rfl) (pe_lst pa_nil))
      (pss_cons (ps_for PassesOwn.never rfl (pi_range1 (by rfl) T.z_range (pa_cons (pe_callB (callLen K) (by rfl) T.z_len PySem.boot_len (pa_cons (pv 0) pa_nil)) pa_nil)) (pg_name (i := 3) sc_pairing_of.nd rfl (Or.inl rfl))
      (pss_cons (ps_set (i := 4) sc_pairing_of.nd rfl (Or.inl rfl) (pe_ix (ixL K) (pv 0) (pv 3) (fun _ _ => rfl)))
      (pss_one (ps_if (pt_cmpR op_eq (pv 4) pe_str (nomark _))
      (pss_one (ps_expr (peM K PySem.F.plainAttrs_list PySem.F.slot_list_append PySem.F.type_list_append mt_append (pv 2) (pa_cons (pv 3) pa_nil))))
      (pss_one (ps_if (pt_cmpR op_ne (pv 4) pe_str (nomark _))
      (pss_cons (ps_if (PW.pt (pw_or (pt_val (pe_callB (callIsi K) (by rfl) T.z_isinstance (by decide +kernel) (pa_cons (pv 4) (pa_cons (pe_bltn (v := .ty "str") (by rfl) T.z_str (by decide +kernel) rfl) pa_nil)))) (pw_or (pt_cmpR op_lt (pv 4) pe_int (nomark _)) (pw_or1 (pt_cmpR op_ge (pv 4) (pe_callB (callLen K) (by rfl) T.z_len PySem.boot_len (pa_cons (pv 2) pa_nil)) (nomark _))))))
      (pss_one ps_never)
      pss_nil)
      (pss_one (ps_expr (peM K PySem.F.plainAttrs_list PySem.F.slot_list_append PySem.F.type_list_append mt_append (pv 1) (pa_cons (pe_tup (pa_cons (peM K PySem.F.plainAttrs_list PySem.F.slot_list_pop PySem.F.type_list_pop mt_popAt (pv 2) (pa_cons (pv 4) pa_nil)) (pa_cons (pv 3) pa_nil))) pa_nil)))))
      pss_nil))))))
      (pss_cons (ps_if (pt_cmpR op_gt (pe_callB (callLen K) (by rfl) T.z_len PySem.boot_len (pa_cons (pv 2) pa_nil)) pe_int (nomark _))
      (pss_one ps_never)
      pss_nil)
      (pss_one (ps_ret (pe_tup (pa_cons (pe_callB (callLen K) (by rfl) T.z_len PySem.boot_len (pa_cons (pv 0) pa_nil)) (pa_cons (pe_callTy (callTup K) (by rfl) T.z_tuple (by decide +kernel) (pa_cons (pe_callB (cr_sortedPP K) (by rfl) T.z_sorted (by decide +kernel) (pa_cons (pv 1) pa_nil)) pa_nil)) pa_nil)))))))))), ?_⟩
    refine ⟨_, rfl, a, _, rfl, .inl hS, _, _, rfl, rfl, _, rfl, ?_⟩
    rw [List.length_map, decide_eq_false (by omega)]
    refine iteF ?_
    refine ⟨Nat.zero_le _, fun r hr' => ?_⟩
    refine ⟨Nat.zero_le _, fun o ho => ?_⟩
    have nro : r ≠ o := ne_of_none upd_same ho
    have hoH : H o = none := by
      rw [upd_ne (Ne.symm nro)] at ho
      exact ho
    have s1 := (sm_new (o := .lst []) hr').trans (sm_new (o := .lst []) ho)
    refine ⟨_, rfl, a, _, rfl, .inl (s1.seq hS), _, rfl, by omega, (by rw [List.length_map]; omega), ?_⟩
    refine for_range (lo := 0) (n := ((ws.map Stp.v).length : Int).toNat) (fun i σ H' => ∃ (xs : List V) (x3 x4 : Option V), σ = [some (.ref a), some (.ref r), some (.ref o), x3, x4] ∧
      Same H H' ∧ H' o = some (.lst ((osAt ws i).map V.int)) ∧ H' r = some (.lst xs) ∧ PairsAt H' xs (prAt ws i)) ?_ ?_ ?_
    · exact ⟨[], none, none, rfl, s1, upd_same, by rw [upd_ne nro, upd_same], .nil⟩
    · rintro i σ H' hi ⟨xs, x3, x4, rfl, hs, hO, hR, hP⟩
      have hi' : i < ws.length := by
        rw [List.length_map] at hi
        omega
      obtain ⟨st, hst, hv⟩ := step_at hi'
      have hA : SqL K H' a (ws.map Stp.v) := hs.seq hS
      have hat : atI (ws.map Stp.v) (0 + (i : Int)) = some st.v := at_of (j := i) (by omega) hv
      have e1 := os_succ hst
      have e2 := pr_succ hst
      have hos := os_le ws i
      have hpr := pr_le ws i
      refine ⟨_, rfl, _, rfl, a, _, _, _, rfl, rfl, hA, hat, ?_⟩
      cases st with
      | opn =>
        refine ⟨_, rfl, rfl, _, rfl, iteT ?_⟩
        refine ⟨_, rfl, .inl ⟨rfl, _, SqL.of hO⟩, _, rfl, o, _, _, rfl, rfl, hO, szl (by rw [List.length_map]; omega), ?_⟩
        refine ⟨xs, _, _, rfl, sm_mut hs hoH, ?_, (by rw [upd_ne nro]; exact hR), ?_⟩
        · rw [upd_same, e1]
          show _ = some (HO.lst ((osAt ws i ++ [(i : Int)]).map V.int))
          rw [List.map_append, Int.zero_add]
          rfl
        · rw [e2]
          show PairsAt _ xs (prAt ws i ++ [])
          rw [List.append_nil]
          exact upd_pairs hO hP
      | lone =>
        refine ⟨_, rfl, rfl, _, rfl, iteF ?_⟩
        refine ⟨_, rfl, rfl, _, rfl, iteF ?_⟩
        refine ⟨xs, _, _, rfl, hs, ?_, hR, ?_⟩
        · rw [e1]
          exact hO
        · rw [e2]
          show PairsAt _ xs (prAt ws i ++ [])
          rw [List.append_nil]
          exact hP
      | num k =>
        have hk := os_num hrun hst
        refine ⟨_, rfl, rfl, _, rfl, iteF ?_⟩
        refine ⟨_, rfl, rfl, _, rfl, iteT ?_⟩
        -- isinstance(step, str) or step < 0 or step >= len(open_ones)
        refine ⟨_, rfl, .int (k : Int), .ty "str", .type "int", .type "str", false, rfl, .ty _, .base (.int _), kit_ty (by decide +kernel), _, rfl, iteF ?_⟩
        refine ⟨_, rfl, _, _, rfl, rfl, _, rfl, ?_⟩
        rw [decide_eq_false (show ¬ (k : Int) < 0 by omega)]
        refine iteF ?_
        refine ⟨_, rfl, _, rfl, o, _, rfl, .inl (SqL.of hO), _, _, rfl, rfl, _, rfl, ?_⟩
        rw [List.length_map, decide_eq_false (show ¬ ((osAt ws i).length : Int) ≤ (k : Int) by omega)]
        refine iteF ?_
        -- pairs.append((open_ones.pop(step), point))
        refine ⟨_, rfl, .inl ⟨rfl, _, SqL.of hR⟩, _, rfl, .inl ⟨rfl, _, SqL.of hO⟩, _, rfl, ?_⟩
        refine ⟨o, _, (k : Int), k, .int ((osAt ws i).getD k 0), rfl, rfl, hO, by omega, by omega, (ixN_seq (ixn rfl (by rw [List.length_map]; exact hk))).1, ?_, ?_⟩
        · rw [List.getElem?_map, List.getElem?_eq_getElem hk, List.getD_eq_getElem?_getD, List.getElem?_eq_getElem hk]
          rfl
        refine ⟨_, rfl, (by show 2 ≤ sizeLine; decide), fun t ht => ?_⟩
        have hOt : (upd H' o (.lst (((osAt ws i).map V.int).eraseIdx k))) o = some (.lst (((osAt ws i).map V.int).eraseIdx k)) := upd_same
        have not' : o ≠ t := ne_of_none hOt ht
        have hT : H' t = none := by
          rw [upd_ne (Ne.symm not')] at ht
          exact ht
        have nrt : r ≠ t := ne_of_none hR hT
        refine ⟨r, xs, _, rfl, rfl, (by rw [upd_ne nrt, upd_ne nro]; exact hR), szl (by rw [paired_length hP]; omega), ?_⟩
        refine ⟨xs ++ [.ref t], _, _, rfl, ?_, ?_, upd_same, ?_⟩
        · intro b z hb
          have hb1 := hs b z hb
          rw [upd_ne (fun e => by rw [e, hr'] at hb; cases hb), upd_ne (ne_of_none hb1 hT), upd_ne (fun e => by rw [e, hoH] at hb; cases hb)]
          exact hb1
        · rw [upd_ne (Ne.symm nro), upd_ne not', upd_same, e1, erase_mapI]
          rfl
        · rw [e2]
          show PairsAt _ _ (prAt ws i ++ [((osAt ws i).getD k 0, (i : Int))])
          have p1 : PairsAt (upd H' o (.lst (((osAt ws i).map V.int).eraseIdx k))) xs (prAt ws i) := upd_pairs hO hP
          refine paired_append (upd_pairs (o := .lst xs) (by rw [upd_ne nrt, upd_ne nro]; exact hR) (PairsAt.mono (sm_new ht) p1)) (.cons ⟨t, rfl, ?_⟩ .nil)
          rw [upd_ne (Ne.symm nrt), upd_same, Int.zero_add]
    · rintro σ H' ⟨xs, x3, x4, rfl, hs, hO, hR, hP⟩
      have hA : SqL K H' a (ws.map Stp.v) := hs.seq hS
      have e : (((ws.map Stp.v).length : Int)).toNat = ws.length := by
        rw [List.length_map]
        omega
      have eo : osAt ws ws.length = [] := by
        show opens 0 [] (ws.take ws.length) = []
        rw [List.take_length]
        exact List.length_eq_zero_iff.mp (opens_len ws 0 [] hrun)
      rw [e] at hO hP
      rw [eo] at hO
      rw [prAt_all] at hP
      refine ⟨_, rfl, o, _, rfl, .inl (SqL.of hO), _, _, rfl, rfl, _, rfl, iteF ?_⟩
      refine ⟨_, rfl, a, _, rfl, .inl hA, _, rfl, r, xs, _, rfl, SqL.of hR, hP, fun ys p hy hperm hp => ?_⟩
      refine ⟨p, ys, rfl, .inl ⟨SqL.of upd_same, fun t ht => ?_⟩⟩
      refine ⟨(by show 2 ≤ sizeLine; decide), fun u hu => ?_⟩
      refine q _ _ (((hs.trans (sm_new hp)).trans (sm_new ht)).trans (sm_new hu)) ⟨u, t, ys, rfl, ?_, ?_, ?_⟩
      · rw [upd_same, List.length_map]
      · rw [upd_ne (ne_of_none upd_same hu), upd_same]
      · exact ((hy.mono (sm_new hp)).mono (sm_new ht)).mono (sm_new hu)
end
end Pg

namespace Pg
open PySem L2
section
variable {P : Program} {w : World} {K : PySem.W.Frag} {mg : Str → Option Value} {base : Heap} {ca : CA}
abbrev s_told : Stmt := topS 16
theorem sc_told : FnScope ["points", "number", "table", "walk", "height", "left", "step", "behind", "many"] ["points", "number"] (defScope s_told) := ⟨rfl, rfl, rfl, by decide +kernel, rfl, by decide +kernel, by decide +kernel⟩
/-- the pairing of a number -/
def sp_told (K : PySem.W.Frag) (ca : CA) : Sp := fun vs H Q E => ∃ (n : Nat) (z : Int), vs = [.int (n : Int), .int z] ∧ n ≤ 60 ∧ (∀ j : Nat, z = (j : Int) → j < cnt n 0 → ∀ (H' : Hp) (v : V), Same H H' → PairingAt H' v (n : Int) (prs (unr n 0 j)) → Q v H') ∧
  ((z < 0 ∨ (cnt n 0 : Int) ≤ z) → ∀ H', Same H H' → E (.ref ca.NoNumber) none H')
theorem ok_told (T : Txt K mg ca) (D : Def K mg "told" ["points", "number"] s_told) (G_endings : Known P w K mg base CX0 1 "endings" ["points"] (sp_endings K)) (G_pairing_of : Known P w K mg base CX0 1 "pairing_of" ["walk"] (sp_pairing_of K)) (G_steps_at : Known P w K mg base CX0 1 "steps_at" ["height"] (sp_steps_at K)) : Known P w K mg base (L2.CX P w) 2 "told" ["points", "number"] (sp_told K ca) := by
  refine D.known fun f fd F => F.okX sc_told (fun vs H Q E h => ?_) (fun cdv A outer s H vs Q E hr h => ?_)
  · obtain ⟨_, _, rfl, _⟩ := h
    rfl
  · obtain ⟨n, z, rfl, h60, q0, ke⟩ := h
    refine ⟨_, (pss_cons (ps_set (i := 2) sc_told.nd rfl (Or.inl rfl) (pe_kc G_endings (hr.mono (by decide)) (by rfl) pass0 (pa_cons (pv 0) pa_nil)))
      (pss_cons (ps_if (PW.pt (pw_or (pt_cmpR op_lt (pv 1) pe_int (nomark _)) (pw_or1 (pt_cmpR op_ge (pv 1) (pe_ix (ixL K) (pe_ix (ixL K) (pv 2) (pv 0) (fun _ _ => rfl)) pe_int (fun _ _ => rfl)) (nomark _)))))
      (pss_one (ps_raise rfl (takes_of rfl rfl rfl rfl) (pmk_own PySem.F.excBase_ValueError T.x_NoNumber T.g_NoNumber T.k_NoNumber (raises_own T.b_NoNumber T.t_NoNumber) (by exact rfl))))
      pss_nil)
      (pss_cons (ps_set (i := 3) sc_told.nd rfl (Or.inl rfl) (pe_lst pa_nil))
      (pss_cons (ps_set (i := 4) sc_told.nd rfl (Or.inl rfl) pe_int)
      (pss_cons (ps_for (passes_of rfl) rfl (pi_range3 (by rfl) T.z_range (pa_cons (pe_op op_sub (pv 0) pe_int) (pa_cons (pe_un un_neg pe_int) (pa_cons (pe_un un_neg pe_int) pa_nil)))) (pg_name (i := 5) sc_told.nd rfl (Or.inl rfl))
      (pss_one (ps_for (passes_of rfl) rfl (piL K (pe_kc G_steps_at (hr.mono (by decide)) (by rfl) pass0 (pa_cons (pv 4) pa_nil))) (pgT K rfl (pgs_cons (pg_name (i := 6) sc_told.nd rfl (Or.inl rfl)) (pgs_cons (pg_name (i := 7) sc_told.nd rfl (Or.inl rfl)) pgs_nil)))
      (pss_cons (ps_set (i := 8) sc_told.nd rfl (Or.inl rfl) (pe_ix (ixL K) (pe_ix (ixL K) (pv 2) (pv 5) (fun _ _ => rfl)) (pv 7) (fun _ _ => rfl)))
      (pss_cons (ps_if (pt_cmpR op_lt (pv 1) (pv 8) (nomark _))
      (pss_cons (ps_expr (peM K PySem.F.plainAttrs_list PySem.F.slot_list_append PySem.F.type_list_append mt_append (pv 3) (pa_cons (pv 6) pa_nil)))
      (pss_cons (ps_set (i := 4) sc_told.nd rfl (Or.inl rfl) (pv 7))
      (pss_one ps_break)))
      pss_nil)
      (pss_one (ps_set (i := 1) sc_told.nd rfl (Or.inl rfl) (pe_op op_sub (pv 1) (pv 8)))))))))
      (pss_one (ps_ret (pe_kc G_pairing_of (hr.mono (by decide)) (by rfl) pass0 (pa_cons (pv 3) pa_nil))))))))), ?_⟩
    refine ⟨_, rfl, n, rfl, h60, fun H1 t s1 ht ⟨rs, hT, hlen, hrow⟩ => ?_⟩
    obtain ⟨a, ha, hA⟩ := hrow n (by omega)
    -- if number < 0 or number >= table[points][0]
    refine ⟨_, rfl, _, _, rfl, rfl, _, rfl, ?_⟩
    by_cases c0 : z < 0
    · rw [decide_eq_true c0]
      exact iteT (iteT (ke (.inl c0) H1 s1))
    rw [decide_eq_false c0]
    refine iteF ⟨_, rfl, _, rfl, _, rfl, t, _, _, _, rfl, rfl, SqL.of hT, atI_nat ha, a, _, 0, _, rfl, rfl, SqL.of hA, atI_nat (j := 0) (rowV_at (by omega)), _, _, rfl, rfl, _, rfl, ?_⟩
    by_cases c1 : (cnt n 0 : Int) ≤ z
    · rw [decide_eq_true c1]
      exact iteT (ke (.inr c1) H1 s1)
    rw [decide_eq_false c1]
    refine iteF ?_
    obtain ⟨j0, rfl⟩ : ∃ j0 : Nat, z = (j0 : Int) := ⟨z.toNat, by omega⟩
    have hj0 : j0 < cnt n 0 := by omega
    have q := q0 j0 rfl hj0
    refine ⟨Nat.zero_le _, fun w hw => ?_⟩
    have hwH : H w = none := s1.free hw
    -- for left in range(points - 1, -1, -1)
    refine ⟨_, rfl, _, _, rfl, rfl, _, rfl, _, rfl, (n : Int) - 1, -1, -1, ((n : Int) - 1 - -1).toNat, rfl, RgC.neg (by omega) (by omega) (by decide) (by decide), ?_⟩
    refine for_rangeC (fun i σ H' => ∃ (ws : List Stp) (h j : Nat) (x5 x6 x7 x8 : Option V), σ = [some (.int (n : Int)), some (.int (j : Int)), some (.ref t), some (.ref w), some (.int (h : Int)), x5, x6, x7, x8] ∧ Same H1 H' ∧ H' w = some (.lst (ws.map Stp.v)) ∧
      ws.length = i ∧ h ≤ i ∧ j < cnt (n - i) h ∧ ws ++ unr (n - i) h j = unr n 0 j0) ?_ ?_ ?_
    · exact ⟨[], 0, j0, none, none, none, none, rfl, sm_new hw, upd_same, rfl, Nat.le_refl _, hj0, rfl⟩
    · rintro i σ H' hi ⟨ws, h, j, x5, x6, x7, x8, rfl, hs, hW, hwl, hhi, hj, hU⟩
      have hi' : i < n := by omega
      obtain ⟨l, hl⟩ : ∃ l : Nat, n - i = l + 1 := ⟨n - i - 1, by omega⟩
      rw [hl] at hj hU
      have eleft : (n : Int) - 1 + i * -1 = (l : Int) := by omega
      obtain ⟨al, hal, hAl⟩ := hrow l (by omega)
      refine ⟨_, rfl, h, rfl, by omega, fun H2 p xs s2 hp hxs hP => ?_⟩
      have hW2 := s2 _ _ hW
      have hT2 := s2 _ _ (hs _ _ hT)
      have hAl2 := s2 _ _ (hs _ _ hAl)
      have hxl := paired_length hP
      refine ⟨p, rfl, ⟨_, SqL.of hxs⟩, ?_⟩
      refine for_list (K := K) (a := p) (xs := xs) (fun m σ H' => ∃ (j' : Nat) (x6 x7 x8 : Option V), σ = [some (.int (n : Int)), some (.int (j' : Int)), some (.ref t), some (.ref w), some (.int (h : Int)), some (.int (l : Int)), x6, x7, x8] ∧ H' = H2 ∧
        j' < tot l ((opts h).drop m) ∧ pick l (opts h) j = pick l ((opts h).drop m) j') ?_ (fun m σ H' _ ⟨_, _, _, _, _, e, _⟩ => by rw [e]; exact SqL.of hxs) ?_ ?_
      · refine ⟨j, x6, x7, x8, ?_, rfl, by rw [List.drop_zero, tot_opts]; exact hj, rfl⟩
        rw [eleft]
        rfl
      · rintro m x σ H' hx ⟨j', x6, x7, x8, rfl, rfl, hj', hpk⟩
        obtain ⟨⟨st, b⟩, ho, t', rfl, ht'⟩ := paired_get' hP hx
        have hd := drop_step ho
        have hom := List.mem_of_getElem? ho
        rw [hd] at hj' hpk
        rw [tot_cons] at hj'
        have hb : b ≤ h + 1 := by
          have e := opts_beh hom
          have e2 : b = beh h st := e
          cases st <;> simp only [beh] at e2 <;> omega
        refine ⟨t', _, rfl, SqT.of ht', rfl, _, _, rfl, _, _, rfl, rfl, ?_⟩
        -- many = table[left][behind]
        refine ⟨_, rfl, _, rfl, t, _, _, _, rfl, rfl, SqL.of hT2, atI_nat hal, _, rfl, al, _, _, _, rfl, rfl, SqL.of hAl2, atI_nat (rowV_at (h := b) (by omega)), ?_⟩
        refine ⟨_, rfl, _, rfl, _, _, rfl, rfl, _, rfl, ?_⟩
        have hpk2 : pick l ((st, b) :: (opts h).drop (m + 1)) j' = if j' < cnt l b then (st, b, j') else pick l ((opts h).drop (m + 1)) (j' - cnt l b) := rfl
        by_cases c : j' < cnt l b
        · rw [decide_eq_true (show (j' : Int) < (cnt l b : Int) by omega)]
          rw [hpk2, if_pos c] at hpk
          refine iteT ?_
          refine ⟨_, rfl, .inl ⟨rfl, _, SqL.of hW2⟩, _, rfl, w, _, _, rfl, rfl, hW2, szl (by rw [List.length_map, hwl]; omega), ?_⟩
          refine ⟨_, rfl, ?_⟩
          have hnl : n - (i + 1) = l := by omega
          refine ⟨ws ++ [st], b, j', _, _, _, _, rfl, sm_mut (hs.trans s2) hw, ?_, by rw [List.length_append, hwl]; rfl, by omega, by rw [hnl]; exact c, ?_⟩
          · rw [upd_same, List.map_append]
            rfl
          · rw [hnl, ← hU]
            show (ws ++ [st]) ++ unr l b j' = ws ++ ((pick l (opts h) j).1 :: unr l (pick l (opts h) j).2.1 (pick l (opts h) j).2.2)
            rw [hpk, List.append_assoc]
            rfl
        · rw [decide_eq_false (show ¬ (j' : Int) < (cnt l b : Int) by omega)]
          rw [hpk2, if_neg c] at hpk
          have hj2 : j' < cnt l b + tot l ((opts h).drop (m + 1)) := hj'
          refine iteF ?_
          refine ⟨_, rfl, _, rfl, _, _, rfl, rfl, ?_⟩
          refine ⟨j' - cnt l b, some st.v, some (.int (b : Nat)), some (.int (cnt l b : Nat)), ?_, rfl, by omega, hpk⟩
          rw [show ((j' - cnt l b : Nat) : Int) = (j' : Int) - (cnt l b : Int) by omega]
          rfl
      · rintro σ H' ⟨j', x6, x7, x8, rfl, rfl, hj', hpk⟩
        rw [hxl, List.drop_length] at hj'
        exact absurd hj' (Nat.not_lt_zero _)
    · rintro σ H' ⟨ws, h, j, x5, x6, x7, x8, rfl, hs, hW, hwl, hhi, hj, hU⟩
      have en : ((n : Int) - 1 - -1).toNat = n := by omega
      rw [en] at hwl hU hj
      rw [Nat.sub_self] at hU
      have hU2 : ws = unr n 0 j0 := by
        rw [← hU]
        exact (List.append_nil ws).symm
      obtain ⟨hrun, _⟩ := unr_run hj0
      rw [← hU2] at hrun
      refine ⟨_, rfl, w, ws, rfl, SqL.of hW, hrun, by omega, fun H2 v s2 hv => ?_⟩
      refine q H2 v ((s1.trans hs).trans s2) ?_
      rw [hwl, hU2] at hv
      exact hv
end
end Pg

namespace Pg
open PySem L2
section
variable {P : Program} {w : World} {K : PySem.W.Frag} {mg : Str → Option Value} {base : Heap} {ca : CA}
abbrev s_law_refused : Stmt := topS 30
theorem sc_law_refused : FnScope ["points", "number", "marks", "e"] ["points", "number"] (defScope s_law_refused) := ⟨rfl, rfl, rfl, by decide +kernel, rfl, by decide +kernel, by decide +kernel⟩
/-- a number that is none's is refused as it should be -/
def sp_law_refused (K : PySem.W.Frag) : Sp := fun vs H Q _ => ∃ (n : Nat) (z : Int), vs = [.int (n : Int), .int z] ∧ n ≤ 60 ∧ (z < 0 ∨ (cnt n 0 : Int) ≤ z) ∧ ∀ H', Q (.bl true) H'
theorem ok_law_refused (T : Txt K mg ca) (D : Def K mg "_law_refused" ["points", "number"] s_law_refused) (G_told : Known P w K mg base (L2.CX P w) 2 "told" ["points", "number"] (sp_told K ca)) : Known P w K mg base CX0 3 "_law_refused" ["points", "number"] (sp_law_refused K) := by
  refine D.known fun f fd F => F.ok sc_law_refused (fun vs H Q E h => ?_) (fun cdv A outer s H vs Q E hr h => ?_)
  · obtain ⟨_, _, rfl, _⟩ := h
    rfl
  · obtain ⟨n, z, rfl, hn, hz, q⟩ := h
    refine ⟨_, (pss_cons (ps_set (i := 2) sc_law_refused.nd rfl (Or.inl rfl) (pe_lst pa_nil))
      (pss_cons (ps_try_as (i := 3) (Wout := fun _ _ _ _ => False) rfl rfl sc_law_refused.nd rfl rfl ⟨rfl, by decide, Or.inl T.g_PairError⟩ takes0
      (fun W pn xe tk _ => (pss_one (ps_expr (pe_kcS G_told (hr.mono (by decide)) (by rfl) (fun σ => passAt tk σ) (pa_cons (pv 0) (pa_cons (pv 1) pa_nil))))))
      (fun a oe cls d pn hz hf => (pss_cons (ps_set (i := 2) sc_law_refused.nd rfl (Or.inl rfl) (pe_lst (pa_cons (pe_callB (call_isE2 K T.ec_NoNumber hz hf) (by rfl) T.z_isinstance (by decide +kernel) (pa_cons (pv 3) (pa_cons (pe_glob (v := .ref ca.NoNumber) rfl T.g_NoNumber rfl) pa_nil))) (pa_cons (pe_callB (call_isE2 K T.ec_NoNumber hz hf) (by rfl) T.z_isinstance (by decide +kernel) (pa_cons (pv 3) (pa_cons (pe_glob (v := .ref ca.NoPairing) rfl T.g_NoPairing rfl) pa_nil))) (pa_cons (pe_callB (call_isE2 K T.ec_NoNumber hz hf) (by rfl) T.z_isinstance (by decide +kernel) (pa_cons (pv 3) (pa_cons (pe_glob (v := .ref ca.NoWalk) rfl T.g_NoWalk rfl) pa_nil))) (pa_cons (pe_callB (call_isE2 K T.ec_NoNumber hz hf) (by rfl) T.z_isinstance (by decide +kernel) (pa_cons (pv 3) (pa_cons (pe_glob (v := .ref ca.TooMany) rfl T.g_TooMany rfl) pa_nil))) pa_nil))))))
      (pss_one (ps_set (i := 2) sc_law_refused.nd rfl (Or.inl rfl) (pe_op op_cat (pv 2) (pe_lst (pa_cons (pe_callB (call_isE2 K T.ec_NoNumber hz hf) (by rfl) T.z_isinstance (by decide +kernel) (pa_cons (pv 3) (pa_cons (pe_glob (v := .ref ca.BadNote) rfl T.g_BadNote rfl) pa_nil))) (pa_cons (pe_callB (call_isE2 K T.ec_NoNumber hz hf) (by rfl) T.z_isinstance (by decide +kernel) (pa_cons (pv 3) (pa_cons (pe_bltn (v := .ty "ValueError") (by rfl) T.z_ValueError (by decide +kernel) rfl) pa_nil))) pa_nil)))))))))
      (pss_one (ps_ret (pe_cmpR (eqD K hr.units) (pv 2) (pe_lst (pa_cons pe_bl (pa_cons pe_bl (pa_cons pe_bl (pa_cons pe_bl (pa_cons pe_bl (pa_cons pe_bl pa_nil))))))) (nomark _)))))), ?_⟩
    refine ⟨Nat.zero_le _, fun m hm => ?_⟩
    have s1 := sm_new (o := .lst []) hm
    refine ⟨_, rfl, _, rfl, n, z, rfl, hn, fun j e hj => absurd hz (by omega), fun _ H2 s2 => ?_⟩
    refine ⟨true, T.me_NoNumber, fun _ a ha => ?_, fun z => Bool.noConfusion z⟩
    refine ⟨_, rfl, rfl, rfl, _, _, true, rfl, fun u r => r, T.i_NoNumber_NoNumber, _, rfl, rfl, rfl, _, _, false, rfl, fun u r => r, T.i_NoNumber_NoPairing, ?_⟩
    refine ⟨_, rfl, rfl, rfl, _, _, false, rfl, fun u r => r, T.i_NoNumber_NoWalk, _, rfl, rfl, rfl, _, _, false, rfl, fun u r => r, T.i_NoNumber_TooMany, ?_⟩
    refine ⟨by show 4 ≤ sizeLine; decide, fun l1 h1 => ?_⟩
    refine ⟨_, rfl, _, rfl, rfl, rfl, _, _, false, rfl, fun u r => r, T.i_NoNumber_BadNote, _, rfl, rfl, rfl, _, _, true, rfl, fun u r => r, T.i_NoNumber_VE, ?_⟩
    refine ⟨by show 2 ≤ sizeLine; decide, fun l2 h2 => ?_⟩
    have hl1 : (upd H2 l1 (.lst [.bl true, .bl false, .bl false, .bl false])) l1 = some (.lst [.bl true, .bl false, .bl false, .bl false]) := upd_same
    have n12 := ne_of_none hl1 h2
    refine ⟨l1, l2, _, _, rfl, rfl, by rw [upd_ne n12]; exact hl1, upd_same, by show 6 ≤ sizeLine; decide, fun l3 h3 => ?_⟩
    refine ⟨_, rfl, by show 6 ≤ sizeLine; decide, fun l4 h4 => ?_⟩
    refine ⟨.list ([true, false, false, false, false, true].map PyData.bool), .list ([true, false, false, false, false, true].map PyData.bool), .lst (SqL.of (sm_new h4 _ _ upd_same)) (bools_dp [true, false, false, false, false, true]), .lst (SqL.of upd_same) (bools_dp [true, false, false, false, false, true]), (shp_bools _).shaped, (shp_bools _).shaped, ?_⟩
    rw [(shp_bools _).refl]
    exact q _
end
end Pg

namespace Pg
open PySem L2
section
variable {P : Program} {w : World} {K : PySem.W.Frag} {mg : Str → Option Value} {base : Heap} {ca : CA}
abbrev s_law_whole : Stmt := topS 20
theorem sc_law_whole : FnScope ["found"] ["found"] (defScope s_law_whole) := ⟨rfl, rfl, rfl, by decide +kernel, rfl, by decide +kernel, by decide +kernel⟩
def sp_law_whole (K : PySem.W.Frag) : Sp := fun vs H Q _ => ∃ (i : Int), vs = [.int i] ∧ Q (.bl true) H
theorem ok_law_whole (T : Txt K mg ca) (D : Def K mg "_law_whole" ["found"] s_law_whole) : Known P w K mg base CX0 1 "_law_whole" ["found"] (sp_law_whole K) := by
  refine D.known fun f fd F => F.ok sc_law_whole (fun vs H Q E h => ?_) (fun cdv A outer s H vs Q E hr h => ?_)
  · obtain ⟨_, rfl, _⟩ := h
    rfl
  · obtain ⟨i, rfl, q⟩ := h
    refine ⟨_, (pss_one (ps_ret (pe_and (pe_callB (callIsi K) (by rfl) T.z_isinstance (by decide +kernel) (pa_cons (pv 0) (pa_cons (pe_bltn (v := .ty "int") (by rfl) T.z_int (by decide +kernel) rfl) pa_nil))) (pe_one (pe_not (pe_callB (callIsi K) (by rfl) T.z_isinstance (by decide +kernel) (pa_cons (pv 0) (pa_cons (pe_bltn (v := .ty "bool") (by rfl) T.z_bool (by decide +kernel) rfl) pa_nil)))))))), ?_⟩
    refine ⟨_, rfl, .int i, .ty "int", .type "int", .type "int", true, rfl, .ty _, .base (.int i), kit_ty (by decide +kernel), _, rfl, iteT ?_⟩
    exact ⟨_, rfl, .int i, .ty "bool", .type "int", .type "bool", false, rfl, .ty _, .base (.int i), kit_ty (by decide +kernel), _, rfl, q⟩
end
end Pg

namespace Pg
open PySem L2
section
variable {P : Program} {w : World} {K : PySem.W.Frag} {mg : Str → Option Value} {base : Heap} {ca : CA}
abbrev s_law_is_pairing : Stmt := topS 26
theorem sc_law_is_pairing : FnScope ["found", "due", "pair"] ["found", "due"] (defScope s_law_is_pairing) := ⟨rfl, rfl, rfl, by decide +kernel, rfl, by decide +kernel, by decide +kernel⟩
def sp_law_is_pairing (K : PySem.W.Frag) : Sp := fun vs H Q _ => ∃ (v u : V) (n : Int) (ps : List Pr), vs = [v, u] ∧ PairingAt H v n ps ∧ PairingAt H u n ps ∧ Q (.bl true) H
theorem ok_law_is_pairing (T : Txt K mg ca) (D : Def K mg "_law_is_pairing" ["found", "due"] s_law_is_pairing) (G_law_whole : Known P w K mg base CX0 1 "_law_whole" ["found"] (sp_law_whole K)) : Known P w K mg base CX0 2 "_law_is_pairing" ["found", "due"] (sp_law_is_pairing K) := by
  refine D.known fun f fd F => F.ok sc_law_is_pairing (fun vs H Q E h => ?_) (fun cdv A outer s H vs Q E hr h => ?_)
  · obtain ⟨_, _, _, _, rfl, _⟩ := h
    rfl
  · obtain ⟨v, u, n, ps, rfl, h1, h2, q⟩ := h
    have d1 := h1.dp (K := K)
    have d2 := h2.dp (K := K)
    obtain ⟨a, b, xs, rfl, a1, a2, a3⟩ := h1
    have g0 : atI [V.int n, V.ref b] 0 = some (.int n) := atI_nat (j := 0) rfl
    have g1 : atI [V.int n, V.ref b] 1 = some (.ref b) := atI_nat (j := 1) rfl
    refine ⟨_, (pss_cons (ps_if (PW.pt (pw_or (pt_not (pt_val (pe_callB (callIsi K) (by rfl) T.z_isinstance (by decide +kernel) (pa_cons (pv 0) (pa_cons (pe_bltn (v := .ty "tuple") (by rfl) T.z_tuple (by decide +kernel) rfl) pa_nil))))) (pw_or (pt_cmpR op_ne (pe_callB (callLen K) (by rfl) T.z_len PySem.boot_len (pa_cons (pv 0) pa_nil)) pe_int (nomark _)) (pw_or (pt_not (pt_val (pe_kc G_law_whole (hr.mono (by decide)) (by rfl) pass0 (pa_cons (pe_ix (ixT K) (pv 0) pe_int (fun _ _ => rfl)) pa_nil)))) (pw_or1 (pt_cmpR (neD K hr.units) (pv 0) (pv 1) (nomark _)))))))
      (pss_one (ps_ret pe_bl))
      pss_nil)
      (pss_cons (ps_if (pt_not (pt_val (pe_callB (callIsi K) (by rfl) T.z_isinstance (by decide +kernel) (pa_cons (pe_ix (ixT K) (pv 0) pe_int (fun _ _ => rfl)) (pa_cons (pe_bltn (v := .ty "tuple") (by rfl) T.z_tuple (by decide +kernel) rfl) pa_nil)))))
      (pss_one (ps_ret pe_bl))
      pss_nil)
      (pss_cons (ps_for PassesOwn.never rfl (piT K (pe_ix (ixT K) (pv 0) pe_int (fun _ _ => rfl))) (pg_name (i := 2) sc_law_is_pairing.nd rfl (Or.inl rfl))
      (pss_one (ps_if (PW.pt (pw_or (pt_not (pt_val (pe_callB (callIsi K) (by rfl) T.z_isinstance (by decide +kernel) (pa_cons (pv 2) (pa_cons (pe_bltn (v := .ty "tuple") (by rfl) T.z_tuple (by decide +kernel) rfl) pa_nil))))) (pw_or (pt_not (pt_val (pe_kc G_law_whole (hr.mono (by decide)) (by rfl) pass0 (pa_cons (pe_ix (ixT K) (pv 2) pe_int (fun _ _ => rfl)) pa_nil)))) (pw_or1 (pt_not (pt_val (pe_kc G_law_whole (hr.mono (by decide)) (by rfl) pass0 (pa_cons (pe_ix (ixT K) (pv 2) pe_int (fun _ _ => rfl)) pa_nil))))))))
      (pss_one (ps_ret pe_bl))
      pss_nil)))
      (pss_one (ps_ret pe_bl))))), ?_⟩
    refine ⟨_, rfl, .ref a, .ty "tuple", .type "tuple", .type "tuple", true, rfl, .ty _, .base (.tup a1), kit_ty (by decide +kernel), _, rfl, iteF ?_⟩
    refine ⟨_, rfl, a, _, rfl, .inr (SqT.of a1), rfl, _, rfl, iteF ?_⟩
    refine ⟨_, rfl, a, _, 0, _, rfl, rfl, SqT.of a1, g0, n, rfl, _, rfl, iteF ?_⟩
    refine ⟨_, rfl, _, rfl, _, _, d1, d2, (shp_pgD n ps).shaped, (shp_pgD n ps).shaped, _, rfl, ?_⟩
    rw [(shp_pgD n ps).refl]
    refine iteF ?_
    refine ⟨_, rfl, a, _, 1, _, rfl, rfl, SqT.of a1, g1, .ref b, .ty "tuple", .type "tuple", .type "tuple", true, rfl, .ty _, .base (.tup a2), kit_ty (by decide +kernel), _, rfl, iteF ?_⟩
    refine ⟨_, rfl, a, _, 1, _, rfl, rfl, SqT.of a1, g1, b, rfl, ⟨_, SqT.of a2⟩, ?_⟩
    refine for_tup (K := K) (a := b) (xs := xs) (fun i σ H' => ∃ x2, σ = [some (.ref a), some u, x2] ∧ H' = H) ⟨none, rfl, rfl⟩ (fun i σ H' _ ⟨_, _, e⟩ => by rw [e]; exact SqT.of a2) ?_ ?_
    · rintro i x σ H' hx ⟨x2, rfl, rfl⟩
      obtain ⟨p, hp, t, rfl, ht⟩ := paired_get' a3 hx
      have t0 : atI [V.int p.1, V.int p.2] 0 = some (.int p.1) := atI_nat (j := 0) rfl
      have t1 : atI [V.int p.1, V.int p.2] 1 = some (.int p.2) := atI_nat (j := 1) rfl
      refine ⟨_, rfl, .ref t, .ty "tuple", .type "tuple", .type "tuple", true, rfl, .ty _, .base (.tup ht), kit_ty (by decide +kernel), _, rfl, iteF ?_⟩
      refine ⟨_, rfl, t, _, 0, _, rfl, rfl, SqT.of ht, t0, _, rfl, _, rfl, iteF ?_⟩
      refine ⟨_, rfl, t, _, 1, _, rfl, rfl, SqT.of ht, t1, _, rfl, _, rfl, iteF ?_⟩
      exact ⟨_, rfl, rfl⟩
    · rintro σ H' ⟨x2, rfl, rfl⟩
      exact q
end
end Pg

namespace Pg
open PySem L2
section
variable {P : Program} {w : World} {K : PySem.W.Frag} {mg : Str → Option Value} {base : Heap} {ca : CA}
abbrev s_law : Stmt := topS 31
theorem sc_law : FnScope ["script", "walk", "pairing", "due", "found", "many", "number", "far"] ["script"] (defScope s_law) := ⟨rfl, rfl, rfl, by decide +kernel, rfl, by decide +kernel, by decide +kernel⟩
def sp_law (K : PySem.W.Frag) : Sp := fun vs H Q _ => ∃ (a : Addr) (ns : List Int), vs = [.ref a] ∧ SqL K H a (ns.map V.int) ∧ ns.length ≤ 63 ∧ ∀ H', Q (.bl true) H'
theorem ok_law {f : Addr} {fd : FuncData} (T : Txt K mg ca) (F : Fun K "law" "law" s_law f fd) (G_law_drawn : Known P w K mg base CX0 3 "_law_drawn" ["script", "start", "most"] (sp_law_drawn K)) (G_law_of_walk : Known P w K mg base CX0 1 "_law_of_walk" ["walk"] (sp_law_of_walk K)) (G_law_number : Known P w K mg base CX0 2 "_law_number" ["walk"] (sp_law_number K)) (G_number_of : Known P w K mg base CX0 3 "number_of" ["pairing"] (sp_number_of K)) (G_law_refused : Known P w K mg base CX0 3 "_law_refused" ["points", "number"] (sp_law_refused K)) (G_law_cell_at : Known P w K mg base CX0 1 "_law_cell_at" ["script", "k"] (sp_law_cell_at K)) (G_law_whole : Known P w K mg base CX0 1 "_law_whole" ["found"] (sp_law_whole K)) (G_law_is_pairing : Known P w K mg base CX0 2 "_law_is_pairing" ["found", "due"] (sp_law_is_pairing K)) (G_law_goes_on : Known P w K mg base CX0 1 "_law_goes_on" ["points"] (sp_law_goes_on K)) (G_told : Known P w K mg base (L2.CX P w) 2 "told" ["points", "number"] (sp_told K ca)) : FnOk P w K mg base CX0 4 f fd ["script"] (sp_law K) := by
  refine F.ok sc_law (fun vs H Q E h => ?_) (fun cdv A outer s H vs Q E hr h => ?_)
  · obtain ⟨_, _, rfl, _⟩ := h
    rfl
  · obtain ⟨a, ns, rfl, hS, hlen, q⟩ := h
    refine ⟨_, (pss_cons (ps_set (i := 1) sc_law.nd rfl (Or.inl rfl) (pe_kc G_law_drawn (hr.mono (by decide)) (by rfl) pass0 (pa_cons (pv 0) (pa_cons pe_int (pa_cons pe_int pa_nil)))))
      (pss_cons (ps_set (i := 2) sc_law.nd rfl (Or.inl rfl) (pe_kc G_law_of_walk (hr.mono (by decide)) (by rfl) pass0 (pa_cons (pv 1) pa_nil)))
      (pss_cons (ps_set (i := 3) sc_law.nd rfl (Or.inl rfl) (pe_kc G_law_number (hr.mono (by decide)) (by rfl) pass0 (pa_cons (pv 1) pa_nil)))
      (pss_cons (ps_set (i := 4) sc_law.nd rfl (Or.inl rfl) (pe_kc G_number_of (hr.mono (by decide)) (by rfl) pass0 (pa_cons (pv 2) pa_nil)))
      (pss_cons (ps_if (PW.pt (pw_or (pt_not (pt_val (pe_kc G_law_whole (hr.mono (by decide)) (by rfl) pass0 (pa_cons (pv 4) pa_nil)))) (pw_or (pt_cmpR op_ne (pv 4) (pv 3) (nomark _)) (pw_or1 (pt_not (pt_val (pe_kc G_law_is_pairing (hr.mono (by decide)) (by rfl) pass0 (pa_cons (pe_kc G_told (hr.mono (by decide)) (by rfl) passL (pa_cons (pe_callB (callLen K) (by rfl) T.z_len PySem.boot_len (pa_cons (pv 1) pa_nil)) (pa_cons (pv 3) pa_nil))) (pa_cons (pv 2) pa_nil)))))))))
      (pss_one (ps_ret pe_bl))
      pss_nil)
      (pss_cons (ps_set (i := 5) sc_law.nd rfl (Or.inl rfl) (pe_ix (ixL K) (pe_ix (ixL K) (pe_kc G_law_goes_on (hr.mono (by decide)) (by rfl) pass0 (pa_cons (pe_callB (callLen K) (by rfl) T.z_len PySem.boot_len (pa_cons (pv 1) pa_nil)) pa_nil)) (pe_un un_neg pe_int) (fun _ _ => rfl)) pe_int (fun _ _ => rfl)))
      (pss_cons (ps_set (i := 6) sc_law.nd rfl (Or.inl rfl) (pe_ix (ixL K) (pe_lst (pa_cons (pe_op op_mod (pe_kc G_law_cell_at (hr.mono (by decide)) (by rfl) pass0 (pa_cons (pv 0) (pa_cons pe_int pa_nil))) (pv 5)) (pa_cons (pe_op op_sub (pv 5) pe_int) pa_nil))) (pe_callTy call_int1 (by rfl) T.z_int (by decide +kernel) (pa_cons (pe_cmpR op_eq (pe_op op_mod (pe_op op_fdiv (pe_kc G_law_cell_at (hr.mono (by decide)) (by rfl) pass0 (pa_cons (pv 0) (pa_cons pe_int pa_nil))) pe_int) pe_int) pe_int (nomark _)) pa_nil)) (fun _ _ => rfl)))
      (pss_cons (ps_if (pt_cmpR op_ne (pe_kc G_number_of (hr.mono (by decide)) (by rfl) pass0 (pa_cons (pe_kc G_told (hr.mono (by decide)) (by rfl) passL (pa_cons (pe_callB (callLen K) (by rfl) T.z_len PySem.boot_len (pa_cons (pv 1) pa_nil)) (pa_cons (pv 6) pa_nil))) pa_nil)) (pv 6) (nomark _))
      (pss_one (ps_ret pe_bl))
      pss_nil)
      (pss_cons (ps_set (i := 7) sc_law.nd rfl (Or.inl rfl) (pe_op op_mod (pe_kc G_law_cell_at (hr.mono (by decide)) (by rfl) pass0 (pa_cons (pv 0) (pa_cons pe_int pa_nil))) (pe_op op_pow pe_int pe_int)))
      (pss_one (ps_ret (pe_kc G_law_refused (hr.mono (by decide)) (by rfl) pass0 (pa_cons (pe_callB (callLen K) (by rfl) T.z_len PySem.boot_len (pa_cons (pv 1) pa_nil)) (pa_cons (pe_ix (ixL K) (pe_lst (pa_cons (pe_un un_neg pe_int) (pa_cons (pv 5) (pa_cons (pe_op op_sub (pe_un un_neg pe_int) (pv 7)) (pa_cons (pe_op op_add (pv 5) (pv 7)) pa_nil))))) (pe_op op_mod (pe_kc G_law_cell_at (hr.mono (by decide)) (by rfl) pass0 (pa_cons (pv 0) (pa_cons pe_int pa_nil))) pe_int) (fun _ _ => rfl)) pa_nil)))))))))))))), ?_⟩
    refine ⟨_, rfl, a, ns, 0, 12, rfl, hS, by decide, by decide, by decide, fun ws H1 w1 hrun hlw s1 _ hw1 => ?_⟩
    obtain ⟨hrk, hun⟩ := rk_ok hrun
    have hml : (ws.map Stp.v).length = ws.length := List.length_map _
    refine ⟨_, rfl, w1, ws, 0, rfl, SqL.of hw1, hrun, by omega, fun H2 v s2 hp => ?_⟩
    refine ⟨_, rfl, w1, ws, rfl, SqL.of (s2 _ _ hw1), hrun, hlw, fun H3 s3 => ?_⟩
    refine ⟨_, rfl, v, ws, rfl, hp.mono s3, hrun, hlw, fun H4 s4 => ?_⟩
    have hp4 := (hp.mono s3).mono s4
    have hw4 := s4 _ _ (s3 _ _ (s2 _ _ hw1))
    have hS4 := ((s1.trans s2).trans (s3.trans s4)).seq hS
    refine ⟨_, rfl, _, rfl, _, rfl, iteF ?_⟩
    refine ⟨_, rfl, _, rfl, rfl, _, rfl, ?_⟩
    rw [decide_eq_true rfl]
    refine iteF ?_
    refine ⟨_, rfl, w1, _, rfl, .inl (SqL.of hw4), _, rfl, ws.length, _, by rw [hml], hlw, fun j e hj H5 u s5 hu => ?_, fun z => absurd hrk (by omega)⟩
    have ej : j = rk 0 ws := by omega
    rw [ej, hun] at hu
    have hp5 := hp4.mono s5
    have hw5 := s5 _ _ hw4
    have hS5 := s5.seq hS4
    refine ⟨_, rfl, u, v, _, _, rfl, hu, hp5, _, rfl, iteF ?_⟩
    -- many = _law_goes_on(len(walk))[-1][0]
    refine ⟨_, rfl, w1, _, rfl, .inl (SqL.of hw5), ws.length, by rw [hml], hlw, fun H6 t s6 ht ⟨rs, hT, hlenT, hrow⟩ => ?_⟩
    obtain ⟨al, hal, hAl⟩ := hrow ws.length (by omega)
    refine ⟨_, rfl, t, _, _, _, rfl, rfl, SqL.of hT, at_end hlenT hal, al, _, 0, _, rfl, rfl, SqL.of hAl, atI_nat (j := 0) (rowV_at (by omega)), ?_⟩
    have hS6 := s6.seq hS5
    have hw6 := s6 _ _ hw5
    have hpos : 0 < cnt ws.length 0 := by omega
    -- number = [.., ..][..]
    refine ⟨_, rfl, a, ns, 2, rfl, hS6, by decide, _, rfl, _, _, rfl, rfl, (by show (0 : Int) < (cnt ws.length 0 : Nat); omega), _, rfl, _, _, rfl, rfl, (by show 2 ≤ sizeLine; decide), fun l hl => ?_⟩
    have hS7 := (sm_new (o := .lst [.int (cellAt ns 2 % (cnt ws.length 0 : Nat)), .int ((cnt ws.length 0 : Nat) - 1)]) hl).seq hS6
    refine ⟨_, rfl, a, ns, 3, rfl, hS7, by decide, _, _, rfl, rfl, ⟨by decide, by decide⟩, _, _, rfl, rfl, (by show (0 : Int) < 8; decide), rfl, .inr ⟨_, rfl, ?_⟩⟩
    have hnum : ∀ b : Bool, ∃ j : Nat, j < cnt ws.length 0 ∧ atI [V.int (cellAt ns 2 % (cnt ws.length 0 : Nat)), V.int ((cnt ws.length 0 : Nat) - 1)] (if b = true then 1 else 0) = some (.int (j : Int)) := fun b => by
      have p0 := Int.emod_nonneg (cellAt ns 2) (b := (cnt ws.length 0 : Nat)) (by omega)
      have p1 := Int.emod_lt_of_pos (cellAt ns 2) (b := (cnt ws.length 0 : Nat)) (by omega)
      cases b with
      | true =>
        refine ⟨cnt ws.length 0 - 1, by omega, ?_⟩
        rw [show ((cnt ws.length 0 - 1 : Nat) : Int) = (cnt ws.length 0 : Int) - 1 by omega]
        exact atI_nat (j := 1) rfl
      | false =>
        refine ⟨(cellAt ns 2 % (cnt ws.length 0 : Nat)).toNat, by omega, ?_⟩
        rw [show ((cellAt ns 2 % (cnt ws.length 0 : Nat)).toNat : Int) = cellAt ns 2 % (cnt ws.length 0 : Nat) by omega]
        exact atI_nat (j := 0) rfl
    obtain ⟨j2, hj2, hat2⟩ := hnum _
    refine ⟨l, _, _, _, rfl, rfl, SqL.of upd_same, hat2, ?_⟩
    have hw7 := (sm_new (o := .lst [.int (cellAt ns 2 % (cnt ws.length 0 : Nat)), .int ((cnt ws.length 0 : Nat) - 1)]) hl) _ _ hw6
    -- number_of(told(len(walk), number)) != number
    refine ⟨_, rfl, w1, _, rfl, .inl (SqL.of hw7), _, rfl, ws.length, _, by rw [hml], hlw, fun j e hj H8 u2 s8 hu2 => ?_, fun z => absurd hj2 (by omega)⟩
    have ej : j = j2 := by omega
    subst ej
    obtain ⟨hrun2, hlen2⟩ := unr_run hj
    refine ⟨u2, unr ws.length 0 j, rfl, by rw [hlen2]; exact hu2, hrun2, by omega, fun H9 s9 => ?_⟩
    rw [rk_unr hj]
    refine ⟨_, rfl, rfl, _, rfl, ?_⟩
    rw [decide_eq_true rfl]
    refine iteF ?_
    have hS9 := s9.seq (s8.seq hS7)
    have hw9 := s9 _ _ (s8 _ _ hw7)
    -- far
    refine ⟨_, rfl, a, ns, 2, rfl, hS9, by decide, _, _, rfl, rfl, ⟨by decide, by decide, by decide⟩, _, _, rfl, rfl, (by show (0 : Int) < 10 ^ 20; decide), ?_⟩
    have f0 : 0 ≤ cellAt ns 2 % (10 ^ 20 : Int) := Int.emod_nonneg _ (by decide)
    refine ⟨_, rfl, w1, _, rfl, .inl (SqL.of hw9), _, rfl, _, rfl, _, rfl, _, rfl, _, _, rfl, rfl, _, rfl, _, rfl, _, _, rfl, rfl, (by show 4 ≤ sizeLine; decide), fun l2 hl2 => ?_⟩
    refine ⟨_, rfl, a, ns, 3, rfl, (sm_new hl2).seq hS9, by decide, _, _, rfl, rfl, (by show (0 : Int) < 4; decide), ?_⟩
    have hfar : ∀ (f k : Int), 0 ≤ f → 0 ≤ k → k < 4 → ∃ z : Int, (z < 0 ∨ (cnt ws.length 0 : Int) ≤ z) ∧ atI [V.int (-1), V.int (cnt ws.length 0 : Nat), V.int (-1 - f), V.int ((cnt ws.length 0 : Nat) + f)] k = some (.int z) := fun f k h0 h1 h2 => by
      have : k = 0 ∨ k = 1 ∨ k = 2 ∨ k = 3 := by omega
      rcases this with e | e | e | e <;> subst e
      · exact ⟨-1, .inl (by decide), atI_nat (j := 0) rfl⟩
      · exact ⟨_, .inr (Int.le_refl _), atI_nat (j := 1) rfl⟩
      · exact ⟨-1 - f, .inl (by omega), atI_nat (j := 2) rfl⟩
      · exact ⟨_, .inr (by omega), atI_nat (j := 3) rfl⟩
    obtain ⟨z, hz, hatz⟩ := hfar (cellAt ns 2 % (10 ^ 20 : Int)) (cellAt ns 3 % 4) f0 (by omega) (by omega)
    refine ⟨l2, _, _, _, rfl, rfl, SqL.of upd_same, hatz, ws.length, z, by rw [hml], hlw, hz, q⟩
end
end Pg

namespace Pg
open PySem L2
theorem def_mk {K : PySem.W.Frag} {mg : Str → Option Value} {h : Heap} (X : K.In h) (G : h.Ns mainGlobals mg) {x : Str} {st : Stmt} {ps : List Str} {f : Addr} {oc : Value} {od an : Option Addr} {osl : Array (Option Value)} {kV doc pm cdv ct : Value}
    (a : PySem.W.nsIn K mainGlobals x = some (some (.ref f))) (l : K.lookup f = some ⟨oc, od, .func (PySem.W.fnOf x x (defArgs st) (defBody st) (defScope st) .none kV doc pm an cdv ct), osl⟩) (c : PySem.W.codeIn K cdv x = true) (k : PySem.W.keepIn K (.ref f) = true)
    (b : ∀ (kV doc pm : Value) (an : Option Addr) (cdv ct : Value) (us : List Value), us.length = ps.length → bindArgs (PySem.W.fnOf x x (defArgs st) (defBody st) (defScope st) .none kV doc pm an cdv ct) ⟨us, []⟩ = pure (ps.zip us)) : Def K mg x ps st :=
  ⟨f, _, PySem.W.mg_of X G a, (fun_mk l c k).binds b, fun_mk l c k⟩
theorem all_mk {l : PySem.W.OpenLaw} {w : World} {K : PySem.W.Frag} {h : Heap} {mg : Str → Option Value} {fa f0 f1 f2 f3 f4 f5 f6 f7 f8 f9 f10 f11 f12 f13 f14 f15 f16 f17 f18 C_PairError C_NoPairing C_NoWalk C_NoNumber C_TooMany C_BadNote : Addr} {od0 an0 : Option Addr} {sl0 : Array (Option Value)} {oc0 kV0 dc0 pm0 cd0 ct0 : Value} {od1 an1 : Option Addr} {sl1 : Array (Option Value)} {oc1 kV1 dc1 pm1 cd1 ct1 : Value} {od2 an2 : Option Addr} {sl2 : Array (Option Value)} {oc2 kV2 dc2 pm2 cd2 ct2 : Value} {od3 an3 : Option Addr} {sl3 : Array (Option Value)} {oc3 kV3 dc3 pm3 cd3 ct3 : Value} {od4 an4 : Option Addr} {sl4 : Array (Option Value)} {oc4 kV4 dc4 pm4 cd4 ct4 : Value} {od5 an5 : Option Addr} {sl5 : Array (Option Value)} {oc5 kV5 dc5 pm5 cd5 ct5 : Value} {od6 an6 : Option Addr} {sl6 : Array (Option Value)} {oc6 kV6 dc6 pm6 cd6 ct6 : Value} {od7 an7 : Option Addr} {sl7 : Array (Option Value)} {oc7 kV7 dc7 pm7 cd7 ct7 : Value} {od8 an8 : Option Addr} {sl8 : Array (Option Value)} {oc8 kV8 dc8 pm8 cd8 ct8 : Value} {od9 an9 : Option Addr} {sl9 : Array (Option Value)} {oc9 kV9 dc9 pm9 cd9 ct9 : Value} {od10 an10 : Option Addr} {sl10 : Array (Option Value)} {oc10 kV10 dc10 pm10 cd10 ct10 : Value} {od11 an11 : Option Addr} {sl11 : Array (Option Value)} {oc11 kV11 dc11 pm11 cd11 ct11 : Value} {od12 an12 : Option Addr} {sl12 : Array (Option Value)} {oc12 kV12 dc12 pm12 cd12 ct12 : Value} {od13 an13 : Option Addr} {sl13 : Array (Option Value)} {oc13 kV13 dc13 pm13 cd13 ct13 : Value} {od14 an14 : Option Addr} {sl14 : Array (Option Value)} {oc14 kV14 dc14 pm14 cd14 ct14 : Value} {od15 an15 : Option Addr} {sl15 : Array (Option Value)} {oc15 kV15 dc15 pm15 cd15 ct15 : Value} {od16 an16 : Option Addr} {sl16 : Array (Option Value)} {oc16 kV16 dc16 pm16 cd16 ct16 : Value} {od17 an17 : Option Addr} {sl17 : Array (Option Value)} {oc17 kV17 dc17 pm17 cd17 ct17 : Value} {od18 an18 : Option Addr} {sl18 : Array (Option Value)} {oc18 kV18 dc18 pm18 cd18 ct18 : Value} {t_MOST : Tok} (X : K.In h) (G : h.Ns mainGlobals mg) (hfa : mg "law" = some (.ref fa))
    (a0 : PySem.W.nsIn K mainGlobals "_law_cell_at" = some (some (.ref f0))) (l0 : K.lookup f0 = some ⟨oc0, od0, .func (PySem.W.fnOf "_law_cell_at" "_law_cell_at" (defArgs s_law_cell_at) (defBody s_law_cell_at) (defScope s_law_cell_at) .none kV0 dc0 pm0 an0 cd0 ct0), sl0⟩) (c0 : PySem.W.codeIn K cd0 "_law_cell_at" = true) (k0 : PySem.W.keepIn K (.ref f0) = true)
    (a1 : PySem.W.nsIn K mainGlobals "_law_choice" = some (some (.ref f1))) (l1 : K.lookup f1 = some ⟨oc1, od1, .func (PySem.W.fnOf "_law_choice" "_law_choice" (defArgs s_law_choice) (defBody s_law_choice) (defScope s_law_choice) .none kV1 dc1 pm1 an1 cd1 ct1), sl1⟩) (c1 : PySem.W.codeIn K cd1 "_law_choice" = true) (k1 : PySem.W.keepIn K (.ref f1) = true)
    (a2 : PySem.W.nsIn K mainGlobals "_law_walk" = some (some (.ref f2))) (l2 : K.lookup f2 = some ⟨oc2, od2, .func (PySem.W.fnOf "_law_walk" "_law_walk" (defArgs s_law_walk) (defBody s_law_walk) (defScope s_law_walk) .none kV2 dc2 pm2 an2 cd2 ct2), sl2⟩) (c2 : PySem.W.codeIn K cd2 "_law_walk" = true) (k2 : PySem.W.keepIn K (.ref f2) = true)
    (a3 : PySem.W.nsIn K mainGlobals "_law_points" = some (some (.ref f3))) (l3 : K.lookup f3 = some ⟨oc3, od3, .func (PySem.W.fnOf "_law_points" "_law_points" (defArgs s_law_points) (defBody s_law_points) (defScope s_law_points) .none kV3 dc3 pm3 an3 cd3 ct3), sl3⟩) (c3 : PySem.W.codeIn K cd3 "_law_points" = true) (k3 : PySem.W.keepIn K (.ref f3) = true)
    (a4 : PySem.W.nsIn K mainGlobals "_law_drawn" = some (some (.ref f4))) (l4 : K.lookup f4 = some ⟨oc4, od4, .func (PySem.W.fnOf "_law_drawn" "_law_drawn" (defArgs s_law_drawn) (defBody s_law_drawn) (defScope s_law_drawn) .none kV4 dc4 pm4 an4 cd4 ct4), sl4⟩) (c4 : PySem.W.codeIn K cd4 "_law_drawn" = true) (k4 : PySem.W.keepIn K (.ref f4) = true)
    (a5 : PySem.W.nsIn K mainGlobals "_law_of_walk" = some (some (.ref f5))) (l5 : K.lookup f5 = some ⟨oc5, od5, .func (PySem.W.fnOf "_law_of_walk" "_law_of_walk" (defArgs s_law_of_walk) (defBody s_law_of_walk) (defScope s_law_of_walk) .none kV5 dc5 pm5 an5 cd5 ct5), sl5⟩) (c5 : PySem.W.codeIn K cd5 "_law_of_walk" = true) (k5 : PySem.W.keepIn K (.ref f5) = true)
    (a6 : PySem.W.nsIn K mainGlobals "_law_goes_on" = some (some (.ref f6))) (l6 : K.lookup f6 = some ⟨oc6, od6, .func (PySem.W.fnOf "_law_goes_on" "_law_goes_on" (defArgs s_law_goes_on) (defBody s_law_goes_on) (defScope s_law_goes_on) .none kV6 dc6 pm6 an6 cd6 ct6), sl6⟩) (c6 : PySem.W.codeIn K cd6 "_law_goes_on" = true) (k6 : PySem.W.keepIn K (.ref f6) = true)
    (a7 : PySem.W.nsIn K mainGlobals "_law_number" = some (some (.ref f7))) (l7 : K.lookup f7 = some ⟨oc7, od7, .func (PySem.W.fnOf "_law_number" "_law_number" (defArgs s_law_number) (defBody s_law_number) (defScope s_law_number) .none kV7 dc7 pm7 an7 cd7 ct7), sl7⟩) (c7 : PySem.W.codeIn K cd7 "_law_number" = true) (k7 : PySem.W.keepIn K (.ref f7) = true)
    (a8 : PySem.W.nsIn K mainGlobals "endings" = some (some (.ref f8))) (l8 : K.lookup f8 = some ⟨oc8, od8, .func (PySem.W.fnOf "endings" "endings" (defArgs s_endings) (defBody s_endings) (defScope s_endings) .none kV8 dc8 pm8 an8 cd8 ct8), sl8⟩) (c8 : PySem.W.codeIn K cd8 "endings" = true) (k8 : PySem.W.keepIn K (.ref f8) = true)
    (a9 : PySem.W.nsIn K mainGlobals "partners" = some (some (.ref f9))) (l9 : K.lookup f9 = some ⟨oc9, od9, .func (PySem.W.fnOf "partners" "partners" (defArgs s_partners) (defBody s_partners) (defScope s_partners) .none kV9 dc9 pm9 an9 cd9 ct9), sl9⟩) (c9 : PySem.W.codeIn K cd9 "partners" = true) (k9 : PySem.W.keepIn K (.ref f9) = true)
    (a10 : PySem.W.nsIn K mainGlobals "walk_of" = some (some (.ref f10))) (l10 : K.lookup f10 = some ⟨oc10, od10, .func (PySem.W.fnOf "walk_of" "walk_of" (defArgs s_walk_of) (defBody s_walk_of) (defScope s_walk_of) .none kV10 dc10 pm10 an10 cd10 ct10), sl10⟩) (c10 : PySem.W.codeIn K cd10 "walk_of" = true) (k10 : PySem.W.keepIn K (.ref f10) = true)
    (a11 : PySem.W.nsIn K mainGlobals "steps_at" = some (some (.ref f11))) (l11 : K.lookup f11 = some ⟨oc11, od11, .func (PySem.W.fnOf "steps_at" "steps_at" (defArgs s_steps_at) (defBody s_steps_at) (defScope s_steps_at) .none kV11 dc11 pm11 an11 cd11 ct11), sl11⟩) (c11 : PySem.W.codeIn K cd11 "steps_at" = true) (k11 : PySem.W.keepIn K (.ref f11) = true)
    (a12 : PySem.W.nsIn K mainGlobals "number_of" = some (some (.ref f12))) (l12 : K.lookup f12 = some ⟨oc12, od12, .func (PySem.W.fnOf "number_of" "number_of" (defArgs s_number_of) (defBody s_number_of) (defScope s_number_of) .none kV12 dc12 pm12 an12 cd12 ct12), sl12⟩) (c12 : PySem.W.codeIn K cd12 "number_of" = true) (k12 : PySem.W.keepIn K (.ref f12) = true)
    (a13 : PySem.W.nsIn K mainGlobals "pairing_of" = some (some (.ref f13))) (l13 : K.lookup f13 = some ⟨oc13, od13, .func (PySem.W.fnOf "pairing_of" "pairing_of" (defArgs s_pairing_of) (defBody s_pairing_of) (defScope s_pairing_of) .none kV13 dc13 pm13 an13 cd13 ct13), sl13⟩) (c13 : PySem.W.codeIn K cd13 "pairing_of" = true) (k13 : PySem.W.keepIn K (.ref f13) = true)
    (a14 : PySem.W.nsIn K mainGlobals "told" = some (some (.ref f14))) (l14 : K.lookup f14 = some ⟨oc14, od14, .func (PySem.W.fnOf "told" "told" (defArgs s_told) (defBody s_told) (defScope s_told) .none kV14 dc14 pm14 an14 cd14 ct14), sl14⟩) (c14 : PySem.W.codeIn K cd14 "told" = true) (k14 : PySem.W.keepIn K (.ref f14) = true)
    (a15 : PySem.W.nsIn K mainGlobals "_law_refused" = some (some (.ref f15))) (l15 : K.lookup f15 = some ⟨oc15, od15, .func (PySem.W.fnOf "_law_refused" "_law_refused" (defArgs s_law_refused) (defBody s_law_refused) (defScope s_law_refused) .none kV15 dc15 pm15 an15 cd15 ct15), sl15⟩) (c15 : PySem.W.codeIn K cd15 "_law_refused" = true) (k15 : PySem.W.keepIn K (.ref f15) = true)
    (a16 : PySem.W.nsIn K mainGlobals "_law_whole" = some (some (.ref f16))) (l16 : K.lookup f16 = some ⟨oc16, od16, .func (PySem.W.fnOf "_law_whole" "_law_whole" (defArgs s_law_whole) (defBody s_law_whole) (defScope s_law_whole) .none kV16 dc16 pm16 an16 cd16 ct16), sl16⟩) (c16 : PySem.W.codeIn K cd16 "_law_whole" = true) (k16 : PySem.W.keepIn K (.ref f16) = true)
    (a17 : PySem.W.nsIn K mainGlobals "_law_is_pairing" = some (some (.ref f17))) (l17 : K.lookup f17 = some ⟨oc17, od17, .func (PySem.W.fnOf "_law_is_pairing" "_law_is_pairing" (defArgs s_law_is_pairing) (defBody s_law_is_pairing) (defScope s_law_is_pairing) .none kV17 dc17 pm17 an17 cd17 ct17), sl17⟩) (c17 : PySem.W.codeIn K cd17 "_law_is_pairing" = true) (k17 : PySem.W.keepIn K (.ref f17) = true)
    (a18 : PySem.W.nsIn K mainGlobals "law" = some (some (.ref f18))) (l18 : K.lookup f18 = some ⟨oc18, od18, .func (PySem.W.fnOf "law" "law" (defArgs s_law) (defBody s_law) (defScope s_law) .none kV18 dc18 pm18 an18 cd18 ct18), sl18⟩) (c18 : PySem.W.codeIn K cd18 "law" = true) (k18 : PySem.W.keepIn K (.ref f18) = true)
    (z_ValueError : PySem.W.nsIn K mainGlobals "ValueError" = some none)
    (z_bool : PySem.W.nsIn K mainGlobals "bool" = some none)
    (z_int : PySem.W.nsIn K mainGlobals "int" = some none)
    (z_isinstance : PySem.W.nsIn K mainGlobals "isinstance" = some none)
    (z_len : PySem.W.nsIn K mainGlobals "len" = some none)
    (z_list : PySem.W.nsIn K mainGlobals "list" = some none)
    (z_range : PySem.W.nsIn K mainGlobals "range" = some none)
    (z_sorted : PySem.W.nsIn K mainGlobals "sorted" = some none)
    (z_str : PySem.W.nsIn K mainGlobals "str" = some none)
    (z_tuple : PySem.W.nsIn K mainGlobals "tuple" = some none)
    (g_MOST : PySem.W.nsIn K mainGlobals "MOST" = some (some (.int 60 t_MOST)))
    (g_PairError : PySem.W.nsIn K mainGlobals "PairError" = some (some (.ref C_PairError)))
    (g_NoPairing : PySem.W.nsIn K mainGlobals "NoPairing" = some (some (.ref C_NoPairing)))
    (g_NoWalk : PySem.W.nsIn K mainGlobals "NoWalk" = some (some (.ref C_NoWalk)))
    (g_NoNumber : PySem.W.nsIn K mainGlobals "NoNumber" = some (some (.ref C_NoNumber)))
    (g_TooMany : PySem.W.nsIn K mainGlobals "TooMany" = some (some (.ref C_TooMany)))
    (g_BadNote : PySem.W.nsIn K mainGlobals "BadNote" = some (some (.ref C_BadNote)))
    (x_NoNumber : PySem.W.excIn K C_NoNumber [.type "ValueError", .type "Exception", .type "BaseException", .type "object"] "ValueError.__new__" = true)
    (k_NoNumber : PySem.W.keepIn K (.ref C_NoNumber) = true)
    (b_NoNumber : PySem.W.subIn K (.ref C_NoNumber) (.type "BaseException") = some true)
    (t_NoNumber : PySem.W.typeIn K (.ref C_NoNumber) = some (.type "type"))
    (b_PairError : PySem.W.subIn K (.ref C_PairError) (.type "BaseException") = some true)
    (d_PairError : PySem.W.hasDictIn K C_PairError = true)
    (t_PairError : PySem.W.typeIn K (.ref C_PairError) = some (.type "type"))
    (d_NoNumber : PySem.W.hasDictIn K C_NoNumber = true)
    (s_NoNumber_PairError : PySem.W.subIn K (.ref C_NoNumber) (.ref C_PairError) = some true)
    (e1_NoNumber : PySem.W.findIn K (.ref C_NoNumber) "__getattribute__" = some (some (.builtin "BaseException.__getattribute__")))
    (e2_NoNumber : PySem.W.findIn K (.ref C_NoNumber) "__getattr__" = some none)
    (e5_NoNumber : PySem.W.findIn K (.ref C_NoNumber) "__class__" = some (some (.builtin "object.__class__")))
    (e6_NoNumber : PySem.W.specialIn K (.builtin "object.__class__") "__get__" = some (some (.builtin "getset_descriptor.__get__")))
    (e7_NoNumber : PySem.W.takesIn K (.builtin "object.__class__") = some true)
    (e8_NoNumber : PySem.W.mroIn K C_NoNumber (.type "object") = some true)
    (s_NoNumber_NoNumber : PySem.W.subIn K (.ref C_NoNumber) (.ref C_NoNumber) = some true)
    (d_NoPairing : PySem.W.hasDictIn K C_NoPairing = true)
    (t_NoPairing : PySem.W.typeIn K (.ref C_NoPairing) = some (.type "type"))
    (s_NoNumber_NoPairing : PySem.W.subIn K (.ref C_NoNumber) (.ref C_NoPairing) = some false)
    (d_NoWalk : PySem.W.hasDictIn K C_NoWalk = true)
    (t_NoWalk : PySem.W.typeIn K (.ref C_NoWalk) = some (.type "type"))
    (s_NoNumber_NoWalk : PySem.W.subIn K (.ref C_NoNumber) (.ref C_NoWalk) = some false)
    (d_TooMany : PySem.W.hasDictIn K C_TooMany = true)
    (t_TooMany : PySem.W.typeIn K (.ref C_TooMany) = some (.type "type"))
    (s_NoNumber_TooMany : PySem.W.subIn K (.ref C_NoNumber) (.ref C_TooMany) = some false)
    (d_BadNote : PySem.W.hasDictIn K C_BadNote = true)
    (t_BadNote : PySem.W.typeIn K (.ref C_BadNote) = some (.type "type"))
    (s_NoNumber_BadNote : PySem.W.subIn K (.ref C_NoNumber) (.ref C_BadNote) = some false)
    (v_NoNumber : PySem.W.subIn K (.ref C_NoNumber) (.type "ValueError") = some true) :
    ∃ fd : FuncData, (∀ (s : Shared) (v : Value), BindsTo s fd ⟨[v], []⟩ [("script", v)]) ∧ ∀ base : Heap, K.In base → base.Ns mainGlobals mg → FnOk l.prog w K mg base CX0 4 fa fd ["script"] (sp_law K) := by
  have e := hfa.symm.trans (PySem.W.mg_of X G a18)
  cases e
  have D_law_cell_at : Def K mg "_law_cell_at" ["script", "k"] s_law_cell_at := def_mk X G a0 l0 c0 k0 fun _ _ _ _ _ _ us hl => match us, hl with | [_, _], _ => rfl
  have D_law_choice : Def K mg "_law_choice" ["state", "many"] s_law_choice := def_mk X G a1 l1 c1 k1 fun _ _ _ _ _ _ us hl => match us, hl with | [_, _], _ => rfl
  have D_law_walk : Def K mg "_law_walk" ["cell", "points", "plain"] s_law_walk := def_mk X G a2 l2 c2 k2 fun _ _ _ _ _ _ us hl => match us, hl with | [_, _, _], _ => rfl
  have D_law_points : Def K mg "_law_points" ["cell", "most"] s_law_points := def_mk X G a3 l3 c3 k3 fun _ _ _ _ _ _ us hl => match us, hl with | [_, _], _ => rfl
  have D_law_drawn : Def K mg "_law_drawn" ["script", "start", "most"] s_law_drawn := def_mk X G a4 l4 c4 k4 fun _ _ _ _ _ _ us hl => match us, hl with | [_, _, _], _ => rfl
  have D_law_of_walk : Def K mg "_law_of_walk" ["walk"] s_law_of_walk := def_mk X G a5 l5 c5 k5 fun _ _ _ _ _ _ us hl => match us, hl with | [_], _ => rfl
  have D_law_goes_on : Def K mg "_law_goes_on" ["points"] s_law_goes_on := def_mk X G a6 l6 c6 k6 fun _ _ _ _ _ _ us hl => match us, hl with | [_], _ => rfl
  have D_law_number : Def K mg "_law_number" ["walk"] s_law_number := def_mk X G a7 l7 c7 k7 fun _ _ _ _ _ _ us hl => match us, hl with | [_], _ => rfl
  have D_endings : Def K mg "endings" ["points"] s_endings := def_mk X G a8 l8 c8 k8 fun _ _ _ _ _ _ us hl => match us, hl with | [_], _ => rfl
  have D_partners : Def K mg "partners" ["pairing"] s_partners := def_mk X G a9 l9 c9 k9 fun _ _ _ _ _ _ us hl => match us, hl with | [_], _ => rfl
  have D_walk_of : Def K mg "walk_of" ["pairing"] s_walk_of := def_mk X G a10 l10 c10 k10 fun _ _ _ _ _ _ us hl => match us, hl with | [_], _ => rfl
  have D_steps_at : Def K mg "steps_at" ["height"] s_steps_at := def_mk X G a11 l11 c11 k11 fun _ _ _ _ _ _ us hl => match us, hl with | [_], _ => rfl
  have D_number_of : Def K mg "number_of" ["pairing"] s_number_of := def_mk X G a12 l12 c12 k12 fun _ _ _ _ _ _ us hl => match us, hl with | [_], _ => rfl
  have D_pairing_of : Def K mg "pairing_of" ["walk"] s_pairing_of := def_mk X G a13 l13 c13 k13 fun _ _ _ _ _ _ us hl => match us, hl with | [_], _ => rfl
  have D_told : Def K mg "told" ["points", "number"] s_told := def_mk X G a14 l14 c14 k14 fun _ _ _ _ _ _ us hl => match us, hl with | [_, _], _ => rfl
  have D_law_refused : Def K mg "_law_refused" ["points", "number"] s_law_refused := def_mk X G a15 l15 c15 k15 fun _ _ _ _ _ _ us hl => match us, hl with | [_, _], _ => rfl
  have D_law_whole : Def K mg "_law_whole" ["found"] s_law_whole := def_mk X G a16 l16 c16 k16 fun _ _ _ _ _ _ us hl => match us, hl with | [_], _ => rfl
  have D_law_is_pairing : Def K mg "_law_is_pairing" ["found", "due"] s_law_is_pairing := def_mk X G a17 l17 c17 k17 fun _ _ _ _ _ _ us hl => match us, hl with | [_, _], _ => rfl
  have D_law : Def K mg "law" ["script"] s_law := def_mk X G a18 l18 c18 k18 fun _ _ _ _ _ _ us hl => match us, hl with | [_], _ => rfl
  have T : Txt K mg ⟨C_PairError, C_NoPairing, C_NoWalk, C_NoNumber, C_TooMany, C_BadNote⟩ := ⟨PySem.W.mg_none_of X G z_ValueError, PySem.W.mg_none_of X G z_bool, PySem.W.mg_none_of X G z_int, PySem.W.mg_none_of X G z_isinstance, PySem.W.mg_none_of X G z_len, PySem.W.mg_none_of X G z_list, PySem.W.mg_none_of X G z_range, PySem.W.mg_none_of X G z_sorted, PySem.W.mg_none_of X G z_str, PySem.W.mg_none_of X G z_tuple, ⟨_, PySem.W.mg_of X G g_MOST⟩, PySem.W.mg_of X G g_PairError, PySem.W.mg_of X G g_NoPairing, PySem.W.mg_of X G g_NoWalk, PySem.W.mg_of X G g_NoNumber, PySem.W.mg_of X G g_TooMany, PySem.W.mg_of X G g_BadNote, x_NoNumber, k_NoNumber, b_NoNumber, t_NoNumber, (PySem.W.exm_ref b_PairError d_PairError t_PairError s_NoNumber_PairError), ⟨e1_NoNumber, e2_NoNumber, b_NoNumber, d_NoNumber, e5_NoNumber, e6_NoNumber, e7_NoNumber, e8_NoNumber⟩, (kit_own s_NoNumber_NoNumber d_NoPairing t_NoPairing s_NoNumber_NoPairing), (kit_own s_NoNumber_NoNumber d_NoWalk t_NoWalk s_NoNumber_NoWalk), (kit_own s_NoNumber_NoNumber d_NoNumber t_NoNumber s_NoNumber_NoNumber), (kit_own s_NoNumber_NoNumber d_TooMany t_TooMany s_NoNumber_TooMany), (kit_own s_NoNumber_NoNumber d_BadNote t_BadNote s_NoNumber_BadNote), (kit_ve v_NoNumber)⟩
  refine ⟨PySem.W.fnOf "law" "law" (defArgs s_law) (defBody s_law) (defScope s_law) .none kV18 dc18 pm18 an18 cd18 ct18, fun s v => .of_eq rfl, fun base _ _ => ?_⟩
  have G_law_cell_at := ok_law_cell_at (P := l.prog) (w := w) (base := base) T D_law_cell_at
  have G_law_choice := ok_law_choice (P := l.prog) (w := w) (base := base) T D_law_choice
  have G_law_walk := ok_law_walk (P := l.prog) (w := w) (base := base) T D_law_walk G_law_choice
  have G_law_points := ok_law_points (P := l.prog) (w := w) (base := base) T D_law_points
  have G_law_drawn := ok_law_drawn (P := l.prog) (w := w) (base := base) T D_law_drawn G_law_cell_at G_law_walk G_law_points
  have G_law_of_walk := ok_law_of_walk (P := l.prog) (w := w) (base := base) T D_law_of_walk
  have G_law_goes_on := ok_law_goes_on (P := l.prog) (w := w) (base := base) T D_law_goes_on
  have G_law_number := ok_law_number (P := l.prog) (w := w) (base := base) T D_law_number G_law_goes_on
  have G_endings := ok_endings (P := l.prog) (w := w) (base := base) T D_endings
  have G_partners := ok_partners (P := l.prog) (w := w) (base := base) T D_partners
  have G_walk_of := ok_walk_of (P := l.prog) (w := w) (base := base) T D_walk_of G_partners
  have G_steps_at := ok_steps_at (P := l.prog) (w := w) (base := base) T D_steps_at
  have G_number_of := ok_number_of (P := l.prog) (w := w) (base := base) T D_number_of G_endings G_walk_of G_steps_at
  have G_pairing_of := ok_pairing_of (P := l.prog) (w := w) (base := base) T D_pairing_of
  have G_told := ok_told (P := l.prog) (w := w) (base := base) T D_told G_endings G_pairing_of G_steps_at
  have G_law_refused := ok_law_refused (P := l.prog) (w := w) (base := base) T D_law_refused G_told
  have G_law_whole := ok_law_whole (P := l.prog) (w := w) (base := base) T D_law_whole
  have G_law_is_pairing := ok_law_is_pairing (P := l.prog) (w := w) (base := base) T D_law_is_pairing G_law_whole
  exact ok_law T (fun_mk (st := s_law) l18 c18 k18) G_law_drawn G_law_of_walk G_law_number G_number_of G_law_refused G_law_cell_at G_law_whole G_law_is_pairing G_law_goes_on G_told
end Pg

open PySem PySem.W PyProof.Rows
set_option maxRecDepth 100000 in
set_option maxHeartbeats 0 in
theorem PySem.Challenge.cw_pairlings_k10_told_by_number_holds : PySem.Challenge.rw_pairlings_k10_told_by_number.Holds := by
  w_on; o_law; k_head; (case hw => w_witness2)
  k_fill
  refine L2.walk_of (l := PySem.Challenge.rw_pairlings_k10_told_by_number) (n := 63) (k := 4) (x := "script") (CX := fun _ => L2.CX0) (sp := fun w => Pg.sp_law _) rfl (by decide) rfl ⟨rfl, by decide, by decide⟩ (fun w h Y => PySem.W.kIn_of Y) ?F (fun _ _ a ns hl _ hS => ⟨a, ns, rfl, hS, hl, fun _ => rfl⟩) (fun _ _ _ _ _ h => h)
  case F =>
    intro w mg fa h KX G hmg
    refine' Pg.all_mk KX G hmg ?a0 ?l0 ?c0 ?k0 ?a1 ?l1 ?c1 ?k1 ?a2 ?l2 ?c2 ?k2 ?a3 ?l3 ?c3 ?k3 ?a4 ?l4 ?c4 ?k4 ?a5 ?l5 ?c5 ?k5 ?a6 ?l6 ?c6 ?k6 ?a7 ?l7 ?c7 ?k7 ?a8 ?l8 ?c8 ?k8 ?a9 ?l9 ?c9 ?k9 ?a10 ?l10 ?c10 ?k10 ?a11 ?l11 ?c11 ?k11 ?a12 ?l12 ?c12 ?k12 ?a13 ?l13 ?c13 ?k13 ?a14 ?l14 ?c14 ?k14 ?a15 ?l15 ?c15 ?k15 ?a16 ?l16 ?c16 ?k16 ?a17 ?l17 ?c17 ?k17 ?a18 ?l18 ?c18 ?k18 ?z_ValueError ?z_bool ?z_int ?z_isinstance ?z_len ?z_list ?z_range ?z_sorted ?z_str ?z_tuple ?g_MOST ?g_PairError ?g_NoPairing ?g_NoWalk ?g_NoNumber ?g_TooMany ?g_BadNote ?x_NoNumber ?k_NoNumber ?b_NoNumber ?t_NoNumber ?b_PairError ?d_PairError ?t_PairError ?d_NoNumber ?s_NoNumber_PairError ?e1_NoNumber ?e2_NoNumber ?e5_NoNumber ?e6_NoNumber ?e7_NoNumber ?e8_NoNumber ?s_NoNumber_NoNumber ?d_NoPairing ?t_NoPairing ?s_NoNumber_NoPairing ?d_NoWalk ?t_NoWalk ?s_NoNumber_NoWalk ?d_TooMany ?t_TooMany ?s_NoNumber_TooMany ?d_BadNote ?t_BadNote ?s_NoNumber_BadNote ?v_NoNumber
    (case a0 => k_is)
    (case l0 => k_is)
    (case c0 => k_is)
    (case k0 => k_is)
    (case a1 => k_is)
    (case l1 => k_is)
    (case c1 => k_is)
    (case k1 => k_is)
    (case a2 => k_is)
    (case l2 => k_is)
    (case c2 => k_is)
    (case k2 => k_is)
    (case a3 => k_is)
    (case l3 => k_is)
    (case c3 => k_is)
    (case k3 => k_is)
    (case a4 => k_is)
    (case l4 => k_is)
    (case c4 => k_is)
    (case k4 => k_is)
    (case a5 => k_is)
    (case l5 => k_is)
    (case c5 => k_is)
    (case k5 => k_is)
    (case a6 => k_is)
    (case l6 => k_is)
    (case c6 => k_is)
    (case k6 => k_is)
    (case a7 => k_is)
    (case l7 => k_is)
    (case c7 => k_is)
    (case k7 => k_is)
    (case a8 => k_is)
    (case l8 => k_is)
    (case c8 => k_is)
    (case k8 => k_is)
    (case a9 => k_is)
    (case l9 => k_is)
    (case c9 => k_is)
    (case k9 => k_is)
    (case a10 => k_is)
    (case l10 => k_is)
    (case c10 => k_is)
    (case k10 => k_is)
    (case a11 => k_is)
    (case l11 => k_is)
    (case c11 => k_is)
    (case k11 => k_is)
    (case a12 => k_is)
    (case l12 => k_is)
    (case c12 => k_is)
    (case k12 => k_is)
    (case a13 => k_is)
    (case l13 => k_is)
    (case c13 => k_is)
    (case k13 => k_is)
    (case a14 => k_is)
    (case l14 => k_is)
    (case c14 => k_is)
    (case k14 => k_is)
    (case a15 => k_is)
    (case l15 => k_is)
    (case c15 => k_is)
    (case k15 => k_is)
    (case a16 => k_is)
    (case l16 => k_is)
    (case c16 => k_is)
    (case k16 => k_is)
    (case a17 => k_is)
    (case l17 => k_is)
    (case c17 => k_is)
    (case k17 => k_is)
    (case a18 => k_is)
    (case l18 => k_is)
    (case c18 => k_is)
    (case k18 => k_is)
    (case z_ValueError => k_is)
    (case z_bool => k_is)
    (case z_int => k_is)
    (case z_isinstance => k_is)
    (case z_len => k_is)
    (case z_list => k_is)
    (case z_range => k_is)
    (case z_sorted => k_is)
    (case z_str => k_is)
    (case z_tuple => k_is)
    (case g_MOST => k_is)
    (case g_PairError => k_is)
    (case g_NoPairing => k_is)
    (case g_NoWalk => k_is)
    (case g_NoNumber => k_is)
    (case g_TooMany => k_is)
    (case g_BadNote => k_is)
    (case x_NoNumber => k_exc)
    (case k_NoNumber => k_is)
    (case b_NoNumber => k_is)
    (case t_NoNumber => k_is)
    (case b_PairError => k_is)
    (case d_PairError => k_is)
    (case t_PairError => k_is)
    (case d_NoNumber => k_is)
    (case s_NoNumber_PairError => k_is)
    (case e1_NoNumber => k_is)
    (case e2_NoNumber => k_is)
    (case e5_NoNumber => k_is)
    (case e6_NoNumber => k_is)
    (case e7_NoNumber => k_is)
    (case e8_NoNumber => k_is)
    (case s_NoNumber_NoNumber => k_is)
    (case d_NoPairing => k_is)
    (case t_NoPairing => k_is)
    (case s_NoNumber_NoPairing => k_is)
    (case d_NoWalk => k_is)
    (case t_NoWalk => k_is)
    (case s_NoNumber_NoWalk => k_is)
    (case d_TooMany => k_is)
    (case t_TooMany => k_is)
    (case s_NoNumber_TooMany => k_is)
    (case d_BadNote => k_is)
    (case t_BadNote => k_is)
    (case s_NoNumber_BadNote => k_is)
    (case v_NoNumber => k_is)
