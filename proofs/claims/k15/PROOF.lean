import PyProof.Rows.All
import Wide.All
import OpenK.AllK
import Wide.FinOn
import HandS.ForMost
import HandS.ForExc
import HandS.Conv
import HandS.SortRule
import HandS.IsInst
import HandS.Evl
import HandS.SetFor
import HandS.SortInts
import HandS.Deep
import HandS.ExcIs
import HandS.Zip
import HandS.TryOnly
import HandS.Comp
import HandS.TupLe
import HandS.SuiteRaise
import HandS.WordsExc
import KE.DataMinMax
import HandS.SortKw
import HandS.More
import PySem.Challenge.RW_pairlings_k15_texts_refused
set_option Elab.async false
set_option linter.all false
set_option maxRecDepth 100000
set_option maxHeartbeats 4000000
namespace Pg
open PySem L2
/-! ### a def that stands at a module's name and keeps its promise -/
structure Known (P : Program) (w : World) (K : PySem.W.Frag) (mg : Str → Option Value) (base : Heap) (CX : CXT) (k : Nat) (x : Str) (ps : List Str) (sp : Sp) : Prop where
  ex : ∃ (f : Addr) (fd : FuncData), mg x = some (.ref f) ∧ PySem.W.keepIn K (.ref f) = true ∧ Binds K fd ps [] ∧ FnOk P w K mg base CX k f fd ps sp
/-- what the top has left of a def: where it stands, its text, how it binds -/
structure Def (K : PySem.W.Frag) (mg : Str → Option Value) (x : Str) (ps : List Str) (st : Stmt) : Prop where
  ex : ∃ (f : Addr) (fd : FuncData), mg x = some (.ref f) ∧ Binds K fd ps [] ∧ Fun K x x st f fd
theorem Def.known {P : Program} {w : World} {K : PySem.W.Frag} {mg : Str → Option Value} {base : Heap} {CX : CXT} {k : Nat} {x : Str} {ps : List Str} {st : Stmt} {sp : Sp} (D : Def K mg x ps st)
    (h : ∀ f fd, Fun K x x st f fd → FnOk P w K mg base CX k f fd ps sp) : Known P w K mg base CX k x ps sp := by
  obtain ⟨f, fd, hm, hb, F⟩ := D.ex
  exact ⟨f, fd, hm, F.kp, hb, h f fd F⟩
/-- f(e, ..) -/
def tCl (sp : Sp) (E : XK) (t : TA) : TE := fun σ H Q => t σ H fun vs H1 => sp vs H1 Q E
theorem pe_kc {X : Cx} {CX : CXT} {k : Nat} {x : Str} {ps : List Str} {sp : Sp} {E : XK} {t : TA} {e : Expr} {es : List Expr} {p pos : Pos} (G : Known X.prog X.w X.K X.mg X.base CX k x ps sp) (hr : Room k X.A) (hg : Gl X x) (hx : Passes CX X E)
    (ha : PA X (e :: es) t) (hdb : (x == ("__debug__" : Str)) = false := by decide) (he : starEach (e :: es) X.env = (false, eval e X.env) :: starEach es X.env := by rfl) (hpl : (backTo pos (starEach es X.env)).any (·.1) = false := by rfl) :
    PE X (.Call (.Name x p) (e :: es) [] pos) (tCl sp E t) := by
  obtain ⟨f, fd, hm, hk, hb, F⟩ := G.ex
  have h : PE X (.Call (.Name x p) (e :: es) [] pos) (tCall sp [] E t) := pe_call (dvs := []) (ds := []) F hr hg hm hk hb Paired.nil hx ha hdb he hpl
  refine ⟨fun pins s σ H Q I q => h.run pins s σ H Q I ?_⟩
  have e : (fun (vs : List V) (H1 : Hp) => sp (vs ++ []) H1 Q E) = fun vs H1 => sp vs H1 Q E := funext fun vs => by rw [List.append_nil]
  show t σ H (fun (vs : List V) (H1 : Hp) => sp (vs ++ []) H1 Q E)
  rw [e]
  exact q
/-! ### heaps -/
theorem sm_new {H : Hp} {p : Addr} {o : HO} (h : H p = none) : Same H (upd H p o) := fun b x e => by
  rw [upd_ne (ne_of_none e h)]
  exact e
/-- an object that H does not know may change -/
theorem sm_mut {H H' : Hp} {p : Addr} {o : HO} (e : Same H H') (h : H p = none) : Same H (upd H' p o) := fun a u ha => by
  rw [upd_ne (ne_of_none ha h)]
  exact e a u ha
theorem sm_seqT {K : PySem.W.Frag} {H H' : Hp} {a : Addr} {xs : List V} (e : Same H H') (h : SqT K H a xs) : SqT K H' a xs := by
  rcases h with (h | ⟨o, h⟩) | h
  · exact .inl (.inl (e _ _ h))
  · exact .inl (.inr ⟨o, e _ _ h⟩)
  · exact .inr h
theorem cut_from (xs : List V) (i : Int) (h : 0 ≤ i) : cutV xs (some i) none = xs.drop i.toNat := by
  unfold cutV
  obtain ⟨n, rfl⟩ : ∃ n : Nat, i = (n : Int) := ⟨i.toNat, by omega⟩
  rw [show HT.sIx xs.length 0 (some (n : Int)) = min n xs.length from HT.sIx_nat xs.length 0 n, HT.sIx_none]
  have e : ((n : Int)).toNat = n := by omega
  rw [e]
  by_cases c : n ≤ xs.length
  · rw [Nat.min_eq_left c]
    exact List.take_of_length_le (by rw [List.length_drop]; exact Nat.le_refl _)
  · rw [Nat.min_eq_right (by omega), List.drop_of_length_le (show xs.length ≤ n by omega), List.drop_of_length_le (Nat.le_refl _), List.take_nil]
theorem cut_to (xs : List V) (i : Int) (h : 0 ≤ i) : cutV xs none (some i) = xs.take i.toNat := by
  unfold cutV
  obtain ⟨n, rfl⟩ : ∃ n : Nat, i = (n : Int) := ⟨i.toNat, by omega⟩
  rw [show HT.sIx xs.length xs.length (some (n : Int)) = min n xs.length from HT.sIx_nat xs.length xs.length n, HT.sIx_none]
  have e : ((n : Int)).toNat = n := by omega
  rw [e, List.drop_zero, Nat.sub_zero]
  by_cases c : n ≤ xs.length
  · rw [Nat.min_eq_left c]
  · rw [Nat.min_eq_right (by omega), List.take_of_length_le (Nat.le_refl _), List.take_of_length_le (by omega)]
theorem dint {i j : Int} : decide (V.int i = V.int j) = decide (i = j) := by
  rw [decide_eq_decide]
  exact ⟨fun e => V.int.inj e, fun e => by rw [e]⟩
theorem dstr {i j : Str} : decide (V.str i = V.str j) = decide (i = j) := by
  rw [decide_eq_decide]
  exact ⟨fun e => V.str.inj e, fun e => by rw [e]⟩
theorem filt_all {α : Type} (l : List α) : l.filter (fun _ => true) = l := List.filter_eq_self.mpr fun _ _ => rfl
theorem sz {n : Nat} (h : n ≤ 100000) : n ≤ sizeLine := Nat.le_trans h (by decide)
theorem szl {n : Nat} (h : n < 100000) : n < sizeLine := Nat.lt_of_lt_of_le h (by decide)
theorem ixn {n : Nat} {i : Int} {j : Nat} (e : i = (j : Int)) (hj : j < n) : ixN n i = some j := by
  rw [e]
  exact Evl.ixN_nat hj
/-! ### rules with the written part said -/
section
variable {X : Cx}
theorem ixL (K : PySem.W.Frag) (e : X.K = K := by rfl) : IxR X (rIxL K) := e ▸ ix_list
theorem ixT (K : PySem.W.Frag) (e : X.K = K := by rfl) : IxR X (rIxT K) := e ▸ ix_tup
theorem slL (K : PySem.W.Frag) (e : X.K = K := by rfl) : SlR X (rSlL K) := e ▸ sl_list
theorem slT (K : PySem.W.Frag) (e : X.K = K := by rfl) : SlR X (rSlT K) := e ▸ sl_tup
def rLen (K : PySem.W.Frag) : List V → Hp → VK → Prop := fun xs H Q => ∃ p ys, xs = [.ref p] ∧ (SqL K H p ys ∨ SqT K H p ys) ∧ Q (.int ys.length) H
theorem callLen (K : PySem.W.Frag) (e : X.K = K := by rfl) : CallR X (.builtin "len") (rLen K) := e ▸ call_len_seq
def rLstOf (K : PySem.W.Frag) : List V → Hp → VK → Prop := fun xs H Q => ∃ p ys, xs = [.ref p] ∧ (SqL K H p ys ∨ SqT K H p ys) ∧ ∀ l, H l = none → Q (.ref l) (upd H l (.lst ys))
theorem callLst (K : PySem.W.Frag) (e : X.K = K := by rfl) : CallR X (.type "list") (rLstOf K) := e ▸ call_list_of
def rTupOf (K : PySem.W.Frag) : List V → Hp → VK → Prop := fun xs H Q => ∃ p ys, xs = [.ref p] ∧ ((SqL K H p ys ∧ ∀ l, H l = none → Q (.ref l) (upd H l (.tup ys))) ∨ (SqT K H p ys ∧ Q (.ref p) H))
theorem callTup (K : PySem.W.Frag) (e : X.K = K := by rfl) : CallR X (.type "tuple") (rTupOf K) := e ▸ call_tuple_of
theorem eqD (K : PySem.W.Frag) (hu : X.A.units + 64 < cLine) (e : X.K = K := by rfl) : OpR X (compareOp .Eq) (rEqD K) := e ▸ op_eqD hu
theorem neD (K : PySem.W.Frag) (hu : X.A.units + 64 < cLine) (e : X.K = K := by rfl) : OpR X (compareOp .NotEq) (rNeD K) := e ▸ op_neD hu
theorem callIsi (K : PySem.W.Frag) (e : X.K = K := by rfl) : CallR X (.builtin "isinstance") (rIsi K) := e ▸ call_isi
theorem inSq (K : PySem.W.Frag) (e : X.K = K := by rfl) : OpR X (compareOp .In) (rIn K false) := e ▸ op_in_seq
theorem ninSq (K : PySem.W.Frag) (e : X.K = K := by rfl) : OpR X (compareOp .NotIn) (rIn K true) := e ▸ op_notIn_seq
theorem piL (K : PySem.W.Frag) {tg l : Expr} {tl : TE} (h : PE X l tl) (e : X.K = K := by rfl) : PI X tg l (iList K tl) := e ▸ pi_list h
theorem piT (K : PySem.W.Frag) {tg l : Expr} {tl : TE} (h : PE X l tl) (e : X.K = K := by rfl) : PI X tg l (iTup K tl) := e ▸ pi_tup h
theorem pgT (K : PySem.W.Frag) {es : List Expr} {k : Nat} {t : TGs} {n : Nat} {pos : Pos} (hc : X.calm = true) (h : PGs X es t)
    (hn : (assignEach es X.env).length = n := by rfl) (hst : (assignEach es X.env).findIdx? (·.1) = none := by rfl) (e : X.K = K := by rfl) : PG X (.Tuple es k pos) (gTup K n t) := e ▸ pg_tup hc h hn hst
theorem peM0 (K : PySem.W.Frag) {o : Expr} {to : TE} {name : Str} {apos cpos : Pos} {T id : String} {r : V → List V → Hp → VK → Prop} (pa : PlainAttrs T) (slot : Slot T name id) (hty : typeOf (.builtin id) = pure (.type "method_descriptor")) (hm : MtR X id r) (ho : PE X o to)
    (hbase : attributeBase o name X.env (eval o X.env) = eval o X.env := by rfl) (hline : (apos.endLine == cpos.line) = true := by rfl) (e : X.K = K := by rfl) : PE X (.Call (.Attribute o name apos) [] [] cpos) (tBM0 K T r to) := e ▸ pe_bm0 pa slot hty hm ho hbase hline
theorem peM (K : PySem.W.Frag) {o a : Expr} {es : List Expr} {to : TE} {t : TA} {name : Str} {apos cpos : Pos} {T id : String} {r : V → List V → Hp → VK → Prop} (pa : PlainAttrs T) (slot : Slot T name id) (hty : typeOf (.builtin id) = pure (.type "method_descriptor")) (hm : MtR X id r) (ho : PE X o to) (ha : PA X (a :: es) t)
    (hbase : attributeBase o name X.env (eval o X.env) = eval o X.env := by rfl)
    (hfew : ((backTo cpos (starEach (a :: es) X.env)).all (fun x => !x.1) && (backToKw cpos (keywordEach [] X.env)).all (fun x => x.1.isSome)
      && decide ((a :: es).length + ([] : List Keyword).length + (if ([] : List Keyword).isEmpty then 0 else 1) < 30)) = true := by rfl)
    (hline : (apos.endLine == cpos.line) = true := by rfl) (hs : starEach (a :: es) X.env = (false, eval a X.env) :: starEach es X.env := by rfl) (hplain : (backTo cpos (starEach es X.env)).any (·.1) = false := by rfl) (e : X.K = K := by rfl) :
    PE X (.Call (.Attribute o name apos) (a :: es) [] cpos) (tBM K T r to t) := e ▸ pe_bm pa slot hty hm ho ha hbase hfew hline hs hplain
theorem callSrtI (K : PySem.W.Frag) (e : X.K = K := by rfl) : CallR X (.builtin "sorted") (rSortedI K) := e ▸ cr_sortedI
theorem mtIndex (K : PySem.W.Frag) (e : X.K = K := by rfl) : MtR X "list.index" (rIndex K) := e ▸ mt_index
/-- a op b op c op d -/
def tChain3 (r1 r2 r3 : R2) (ta tb tc td : TE) : TE := fun σ H Q => ta σ H fun x H1 => tb σ H1 fun y H2 => r1 x y H2 fun z H3 => ∃ k, z = .bl k ∧
  (if k = true then tc σ H3 fun u H4 => r2 y u H4 fun z2 H5 => ∃ k2, z2 = .bl k2 ∧ (if k2 = true then td σ H5 fun v H6 => r3 u v H6 Q else Q (.bl false) H5) else Q (.bl false) H3)
theorem pe_chain3 {a b c d : Expr} {ta tb tc td : TE} {pos : Pos} {o1 o2 o3 : CmpOp} {r1 r2 r3 : R2} (h1 : OpR X (compareOp o1) r1) (h2 : OpR X (compareOp o2) r2) (h3 : OpR X (compareOp o3) r3) (ha : PE X a ta) (hb : PE X b tb) (hc : PE X c tc) (hd : PE X d td)
    (hm : lastMarks [o1, o2, o3] [b, c, d] = false := by with_unfolding_all rfl) : PE X (.Compare a [o1, o2, o3] [b, c, d] pos) (tChain3 r1 r2 r3 ta tb tc td) := by
  refine ⟨fun pins s σ H Q I h => ?_⟩
  refine PyProof.Rows.Compare_chain (thn (ha.run pins s σ H _ I h) fun v s1 ⟨x, H1, I1, q1r, q1⟩ => PyProof.Rows.chain_link (thn (hb.run pins s1 σ H1 _ I1 q1) fun u s2 ⟨y, H2, I2, q2r, q2⟩ =>
    thn (h1 pins s2 σ H2 x y v u _ I2 q1r q2r q2) fun e s3 ⟨z, H3, I3, q3r, k, ez, q3⟩ => ?_)) hm
  subst ez
  cases q3r
  refine wpAny_truthy_bool ?_
  cases k with
  | false => exact iteF ⟨.bl false, H3, I3, rfl, q3⟩
  | true =>
    refine iteT (PyProof.Rows.chain_link (thn (hc.run pins s3 σ H3 _ I3 q3) fun w s4 ⟨y2, H4, I4, q4r, q4⟩ => thn (h2 pins s4 σ H4 y y2 u w _ I4 q2r q4r q4) fun e2 s5 ⟨z2, H5, I5, q5r, k2, ez2, q5⟩ => ?_))
    subst ez2
    cases q5r
    refine wpAny_truthy_bool ?_
    cases k2 with
    | false => exact iteF ⟨.bl false, H5, I5, rfl, q5⟩
    | true => exact iteT (PyProof.Rows.chain_last (thn (hd.run pins s5 σ H5 _ I5 q5) fun w' s6 ⟨z', H6, I6, q6r, q6⟩ => h3 pins s6 σ H6 y2 z' w w' Q I6 q4r q6r q6))
end
section
variable {X : Cx}
theorem pe_gi {x : Str} {i : Int} {pos : Pos} (h : ∃ t, X.mg x = some (.int i t)) (hg : Gl X x := by rfl) (hd : (x == ("__debug__" : Str)) = false := by decide) : PE X (.Name x pos) (tC (.int i)) := by
  obtain ⟨t, e⟩ := h
  exact pe_glob hg e ⟨t, rfl⟩ hd
theorem pe_gs {x y : Str} {pos : Pos} (h : ∃ t, X.mg x = some (.str y t)) (hg : Gl X x := by rfl) (hd : (x == ("__debug__" : Str)) = false := by decide) : PE X (.Name x pos) (tC (.str y)) := by
  obtain ⟨t, e⟩ := h
  exact pe_glob hg e ⟨t, rfl⟩ hd
end
/-! ### a reading's outermost word, taken off -/
theorem sq {t u : TS} {D : Ends} {σ : St} {H : Hp} (h : t { D with nx := u D } σ H) : tSeq t u D σ H := h
theorem gn {i : Nat} {v : V} {σ : St} {H : Hp} {Q : St → Hp → Prop} (h : Q (σ.set i (some v)) H) : gName i v σ H Q := h
theorem asg {te : TE} {i : Nat} {D : Ends} {σ : St} {H : Hp} (h : te σ H fun x H1 => D.nx (σ.set i (some x)) H1) : tAsg te (gName i) D σ H := h
theorem nxt {D : Ends} {σ : St} {H : Hp} (h : D.nx σ H) : tNext D σ H := h
theorem ifs {c : TT} {t u : TS} {D : Ends} {σ : St} {H : Hp} (h : c σ H fun b H1 => if b = true then t D σ H1 else u D σ H1) : tIfS c t u D σ H := h
theorem tst {t : TE} {σ : St} {H : Hp} {Q : Bool → Hp → Prop} (h : t σ H fun x H' => ∃ k, x = .bl k ∧ Q k H') : tTest t σ H Q := h
theorem tbb {t : TE} {σ : St} {H : Hp} {Q : Bool → Hp → Prop} (h : t σ H fun x H' => ∃ k, x = .bl k ∧ Q k H') : tB t σ H Q := h
theorem cb {r : List V → Hp → VK → Prop} {t : TA} {σ : St} {H : Hp} {Q : VK} (h : t σ H fun vs H1 => r vs H1 Q) : tCB r t σ H Q := h
theorem cns {ta : TE} {tr : TA} {σ : St} {H : Hp} {Q : List V → Hp → Prop} (h : ta σ H fun x H1 => tr σ H1 fun xs H2 => Q (x :: xs) H2) : tCons ta tr σ H Q := h
theorem opp {r : R2} {ta tb : TE} {σ : St} {H : Hp} {Q : VK} (h : ta σ H fun x H1 => tb σ H1 fun y H2 => r x y H2 Q) : tOp r ta tb σ H Q := h
theorem cll {sp : Sp} {E : XK} {t : TA} {σ : St} {H : Hp} {Q : VK} (h : t σ H fun vs H1 => sp vs H1 Q E) : tCl sp E t σ H Q := h
theorem lstt {t : TA} {σ : St} {H : Hp} {Q : VK} (h : t σ H fun xs H1 => xs.length ≤ sizeLine ∧ ∀ p, H1 p = none → Q (.ref p) (upd H1 p (.lst xs))) : tLst t σ H Q := h
theorem tupp {t : TA} {σ : St} {H : Hp} {Q : VK} (h : t σ H fun xs H1 => xs.length ≤ sizeLine ∧ ∀ p, H1 p = none → Q (.ref p) (upd H1 p (.tup xs))) : tTup t σ H Q := h
theorem bmm {K : PySem.W.Frag} {T : String} {r : V → List V → Hp → VK → Prop} {to : TE} {t : TA} {σ : St} {H : Hp} {Q : VK} (h : to σ H fun x H1 => tyV K T x H1 ∧ t σ H1 fun xs H2 => r x xs H2 Q) : tBM K T r to t σ H Q := h
theorem retn {te : TE} {D : Ends} {σ : St} {H : Hp} (h : te σ H D.rt) : tRet te D σ H := h
/-! ### comprehensions whose tests and elements leave the heap as it is -/
section
variable {K : PySem.W.Frag} {σ : St} {H : Hp} {tl te : TE} {tt : TT} {j : Nat} {vs : List Nat} {a : Addr} {xs : List V} {Q : VK}
theorem filter_take {α : Type} {f : α → Bool} {xs : List α} {i : Nat} {x : α} (h : xs[i]? = some x) : (xs.take (i + 1)).filter f = (xs.take i).filter f ++ (if f x = true then [x] else []) := by
  rw [List.take_add_one, h, List.filter_append]
  congr 1
  cases e : f x <;> simp [e]
theorem lc_turn (f : V → Bool) (v : V → V) {H' : Hp} {D : Addr} {i : Nat} {x : V} {σ2 : St} (hD : H D = none) (hi : xs[i]? = some x) (hz : xs.length ≤ 40000) (e : H' = upd H D (.lst (((xs.take i).filter f).map v)))
    (ht : ∀ H1, Same H H1 → ∀ Q : Bool → Hp → Prop, Q (f x) H1 → tt σ2 H1 Q) (he : f x = true → ∀ H1, Same H H1 → ∀ Q : VK, Q (v x) H1 → te σ2 H1 Q) :
    tt σ2 H' fun b H3 => if b = true then te σ2 H3 fun y H4 => ∃ acc, H4 D = some (.lst acc) ∧ acc.length < sizeLine ∧ upd H4 D (.lst (acc ++ [y])) = upd H D (.lst (((xs.take (i + 1)).filter f).map v)) else H3 = upd H D (.lst (((xs.take (i + 1)).filter f).map v)) := by
  subst e
  refine ht _ (sm_new hD) _ ?_
  rw [filter_take hi]
  cases hf : f x with
  | true =>
    refine iteT (he hf _ (sm_new hD) _ ⟨_, upd_same, szl ?_, ?_⟩)
    · rw [List.length_map]
      have h1 := List.length_filter_le f (xs.take i)
      rw [List.length_take] at h1
      omega
    · rw [upd_upd, if_pos rfl, List.map_append]
      rfl
  | false =>
    refine iteF ?_
    rw [if_neg Bool.false_ne_true, List.append_nil]
theorem lcL (f : V → Bool) (v : V → V) (hl : ∀ Q : VK, Q (.ref a) H → tl σ H Q) (hx : SqL K H a xs) (hz : xs.length ≤ 40000) (hw : ∀ x, wipe ((wipe σ vs).set j (some x)) vs = wipe σ vs)
    (ht : ∀ x ∈ xs, ∀ H1, Same H H1 → ∀ Q : Bool → Hp → Prop, Q (f x) H1 → tt ((wipe σ vs).set j (some x)) H1 Q) (he : ∀ x ∈ xs, f x = true → ∀ H1, Same H H1 → ∀ Q : VK, Q (v x) H1 → te ((wipe σ vs).set j (some x)) H1 Q)
    (q : ∀ p, H p = none → Q (.ref p) (upd H p (.lst ((xs.filter f).map v)))) : tLc (iList K tl) (gName j) tt te vs σ H Q := by
  refine hl _ ⟨a, rfl, ⟨xs, hx⟩, fun D hD => lc_list (K := K) (a := a) (xs := xs) (fun i H' => H' = upd H D (.lst (((xs.take i).filter f).map v))) rfl (fun i H' _ e => ?_) (fun i x H' hi e => ⟨hw x, ?_⟩) (fun H' e => ?_)⟩
  · rw [e]
    exact (sm_new hD).seq hx
  · have hm := List.mem_of_getElem? hi
    exact lc_turn f v hD hi hz e (ht x hm) (he x hm)
  · rw [List.take_length] at e
    rw [e]
    exact q D hD
theorem lcT (f : V → Bool) (v : V → V) (hl : ∀ Q : VK, Q (.ref a) H → tl σ H Q) (hx : SqT K H a xs) (hz : xs.length ≤ 40000) (hw : ∀ x, wipe ((wipe σ vs).set j (some x)) vs = wipe σ vs)
    (ht : ∀ x ∈ xs, ∀ H1, Same H H1 → ∀ Q : Bool → Hp → Prop, Q (f x) H1 → tt ((wipe σ vs).set j (some x)) H1 Q) (he : ∀ x ∈ xs, f x = true → ∀ H1, Same H H1 → ∀ Q : VK, Q (v x) H1 → te ((wipe σ vs).set j (some x)) H1 Q)
    (q : ∀ p, H p = none → Q (.ref p) (upd H p (.lst ((xs.filter f).map v)))) : tLc (iTup K tl) (gName j) tt te vs σ H Q := by
  refine hl _ ⟨a, rfl, ⟨xs, hx⟩, fun D hD => lc_tup (K := K) (a := a) (xs := xs) (fun i H' => H' = upd H D (.lst (((xs.take i).filter f).map v))) rfl (fun i H' _ e => ?_) (fun i x H' hi e => ⟨hw x, ?_⟩) (fun H' e => ?_)⟩
  · rw [e]
    exact sm_seqT (sm_new hD) hx
  · have hm := List.mem_of_getElem? hi
    exact lc_turn f v hD hi hz e (ht x hm) (he x hm)
  · rw [List.take_length] at e
    rw [e]
    exact q D hD
/-- over a tuple, a list that was made on the way -/
theorem lcTN (f : V → Bool) (v : V → V) (hl : ∀ Q : VK, (∀ a H1, Same H H1 → SqT K H1 a xs → Q (.ref a) H1) → tl σ H Q) (hz : xs.length ≤ 40000) (hw : ∀ x, wipe ((wipe σ vs).set j (some x)) vs = wipe σ vs)
    (ht : ∀ x ∈ xs, ∀ H1, Same H H1 → ∀ Q : Bool → Hp → Prop, Q (f x) H1 → tt ((wipe σ vs).set j (some x)) H1 Q) (he : ∀ x ∈ xs, f x = true → ∀ H1, Same H H1 → ∀ Q : VK, Q (v x) H1 → te ((wipe σ vs).set j (some x)) H1 Q)
    (q : ∀ H1 p, Same H H1 → H1 p = none → Q (.ref p) (upd H1 p (.lst ((xs.filter f).map v)))) : tLc (iTup K tl) (gName j) tt te vs σ H Q := by
  refine hl _ fun a H1 s1 hx => ⟨a, rfl, ⟨xs, hx⟩, fun D hD => lc_tup (K := K) (a := a) (xs := xs) (fun i H' => H' = upd H1 D (.lst (((xs.take i).filter f).map v))) rfl (fun i H' _ e => ?_) (fun i x H' hi e => ⟨hw x, ?_⟩) (fun H' e => ?_)⟩
  · rw [e]
    exact sm_seqT (sm_new hD) hx
  · have hm := List.mem_of_getElem? hi
    exact lc_turn f v hD hi hz e (fun H2 s2 => ht x hm H2 (s1.trans s2)) (fun hf H2 s2 => he x hm hf H2 (s1.trans s2))
  · rw [List.take_length] at e
    rw [e]
    exact q H1 D s1 hD
theorem lcLN (f : V → Bool) (v : V → V) (hl : ∀ Q : VK, (∀ a H1, Same H H1 → SqL K H1 a xs → Q (.ref a) H1) → tl σ H Q) (hz : xs.length ≤ 40000) (hw : ∀ x, wipe ((wipe σ vs).set j (some x)) vs = wipe σ vs)
    (ht : ∀ x ∈ xs, ∀ H1, Same H H1 → ∀ Q : Bool → Hp → Prop, Q (f x) H1 → tt ((wipe σ vs).set j (some x)) H1 Q) (he : ∀ x ∈ xs, f x = true → ∀ H1, Same H H1 → ∀ Q : VK, Q (v x) H1 → te ((wipe σ vs).set j (some x)) H1 Q)
    (q : ∀ H1 p, Same H H1 → H1 p = none → Q (.ref p) (upd H1 p (.lst ((xs.filter f).map v)))) : tLc (iList K tl) (gName j) tt te vs σ H Q := by
  refine hl _ fun a H1 s1 hx => ⟨a, rfl, ⟨xs, hx⟩, fun D hD => lc_list (K := K) (a := a) (xs := xs) (fun i H' => H' = upd H1 D (.lst (((xs.take i).filter f).map v))) rfl (fun i H' _ e => ?_) (fun i x H' hi e => ⟨hw x, ?_⟩) (fun H' e => ?_)⟩
  · rw [e]
    exact (sm_new hD).seq hx
  · have hm := List.mem_of_getElem? hi
    exact lc_turn f v hD hi hz e (fun H2 s2 => ht x hm H2 (s1.trans s2)) (fun hf H2 s2 => he x hm hf H2 (s1.trans s2))
  · rw [List.take_length] at e
    rw [e]
    exact q H1 D s1 hD
/-- over range(n) -/
theorem lcR {ta : TA} {n : Int} (f : V → Bool) (v : V → V) (hl : ∀ Q : List V → Hp → Prop, Q [.int n] H → ta σ H Q) (hz : n ≤ 40000) (hw : ∀ x, wipe ((wipe σ vs).set j (some x)) vs = wipe σ vs)
    (ht : ∀ i : Nat, (i : Int) < n → ∀ H1, Same H H1 → ∀ Q : Bool → Hp → Prop, Q (f (.int (i : Int))) H1 → tt ((wipe σ vs).set j (some (.int (i : Int)))) H1 Q)
    (he : ∀ i : Nat, (i : Int) < n → f (.int (i : Int)) = true → ∀ H1, Same H H1 → ∀ Q : VK, Q (v (.int (i : Int))) H1 → te ((wipe σ vs).set j (some (.int (i : Int)))) H1 Q) (hn : -40000 ≤ n)
    (q : ∀ p, H p = none → Q (.ref p) (upd H p (.lst ((((List.range n.toNat).map fun i : Nat => V.int (i : Int)).filter f).map v)))) : tLc (iRng1 ta) (gName j) tt te vs σ H Q := by
  refine hl _ ⟨n, rfl, by omega, by omega, fun D hD => lc_range (lo := 0) (n := n.toNat) (fun i H' => H' = upd H D (.lst ((((((List.range n.toNat).map fun i : Nat => V.int (i : Int))).take i).filter f).map v))) rfl (fun i H' hi e => ?_) (fun H' e => ?_)⟩
  · have e0 : (0 : Int) + (i : Int) = (i : Int) := Int.zero_add _
    have hg : ((List.range n.toNat).map fun i : Nat => V.int (i : Int))[i]? = some (V.int (i : Int)) := by
      rw [List.getElem?_map, List.getElem?_range hi]
      rfl
    rw [e0]
    exact ⟨hw _, lc_turn f v hD hg (by rw [List.length_map, List.length_range]; omega) e (ht i (by omega)) (he i (by omega))⟩
  · rw [List.take_of_length_le (by rw [List.length_map, List.length_range]; exact Nat.le_refl _)] at e
    rw [e]
    exact q D hD
end
end Pg
/-! what a class of errors must say so that it is raised, caught and asked for -/
namespace Pg
open PySem PySem.Spec PyProof.Rows L2
theorem kit_own {K : PySem.W.Frag} {D X : Addr} {b : Bool} (h0 : PySem.W.subIn K (.ref D) (.ref D) = some true) (h1 : PySem.W.hasDictIn K X = true) (h2 : PySem.W.typeIn K (.ref X) = some (.type "type")) (h3 : PySem.W.subIn K (.ref D) (.ref X) = some b) :
    PySem.W.kitOne K (.ref D) (.ref X) = some b := by
  have hc : (PySem.W.clsIn K X).isSome = true := by
    obtain ⟨cd, hc, _⟩ := PySem.W.any_some h1
    rw [hc]
    rfl
  unfold PySem.W.kitOne
  by_cases e : D = X
  · subst e
    rw [h0] at h3
    rw [if_pos (by simp)]
    exact h3
  · have ne : ¬ (Value.ref D == Value.ref X) = true := fun z => e (Value.ref.inj (beq_iff_eq.mp z))
    rw [if_neg ne]
    show (if ((PySem.W.clsIn K X).isSome && PySem.W.typeIn K (.ref X) == some (.type "type")) = true then PySem.W.subIn K (.ref D) (.ref X) else none) = some b
    have e2 : ((PySem.W.clsIn K X).isSome && PySem.W.typeIn K (.ref X) == some (.type "type")) = true := by rw [hc, h2] <;> rfl
    rw [if_pos e2]
    exact h3
theorem kit_ve {K : PySem.W.Frag} {D : Addr} (h : PySem.W.subIn K (.ref D) (.type "ValueError") = some true) : PySem.W.kitOne K (.ref D) (.type "ValueError") = some true := by
  unfold PySem.W.kitOne
  rw [if_neg (by simp)]
  show (if PySem.W.kitMeta "ValueError" = true then PySem.W.subIn K (.ref D) (.type "ValueError") else none) = some true
  rw [if_pos (by decide +kernel)]
  exact h
/-- isinstance(e, C) in the suite, e the error that it holds -/
def rIsE2 (K : PySem.W.Frag) (D a : Addr) (cls : Value) (d : Option Addr) : List V → Hp → VK → Prop := fun xs H Q => cls = .ref D ∧ d = none ∧ rIsE K D a xs H Q
theorem call_isE2 (K : PySem.W.Frag) {X : Cx} {a D : Addr} {oe : Obj} {pn : List (Addr × Obj)} {cls : Value} {d : Option Addr} (C : ExcC K D) (hz : Zc cls d oe) (hf : ∃ vs, oe.data = .fields vs) (e : X.K = K := by rfl) :
    CallR (X.suite a ((a, oe) :: pn)) (.builtin "isinstance") (rIsE2 K D a cls d) := by
  subst e
  intro pins s σ H xs us Q I r h
  obtain ⟨rfl, rfl, h⟩ := h
  exact call_isE C hz hf pins s σ H xs us Q I r h
/-- f(e, ..) in a try: what is raised is wished for at the caller's slots -/
theorem pe_kcS {X : Cx} {CX : CXT} {k : Nat} {x : Str} {ps : List Str} {sp : Sp} {E : L2.St → XK} {t : TA} {e : Expr} {es : List Expr} {p pos : Pos} (G : Known X.prog X.w X.K X.mg X.base CX k x ps sp) (hr : Room k X.A) (hg : Gl X x) (hx : ∀ σ, PassesAt CX X σ (E σ))
    (ha : PA X (e :: es) t) (hdb : (x == ("__debug__" : Str)) = false := by decide) (he : starEach (e :: es) X.env = (false, eval e X.env) :: starEach es X.env := by rfl) (hpl : (backTo pos (starEach es X.env)).any (·.1) = false := by rfl) :
    PE X (.Call (.Name x p) (e :: es) [] pos) (tCallS sp E t) := by
  obtain ⟨f, fd, hm, hk, hb, F⟩ := G.ex
  exact pe_callS F hr hg hm hk hb hx ha hdb he hpl
end Pg
namespace Pg
open PySem L2
/-! ### lists of pairs of ints, sorted -/
abbrev Pr := Int × Int
def insP (x : Pr) : List Pr → List Pr
  | [] => [x]
  | y :: r => if SrtO.lexB y x = true then y :: insP x r else x :: y :: r
def sortP : List Pr → List Pr
  | [] => []
  | x :: r => insP x (sortP r)
abbrev SrP (l : List Pr) : Prop := l.Pairwise fun x y => SrtO.lexB y x = false
theorem insP_perm (x : Pr) : ∀ l, (insP x l).Perm (x :: l)
  | [] => List.Perm.refl _
  | y :: r => by
    unfold insP
    split
    · exact ((insP_perm x r).cons y).trans (List.Perm.swap x y r)
    · exact List.Perm.refl _
theorem sortP_perm : ∀ l, (sortP l).Perm l
  | [] => List.Perm.refl _
  | x :: r => (insP_perm x (sortP r)).trans ((sortP_perm r).cons x)
theorem insP_sorted (x : Pr) : ∀ l, SrP l → SrP (insP x l)
  | [], _ => List.pairwise_singleton _ _
  | y :: r, h => by
    obtain ⟨h1, h2⟩ := List.pairwise_cons.mp h
    unfold insP
    split
    · rename_i c
      refine List.pairwise_cons.mpr ⟨fun z hz => ?_, insP_sorted x r h2⟩
      rcases List.mem_cons.mp ((insP_perm x r).mem_iff.mp hz) with e | m
      · subst e
        have c1 := SrtO.lexB_iff.mp c
        exact SrtO.lexB_no.mpr (by omega)
      · exact h1 z m
    · rename_i c
      have c' : SrtO.lexB y x = false := by
        cases e : SrtO.lexB y x with
        | true => exact absurd e c
        | false => rfl
      refine List.pairwise_cons.mpr ⟨fun z hz => ?_, h⟩
      rcases List.mem_cons.mp hz with e | m
      · subst e
        exact c'
      · have a := SrtO.lexB_no.mp c'
        have b := SrtO.lexB_no.mp (h1 z m)
        exact SrtO.lexB_no.mpr (by omega)
theorem sortP_sorted : ∀ l, SrP (sortP l)
  | [] => List.Pairwise.nil
  | x :: r => insP_sorted x _ (sortP_sorted r)
theorem srp_uniq {l m : List Pr} (h1 : SrP l) (h2 : SrP m) (p : l.Perm m) : l = m := by
  refine List.Perm.eq_of_pairwise (le := fun x y => SrtO.lexB y x = false) (fun a b _ _ q r => ?_) h1 h2 p
  have q := SrtO.lexB_no.mp q
  have r := SrtO.lexB_no.mp r
  exact Prod.ext (by omega) (by omega)
theorem sortP_of {l m : List Pr} (h1 : SrP l) (p : l.Perm m) : l = sortP m := srp_uniq h1 (sortP_sorted m) (p.trans (sortP_perm m).symm)
theorem sortP_id {l : List Pr} (h : SrP l) : sortP l = l := (sortP_of h (List.Perm.refl _)).symm
theorem sortP_len (l : List Pr) : (sortP l).length = l.length := (sortP_perm l).length_eq
theorem sortP_congr {l m : List Pr} (p : l.Perm m) : sortP l = sortP m := sortP_of (sortP_sorted l) ((sortP_perm l).trans p)
/-! ### pairs in the heap -/
def PairAt (H : Hp) (v : V) (p : Pr) : Prop := ∃ t, v = .ref t ∧ H t = some (.tup [.int p.1, .int p.2])
abbrev PairsAt (H : Hp) : List V → List Pr → Prop := Paired (PairAt H)
theorem PairAt.mono {H H' : Hp} {v : V} {p : Pr} (e : Same H H') (h : PairAt H v p) : PairAt H' v p := by
  obtain ⟨t, rfl, ht⟩ := h
  exact ⟨t, rfl, e _ _ ht⟩
theorem PairsAt.mono {H H' : Hp} (e : Same H H') : ∀ {xs : List V} {ps : List Pr}, PairsAt H xs ps → PairsAt H' xs ps
  | _, _, .nil => .nil
  | _, _, .cons a b => .cons (a.mono e) (PairsAt.mono e b)
theorem PairAt.inj {H : Hp} {v : V} {p q : Pr} (h : PairAt H v p) (h' : PairAt H v q) : p = q := by
  obtain ⟨t, rfl, ht⟩ := h
  obtain ⟨t', e, ht'⟩ := h'
  cases e
  rw [ht] at ht'
  have z := HO.tup.inj (Option.some.inj ht')
  have z1 := V.int.inj (List.cons.inj z).1
  have z2 := V.int.inj (List.cons.inj (List.cons.inj z).2).1
  exact Prod.ext z1 z2
theorem paired_length {α β : Type} {F : α → β → Prop} : ∀ {xs : List α} {ys : List β}, Paired F xs ys → xs.length = ys.length
  | _, _, .nil => rfl
  | _, _, .cons _ t => by
    rw [List.length_cons, List.length_cons, paired_length t]
theorem paired_get {α β : Type} {F : α → β → Prop} : ∀ {xs : List α} {ys : List β} {i : Nat} {y : β}, Paired F xs ys → ys[i]? = some y → ∃ x, xs[i]? = some x ∧ F x y
  | _, _, _, _, .nil, e => by simp at e
  | _, _, 0, _, .cons r _, e => ⟨_, rfl, by rw [← Option.some.inj e]; exact r⟩
  | _, _, i + 1, y, .cons _ t, e => paired_get (i := i) t e
theorem paired_get' {α β : Type} {F : α → β → Prop} : ∀ {xs : List α} {ys : List β} {i : Nat} {x : α}, Paired F xs ys → xs[i]? = some x → ∃ y, ys[i]? = some y ∧ F x y
  | _, _, _, _, .nil, e => by simp at e
  | _, _, 0, _, .cons r _, e => ⟨_, rfl, by rw [← Option.some.inj e]; exact r⟩
  | _, _, i + 1, y, .cons _ t, e => paired_get' (i := i) t e
theorem paired_append {α β : Type} {F : α → β → Prop} : ∀ {xs xs' : List α} {ys ys' : List β}, Paired F xs ys → Paired F xs' ys' → Paired F (xs ++ xs') (ys ++ ys')
  | _, _, _, _, .nil, h => h
  | _, _, _, _, .cons r t, h => .cons r (paired_append t h)
theorem paired_drop {α β : Type} {F : α → β → Prop} : ∀ {xs : List α} {ys : List β} (n : Nat), Paired F xs ys → Paired F (xs.drop n) (ys.drop n)
  | _, _, 0, h => h
  | _, _, _ + 1, .nil => .nil
  | _, _, n + 1, .cons _ t => paired_drop n t
theorem paired_take {α β : Type} {F : α → β → Prop} : ∀ {xs : List α} {ys : List β} (n : Nat), Paired F xs ys → Paired F (xs.take n) (ys.take n)
  | _, _, 0, h => .nil
  | _, _, _ + 1, .nil => .nil
  | _, _, n + 1, .cons r t => .cons r (paired_take n t)
theorem paired_mem {α β : Type} {F : α → β → Prop} : ∀ {xs : List α} {ys : List β} {x : α}, Paired F xs ys → x ∈ xs → ∃ y ∈ ys, F x y
  | _, _, _, .nil, m => absurd m List.not_mem_nil
  | _, _, x, .cons r t, m => by
    rcases List.mem_cons.mp m with e | m
    · subst e
      exact ⟨_, List.mem_cons_self, r⟩
    · obtain ⟨y, hy, q⟩ := paired_mem t m
      exact ⟨y, List.mem_cons_of_mem _ hy, q⟩
/-- the pair that stands at a value -/
def prOf (H : Hp) : V → Pr
  | .ref t => match H t with
    | some (.tup [.int a, .int b]) => (a, b)
    | _ => (0, 0)
  | _ => (0, 0)
theorem PairAt.of {H : Hp} {v : V} {p : Pr} (h : PairAt H v p) : prOf H v = p := by
  obtain ⟨t, rfl, ht⟩ := h
  unfold prOf
  simp only [ht]
theorem PairsAt.map {H : Hp} : ∀ {xs : List V} {ps : List Pr}, PairsAt H xs ps → ps = xs.map (prOf H)
  | _, _, .nil => rfl
  | _, _, .cons a b => by rw [List.map_cons, a.of, ← PairsAt.map b]
theorem PairsAt.all {H : Hp} {xs : List V} {ps : List Pr} (h : PairsAt H xs ps) : ∀ x ∈ xs, PairAt H x (prOf H x) := fun x m => by
  obtain ⟨p, _, q⟩ := paired_mem h m
  rw [q.of]
  exact q
theorem pairsAt_of {H : Hp} : ∀ {xs : List V}, (∀ x ∈ xs, PairAt H x (prOf H x)) → PairsAt H xs (xs.map (prOf H))
  | [], _ => .nil
  | x :: r, h => .cons (h x List.mem_cons_self) (pairsAt_of fun y m => h y (List.mem_cons_of_mem _ m))
/-- sorted of a list of pairs -/
def rSortedPP (K : PySem.W.Frag) : List V → Hp → VK → Prop := fun vs H Q => ∃ (a : Addr) (xs : List V) (ps : List Pr), vs = [V.ref a] ∧ SqL K H a xs ∧ PairsAt H xs ps ∧
  ∀ (ys : List V) (p : Addr), PairsAt H ys (sortP ps) → ys.Perm xs → H p = none → Q (.ref p) (upd H p (.lst ys))
theorem sorted_pairs {H : Hp} {xs ys : List V} {ps : List Pr} (h : PairsAt H xs ps) (h1 : SrtO.Srtd (ltP (prOf H)) ys) (h2 : ys.Perm xs) : PairsAt H ys (sortP ps) := by
  have e : ys.map (prOf H) = sortP ps := sortP_of (SrtO.srtd_map h1) (by rw [h.map]; exact h2.map _)
  rw [← e]
  exact pairsAt_of fun x m => h.all x (h2.mem_iff.mp m)
theorem cr_sortedPP {X : Cx} (K : PySem.W.Frag) (e : X.K = K := by rfl) : CallR X (.builtin "sorted") (rSortedPP K) := by
  subst e
  intro pins s σ H vs us Q I r h
  obtain ⟨a, xs, ps, rfl, hs, hp, q⟩ := h
  refine cr_sortedPO pins s σ H _ us Q I r ⟨a, xs, prOf H, rfl, hs, fun x m => ?_, fun ys p h1 h2 hn => ?_⟩
  · obtain ⟨t, e, ht⟩ := hp.all x m
    exact ⟨t, e, ht⟩
  · exact q ys p (sorted_pairs hp h1 h2.perm) h2.perm hn
/-! ### a pairing in the heap -/
def PairingAt (H : Hp) (v : V) (n : Int) (ps : List Pr) : Prop := ∃ (p q : Addr) (xs : List V), v = .ref p ∧ H p = some (.tup [.int n, .ref q]) ∧ H q = some (.tup xs) ∧ PairsAt H xs ps
theorem PairingAt.mono {H H' : Hp} {v : V} {n : Int} {ps : List Pr} (e : Same H H') (h : PairingAt H v n ps) : PairingAt H' v n ps := by
  obtain ⟨p, q, xs, rfl, h1, h2, h3⟩ := h
  exact ⟨p, q, xs, rfl, e _ _ h1, e _ _ h2, h3.mono e⟩
/-- a list that is changed leaves the pairs -/
theorem upd_pair {H : Hp} {a : Addr} {ys zs : List V} {v : V} {p : Pr} (h : H a = some (.lst ys)) (hp : PairAt H v p) : PairAt (upd H a (.lst zs)) v p := by
  obtain ⟨t, rfl, ht⟩ := hp
  refine ⟨t, rfl, ?_⟩
  rw [upd_ne (ne_of ht h (by intro z; cases z))]
  exact ht
theorem upd_pairs {H : Hp} {a : Addr} {o u : HO} {xs : List V} {ps : List Pr} (h : H a = some o) (hp : PairsAt H xs ps) (ho : (∃ ys, o = .lst ys) := by exact ⟨_, rfl⟩) : PairsAt (upd H a u) xs ps := by
  obtain ⟨ys, rfl⟩ := ho
  induction hp with
  | nil => exact .nil
  | cons a b ih =>
    refine .cons ?_ ih
    obtain ⟨t, e, ht⟩ := a
    refine ⟨t, e, ?_⟩
    rw [upd_ne (ne_of ht h (by intro z; cases z))]
    exact ht
/-! ### as data -/
def prD (p : Pr) : PyData := .tuple [.int p.1, .int p.2]
def prsD (ps : List Pr) : PyData := .tuple (ps.map prD)
def pgD (n : Int) (ps : List Pr) : PyData := .tuple [.int n, prsD ps]
theorem PairAt.dp {K : PySem.W.Frag} {H : Hp} {v : V} {p : Pr} (h : PairAt H v p) : Dp K H v (prD p) := by
  obtain ⟨t, rfl, ht⟩ := h
  exact .tup (SqT.of ht) (.cons (.int _) (.cons (.int _) .nil))
theorem PairsAt.dp {K : PySem.W.Frag} {H : Hp} : ∀ {xs : List V} {ps : List Pr}, PairsAt H xs ps → DpAll K H xs (ps.map prD)
  | _, _, .nil => .nil
  | _, _, .cons a b => .cons a.dp (PairsAt.dp b)
theorem PairingAt.dp {K : PySem.W.Frag} {H : Hp} {v : V} {n : Int} {ps : List Pr} (h : PairingAt H v n ps) : Dp K H v (pgD n ps) := by
  obtain ⟨p, q, xs, rfl, h1, h2, h3⟩ := h
  exact .tup (SqT.of h1) (.cons (.int _) (.cons (.tup (SqT.of h2) h3.dp) .nil))
end Pg
namespace Pg
open PySem L2
/-! ### walks -/
inductive Stp where
  | lone | opn | num (k : Nat)
  deriving DecidableEq
def Stp.v : Stp → V
  | .lone => .str "lone"
  | .opn => .str "open"
  | .num k => .int (k : Int)
/-- the pairs that are open behind the steps, where they are the steps of a walk -/
def run : Nat → List Stp → Option Nat
  | h, [] => some h
  | h, .lone :: r => run h r
  | h, .opn :: r => run (h + 1) r
  | h, .num k :: r => if k < h then run (h - 1) r else none
theorem run_append : ∀ (h : Nat) (a b : List Stp), run h (a ++ b) = (run h a).bind fun h' => run h' b
  | h, [], b => rfl
  | h, .lone :: r, b => run_append h r b
  | h, .opn :: r, b => run_append (h + 1) r b
  | h, .num k :: r, b => by
    show (if k < h then run (h - 1) (r ++ b) else none) = (if k < h then run (h - 1) r else none).bind fun h' => run h' b
    by_cases c : k < h
    · rw [if_pos c, if_pos c]
      exact run_append (h - 1) r b
    · rw [if_neg c, if_neg c]
      rfl
theorem run_lone {ws : List Stp} {h : Nat} (r : run 0 ws = some h) : run 0 (ws ++ [.lone]) = some h := by
  rw [run_append, r]
  rfl
theorem run_opn {ws : List Stp} {h : Nat} (r : run 0 ws = some h) : run 0 (ws ++ [.opn]) = some (h + 1) := by
  rw [run_append, r]
  rfl
theorem run_num {ws : List Stp} {h k : Nat} (r : run 0 ws = some h) (hk : k < h) : run 0 (ws ++ [.num k]) = some (h - 1) := by
  rw [run_append, r]
  show (if k < h then run (h - 1) [] else none) = _
  rw [if_pos hk]
  rfl
theorem run_le : ∀ (ws : List Stp) {h h' : Nat}, run h ws = some h' → h' ≤ h + ws.length
  | [], h, h', r => by
    have e : h = h' := Option.some.inj r
    simp [e]
  | .lone :: r, h, h', e => by
    have := run_le r (h := h) e
    simp only [List.length_cons]
    omega
  | .opn :: r, h, h', e => by
    have := run_le r (h := h + 1) e
    simp only [List.length_cons]
    omega
  | .num k :: r, h, h', e => by
    have e2 : (if k < h then run (h - 1) r else none) = some h' := e
    by_cases c : k < h
    · rw [if_pos c] at e2
      have := run_le r (h := h - 1) e2
      simp only [List.length_cons]
      omega
    · rw [if_neg c] at e2
      cases e2
/-- the pairs of a walk, in the order of their ends: p the point, os the open ones -/
def clo : Int → List Int → List Stp → List (Int × Int)
  | _, _, [] => []
  | p, os, .lone :: r => clo (p + 1) os r
  | p, os, .opn :: r => clo (p + 1) (os ++ [p]) r
  | p, os, .num k :: r => (os.getD k 0, p) :: clo (p + 1) (os.eraseIdx k) r
/-- the open ones behind the steps -/
def opens : Int → List Int → List Stp → List Int
  | _, os, [] => os
  | p, os, .lone :: r => opens (p + 1) os r
  | p, os, .opn :: r => opens (p + 1) (os ++ [p]) r
  | p, os, .num k :: r => opens (p + 1) (os.eraseIdx k) r
theorem clo_append : ∀ (p : Int) (os : List Int) (a b : List Stp), clo p os (a ++ b) = clo p os a ++ clo (p + a.length) (opens p os a) b
  | p, os, [], b => by simp [clo, opens]
  | p, os, .lone :: r, b => by
    show clo (p + 1) os (r ++ b) = clo (p + 1) os r ++ clo (p + ((.lone :: r : List Stp).length : Nat)) (opens (p + 1) os r) b
    rw [clo_append (p + 1) os r b, List.length_cons]
    congr 2
    omega
  | p, os, .opn :: r, b => by
    show clo (p + 1) (os ++ [p]) (r ++ b) = clo (p + 1) (os ++ [p]) r ++ clo (p + ((.opn :: r : List Stp).length : Nat)) (opens (p + 1) (os ++ [p]) r) b
    rw [clo_append (p + 1) _ r b, List.length_cons]
    congr 2
    omega
  | p, os, .num k :: r, b => by
    show _ :: clo (p + 1) (os.eraseIdx k) (r ++ b) = (_ :: clo (p + 1) (os.eraseIdx k) r) ++ clo (p + ((.num k :: r : List Stp).length : Nat)) (opens (p + 1) (os.eraseIdx k) r) b
    rw [clo_append (p + 1) _ r b, List.length_cons, List.cons_append]
    congr 3
    omega
theorem opens_append : ∀ (p : Int) (os : List Int) (a b : List Stp), opens p os (a ++ b) = opens (p + a.length) (opens p os a) b
  | p, os, [], b => by simp [opens]
  | p, os, .lone :: r, b => by
    show opens (p + 1) os (r ++ b) = opens (p + ((.lone :: r : List Stp).length : Nat)) (opens (p + 1) os r) b
    rw [opens_append (p + 1) os r b, List.length_cons]
    congr 1
    omega
  | p, os, .opn :: r, b => by
    show opens (p + 1) (os ++ [p]) (r ++ b) = opens (p + ((.opn :: r : List Stp).length : Nat)) (opens (p + 1) (os ++ [p]) r) b
    rw [opens_append (p + 1) _ r b, List.length_cons]
    congr 1
    omega
  | p, os, .num k :: r, b => by
    show opens (p + 1) (os.eraseIdx k) (r ++ b) = opens (p + ((.num k :: r : List Stp).length : Nat)) (opens (p + 1) (os.eraseIdx k) r) b
    rw [opens_append (p + 1) _ r b, List.length_cons]
    congr 1
    omega
/-- as many are open as run tells -/
theorem opens_len : ∀ (ws : List Stp) (p : Int) (os : List Int) {h : Nat}, run os.length ws = some h → (opens p os ws).length = h
  | [], p, os, h, e => Option.some.inj e
  | .lone :: r, p, os, h, e => opens_len r (p + 1) os e
  | .opn :: r, p, os, h, e => opens_len r (p + 1) (os ++ [p]) (by rw [List.length_append]; exact e)
  | .num k :: r, p, os, h, e => by
    have e2 : (if k < os.length then run (os.length - 1) r else none) = some h := e
    by_cases c : k < os.length
    · rw [if_pos c] at e2
      exact opens_len r (p + 1) (os.eraseIdx k) (by rw [List.length_eraseIdx, if_pos c]; exact e2)
    · rw [if_neg c] at e2
      cases e2
/-- rising, all below p -/
def Asc (p : Int) (os : List Int) : Prop := os.Pairwise (· < ·) ∧ ∀ o ∈ os, o < p
theorem Asc.lone {p : Int} {os : List Int} (h : Asc p os) : Asc (p + 1) os := ⟨h.1, fun o m => by have := h.2 o m; omega⟩
theorem Asc.opn {p : Int} {os : List Int} (h : Asc p os) : Asc (p + 1) (os ++ [p]) := by
  refine ⟨List.pairwise_append.mpr ⟨h.1, List.pairwise_singleton _ _, fun a ha b hb => ?_⟩, fun o m => ?_⟩
  · rw [List.mem_singleton.mp hb]
    exact h.2 a ha
  · rcases List.mem_append.mp m with m | m
    · have := h.2 o m
      omega
    · rw [List.mem_singleton.mp m]
      omega
theorem Asc.num {p : Int} {os : List Int} (h : Asc p os) (k : Nat) : Asc (p + 1) (os.eraseIdx k) :=
  ⟨h.1.sublist (List.eraseIdx_sublist os k), fun o m => by have := h.2 o (List.mem_of_mem_eraseIdx m); omega⟩
theorem asc_nil (p : Int) : Asc p [] := ⟨List.Pairwise.nil, fun _ m => absurd m List.not_mem_nil⟩
theorem opens_asc : ∀ (ws : List Stp) (p : Int) (os : List Int), Asc p os → Asc (p + ws.length) (opens p os ws)
  | [], p, os, h => by simpa [opens] using h
  | .lone :: r, p, os, h => by
    have q := opens_asc r (p + 1) os h.lone
    rw [List.length_cons]
    show Asc _ (opens (p + 1) os r)
    have e : p + ((r.length + 1 : Nat) : Int) = p + 1 + (r.length : Int) := by omega
    rw [e]
    exact q
  | .opn :: r, p, os, h => by
    have q := opens_asc r (p + 1) _ h.opn
    rw [List.length_cons]
    show Asc _ (opens (p + 1) (os ++ [p]) r)
    have e : p + ((r.length + 1 : Nat) : Int) = p + 1 + (r.length : Int) := by omega
    rw [e]
    exact q
  | .num k :: r, p, os, h => by
    have q := opens_asc r (p + 1) _ (h.num k)
    rw [List.length_cons]
    show Asc _ (opens (p + 1) (os.eraseIdx k) r)
    have e : p + ((r.length + 1 : Nat) : Int) = p + 1 + (r.length : Int) := by omega
    rw [e]
    exact q
theorem Asc.nodup {p : Int} {os : List Int} (h : Asc p os) : os.Nodup := h.1.imp fun {a b} q e => by omega
/-- all but the one at k: of a list without doubles -/
theorem filter_ne_eraseIdx : ∀ (os : List Int) (k : Nat), os.Nodup → k < os.length → os.filter (fun o => !decide (o = os.getD k 0)) = os.eraseIdx k
  | [], k, _, h => absurd h (Nat.not_lt_zero _)
  | o :: r, 0, nd, _ => by
    obtain ⟨h1, h2⟩ := List.nodup_cons.mp nd
    show (o :: r).filter (fun x => !decide (x = o)) = r
    rw [List.filter_cons, if_neg (by simp)]
    exact List.filter_eq_self.mpr fun x hx => by
      have : x ≠ o := fun e => h1 (e ▸ hx)
      simp [this]
  | o :: r, k + 1, nd, hk => by
    obtain ⟨h1, h2⟩ := List.nodup_cons.mp nd
    have hk' : k < r.length := by simpa using hk
    have e : (o :: r).getD (k + 1) 0 = r.getD k 0 := by simp [List.getD_eq_getElem?_getD]
    rw [e, List.eraseIdx_cons_succ, List.filter_cons]
    have hm : r.getD k 0 ∈ r := by
      rw [List.getD_eq_getElem?_getD, List.getElem?_eq_getElem hk']
      exact List.getElem_mem hk'
    have ne : o ≠ r.getD k 0 := fun z => h1 (z ▸ hm)
    rw [if_pos (by rw [decide_eq_false ne]; rfl), filter_ne_eraseIdx r k h2 hk']
/-- ahead of the i-th step of a walk -/
theorem run_take {ws : List Stp} {h i : Nat} {st : Stp} (r : run 0 ws = some h) (hi : ws[i]? = some st) : ∃ hi, run 0 (ws.take i) = some hi ∧ ∀ k, st = .num k → k < hi := by
  have e : ws = ws.take i ++ ws.drop i := (List.take_append_drop i ws).symm
  have hl := (List.getElem?_eq_some_iff.mp hi).1
  have ed : ws.drop i = st :: ws.drop (i + 1) := by
    rw [List.drop_eq_getElem_cons hl, (List.getElem?_eq_some_iff.mp hi).2]
  rw [e, run_append, ed] at r
  cases c : run 0 (ws.take i) with
  | none =>
    rw [c] at r
    cases r
  | some h' =>
    refine ⟨h', rfl, fun k z => ?_⟩
    subst z
    rw [c] at r
    have r2 : (if k < h' then run (h' - 1) (ws.drop (i + 1)) else none) = some h := r
    by_cases q : k < h'
    · exact q
    · rw [if_neg q] at r2
      cases r2
theorem take_succ {α : Type} {ws : List α} {i : Nat} {st : α} (hi : ws[i]? = some st) : ws.take (i + 1) = ws.take i ++ [st] := by
  rw [List.take_add_one, hi]
  rfl
theorem take_len {α : Type} {ws : List α} {i : Nat} {st : α} (hi : ws[i]? = some st) : (ws.take i).length = i := by
  rw [List.length_take]
  have := (List.getElem?_eq_some_iff.mp hi).1
  omega
/-- the open ones and the pairs behind i steps -/
abbrev osAt (ws : List Stp) (i : Nat) : List Int := opens 0 [] (ws.take i)
abbrev prAt (ws : List Stp) (i : Nat) : List Pr := clo 0 [] (ws.take i)
theorem os_succ {ws : List Stp} {i : Nat} {st : Stp} (hi : ws[i]? = some st) : osAt ws (i + 1) = opens (i : Int) (osAt ws i) [st] := by
  show opens 0 [] (ws.take (i + 1)) = _
  rw [take_succ hi, opens_append, take_len hi, Int.zero_add]
theorem pr_succ {ws : List Stp} {i : Nat} {st : Stp} (hi : ws[i]? = some st) : prAt ws (i + 1) = prAt ws i ++ clo (i : Int) (osAt ws i) [st] := by
  show clo 0 [] (ws.take (i + 1)) = _
  rw [take_succ hi, clo_append, take_len hi, Int.zero_add]
theorem osAt_asc (ws : List Stp) (i : Nat) : Asc ((ws.take i).length) (osAt ws i) := by
  have h := opens_asc (ws.take i) 0 [] (asc_nil 0)
  rw [Int.zero_add] at h
  exact h
theorem os_num {ws : List Stp} {h i k : Nat} (r : run 0 ws = some h) (hi : ws[i]? = some (.num k)) : k < (osAt ws i).length := by
  obtain ⟨h', r', q⟩ := run_take r hi
  have e := opens_len (ws.take i) 0 [] r'
  show k < (opens 0 [] (ws.take i)).length
  rw [e]
  exact q k rfl
theorem os_le (ws : List Stp) (i : Nat) : (osAt ws i).length ≤ i := by
  have h : ∀ (r : List Stp) (p : Int) (os : List Int), (opens p os r).length ≤ os.length + r.length := by
    intro r
    induction r with
    | nil =>
      intro p os
      exact Nat.le_refl _
    | cons st r ih =>
      intro p os
      rw [List.length_cons]
      cases st with
      | lone =>
        have := ih (p + 1) os
        show (opens (p + 1) os r).length ≤ _
        omega
      | opn =>
        have := ih (p + 1) (os ++ [p])
        rw [List.length_append] at this
        show (opens (p + 1) (os ++ [p]) r).length ≤ _
        simp at this
        omega
      | num k =>
        have := ih (p + 1) (os.eraseIdx k)
        have q := (List.eraseIdx_sublist os k).length_le
        show (opens (p + 1) (os.eraseIdx k) r).length ≤ _
        omega
  have q := h (ws.take i) 0 []
  rw [List.length_take] at q
  simp at q
  show (opens 0 [] (ws.take i)).length ≤ i
  omega
theorem pr_le (ws : List Stp) (i : Nat) : (prAt ws i).length ≤ i := by
  have h : ∀ (r : List Stp) (p : Int) (os : List Int), (clo p os r).length ≤ r.length := by
    intro r
    induction r with
    | nil =>
      intro p os
      exact Nat.le_refl _
    | cons st r ih =>
      intro p os
      rw [List.length_cons]
      cases st with
      | lone => exact Nat.le_succ_of_le (ih (p + 1) os)
      | opn => exact Nat.le_succ_of_le (ih (p + 1) (os ++ [p]))
      | num k => exact Nat.succ_le_succ (ih (p + 1) (os.eraseIdx k))
  have q := h (ws.take i) 0 []
  rw [List.length_take] at q
  show (clo 0 [] (ws.take i)).length ≤ i
  omega
/-- the pairs of a walk, sorted -/
def prs (ws : List Stp) : List Pr := sortP (clo 0 [] ws)
theorem prAt_all (ws : List Stp) : prAt ws ws.length = clo 0 [] ws := by
  show clo 0 [] (ws.take ws.length) = _
  rw [List.take_length]
theorem step_at {ws : List Stp} {i : Nat} (hi : i < ws.length) : ∃ st, ws[i]? = some st ∧ (ws.map Stp.v)[i]? = some st.v := by
  refine ⟨ws[i], List.getElem?_eq_getElem hi, ?_⟩
  rw [List.getElem?_map, List.getElem?_eq_getElem hi]
  rfl
/-- where the pairs of a walk begin and end -/
theorem clo_fst : ∀ (ws : List Stp) (p : Int) (os : List Int) {h : Nat}, Asc p os → run os.length ws = some h → ((clo p os ws).map Prod.fst).Nodup ∧ ∀ x ∈ clo p os ws, (x.1 ∈ os ∨ p ≤ x.1) ∧ x.1 < x.2 ∧ p ≤ x.2
  | [], p, os, h, _, _ => ⟨List.Pairwise.nil, fun x m => absurd m List.not_mem_nil⟩
  | .lone :: r, p, os, h, a, e => by
    obtain ⟨h1, h2⟩ := clo_fst r (p + 1) os a.lone e
    refine ⟨h1, fun x m => ?_⟩
    obtain ⟨z, z2, z3⟩ := h2 x m
    refine ⟨z.imp id fun q => by omega, z2, by omega⟩
  | .opn :: r, p, os, h, a, e => by
    obtain ⟨h1, h2⟩ := clo_fst r (p + 1) (os ++ [p]) a.opn (by rw [List.length_append]; exact e)
    refine ⟨h1, fun x m => ?_⟩
    obtain ⟨z, z2, z3⟩ := h2 x m
    refine ⟨?_, z2, by omega⟩
    rcases z with z | z
    · rcases List.mem_append.mp z with z | z
      · exact .inl z
      · rw [List.mem_singleton.mp z]
        exact .inr (Int.le_refl _)
    · exact .inr (by omega)
  | .num k :: r, p, os, h, a, e => by
    have e2 : (if k < os.length then run (os.length - 1) r else none) = some h := e
    by_cases c : k < os.length
    · rw [if_pos c] at e2
      obtain ⟨h1, h2⟩ := clo_fst r (p + 1) (os.eraseIdx k) (a.num k) (by rw [List.length_eraseIdx, if_pos c]; exact e2)
      have hm : os.getD k 0 ∈ os := by
        rw [List.getD_eq_getElem?_getD, List.getElem?_eq_getElem c]
        exact List.getElem_mem c
      have hlt := a.2 _ hm
      refine ⟨?_, fun x m => ?_⟩
      · show (os.getD k 0 :: (clo (p + 1) (os.eraseIdx k) r).map Prod.fst).Nodup
        refine List.nodup_cons.mpr ⟨fun m => ?_, h1⟩
        obtain ⟨x, hx, ex⟩ := List.mem_map.mp m
        rcases (h2 x hx).1 with z | z
        · rw [← filter_ne_eraseIdx os k a.nodup c] at z
          have := (List.mem_filter.mp z).2
          rw [ex] at this
          simp at this
        · omega
      · rcases List.mem_cons.mp m with m | m
        · rw [m]
          exact ⟨.inl hm, hlt, Int.le_refl _⟩
        · obtain ⟨z, z2, z3⟩ := h2 x m
          refine ⟨?_, z2, by omega⟩
          rcases z with z | z
          · exact .inl (List.mem_of_mem_eraseIdx z)
          · exact .inr (by omega)
    · rw [if_neg c] at e2
      cases e2
theorem prs_perm (ws : List Stp) : (prs ws).Perm (clo 0 [] ws) := sortP_perm _
theorem prs_nodup {ws : List Stp} {h : Nat} (r : run 0 ws = some h) : ((prs ws).map Prod.fst).Nodup := ((prs_perm ws).map Prod.fst).nodup_iff.mpr (clo_fst ws 0 [] (asc_nil 0) r).1
theorem clo_len (ws : List Stp) : (clo 0 [] ws).length ≤ ws.length := by
  have h := pr_le ws ws.length
  rw [prAt_all] at h
  exact h
theorem prs_len (ws : List Stp) : (prs ws).length ≤ ws.length := by
  unfold prs
  rw [sortP_len]
  exact clo_len ws
theorem drop_step {α : Type} {ws : List α} {i : Nat} {st : α} (hi : ws[i]? = some st) : ws.drop i = st :: ws.drop (i + 1) := by
  have hl := (List.getElem?_eq_some_iff.mp hi).1
  rw [List.drop_eq_getElem_cons hl, (List.getElem?_eq_some_iff.mp hi).2]
theorem run_succ {ws : List Stp} {i h : Nat} {st : Stp} (hi : ws[i]? = some st) (r : run 0 (ws.take i) = some h) : run 0 (ws.take (i + 1)) = run h [st] := by
  rw [take_succ hi, run_append, r]
  rfl
end Pg
namespace Pg
open PySem L2
/-! ### points and their partners -/
def pts (ps : List Pr) : List Int := ps.flatMap fun q => [q.1, q.2]
theorem pts_cons (q : Pr) (r : List Pr) : pts (q :: r) = q.1 :: q.2 :: pts r := rfl
theorem mem_pts {ps : List Pr} {x : Int} : x ∈ pts ps ↔ ∃ q ∈ ps, x = q.1 ∨ x = q.2 := by
  unfold pts
  rw [List.mem_flatMap]
  constructor
  · rintro ⟨q, hq, hx⟩
    exact ⟨q, hq, by simpa using hx⟩
  · rintro ⟨q, hq, hx⟩
    exact ⟨q, hq, by simpa using hx⟩
theorem pts_perm {ps qs : List Pr} (h : ps.Perm qs) : (pts ps).Perm (pts qs) := h.flatMap_right _
theorem clo_pts : ∀ (ws : List Stp) (p : Int) (os : List Int) {h : Nat}, Asc p os → run os.length ws = some h → (pts (clo p os ws)).Nodup ∧ ∀ x ∈ pts (clo p os ws), (x ∈ os ∨ p ≤ x) ∧ x < p + ws.length
  | [], p, os, h, _, _ => ⟨List.Pairwise.nil, fun x m => absurd m List.not_mem_nil⟩
  | .lone :: r, p, os, h, a, e => by
    obtain ⟨h1, h2⟩ := clo_pts r (p + 1) os a.lone e
    refine ⟨h1, fun x m => ?_⟩
    obtain ⟨z, z2⟩ := h2 x m
    rw [List.length_cons]
    exact ⟨z.imp id fun q => by omega, by omega⟩
  | .opn :: r, p, os, h, a, e => by
    obtain ⟨h1, h2⟩ := clo_pts r (p + 1) (os ++ [p]) a.opn (by rw [List.length_append]; exact e)
    refine ⟨h1, fun x m => ?_⟩
    obtain ⟨z, z2⟩ := h2 x m
    rw [List.length_cons]
    refine ⟨?_, by omega⟩
    rcases z with z | z
    · rcases List.mem_append.mp z with z | z
      · exact .inl z
      · rw [List.mem_singleton.mp z]
        exact .inr (Int.le_refl _)
    · exact .inr (by omega)
  | .num k :: r, p, os, h, a, e => by
    have e2 : (if k < os.length then run (os.length - 1) r else none) = some h := e
    by_cases c : k < os.length
    · rw [if_pos c] at e2
      obtain ⟨h1, h2⟩ := clo_pts r (p + 1) (os.eraseIdx k) (a.num k) (by rw [List.length_eraseIdx, if_pos c]; exact e2)
      have hm : os.getD k 0 ∈ os := by
        rw [List.getD_eq_getElem?_getD, List.getElem?_eq_getElem c]
        exact List.getElem_mem c
      have hlt := a.2 _ hm
      have n1 : os.getD k 0 ∉ pts (clo (p + 1) (os.eraseIdx k) r) := fun m => by
        rcases (h2 _ m).1 with z | z
        · rw [← filter_ne_eraseIdx os k a.nodup c] at z
          have := (List.mem_filter.mp z).2
          simp at this
        · omega
      have n2 : p ∉ pts (clo (p + 1) (os.eraseIdx k) r) := fun m => by
        rcases (h2 _ m).1 with z | z
        · have := a.2 _ (List.mem_of_mem_eraseIdx z)
          omega
        · omega
      refine ⟨?_, fun x m => ?_⟩
      · show (os.getD k 0 :: p :: pts (clo (p + 1) (os.eraseIdx k) r)).Nodup
        refine List.nodup_cons.mpr ⟨fun m => ?_, List.nodup_cons.mpr ⟨n2, h1⟩⟩
        rcases List.mem_cons.mp m with m | m
        · omega
        · exact n1 m
      · have m2 : x ∈ os.getD k 0 :: p :: pts (clo (p + 1) (os.eraseIdx k) r) := m
        rw [List.length_cons]
        rcases List.mem_cons.mp m2 with m | m
        · rw [m]
          exact ⟨.inl hm, by omega⟩
        · rcases List.mem_cons.mp m with m | m
          · rw [m]
            exact ⟨.inr (Int.le_refl _), by omega⟩
          · obtain ⟨z, z2⟩ := h2 x m
            refine ⟨?_, by omega⟩
            rcases z with z | z
            · exact .inl (List.mem_of_mem_eraseIdx z)
            · exact .inr (by omega)
    · rw [if_neg c] at e2
      cases e2
/-- what is open is closed, where none is left open -/
theorem clo_closed : ∀ (ws : List Stp) (p : Int) (os : List Int), run os.length ws = some 0 → ∀ o ∈ os, ∃ b, (o, b) ∈ clo p os ws ∧ p ≤ b
  | [], p, os, e, o, m => by
    have e1 : os.length = 0 := Option.some.inj e
    rw [List.length_eq_zero_iff.mp e1] at m
    exact absurd m List.not_mem_nil
  | .lone :: r, p, os, e, o, m => by
    obtain ⟨b, hb, z⟩ := clo_closed r (p + 1) os e o m
    exact ⟨b, hb, by omega⟩
  | .opn :: r, p, os, e, o, m => by
    obtain ⟨b, hb, z⟩ := clo_closed r (p + 1) (os ++ [p]) (by rw [List.length_append]; exact e) o (List.mem_append_left _ m)
    exact ⟨b, hb, by omega⟩
  | .num k :: r, p, os, e, o, m => by
    have e2 : (if k < os.length then run (os.length - 1) r else none) = some 0 := e
    by_cases c : k < os.length
    · rw [if_pos c] at e2
      by_cases q : o = os.getD k 0
      · exact ⟨p, by rw [q]; exact List.mem_cons_self, Int.le_refl _⟩
      · have hm : o ∈ os.eraseIdx k := by
          obtain ⟨i, hi, ei⟩ := List.mem_iff_getElem.mp m
          have ne : i ≠ k := by
            intro z
            apply q
            rw [List.getD_eq_getElem?_getD, List.getElem?_eq_getElem c, ← ei]
            subst z
            rfl
          exact List.mem_eraseIdx_iff_getElem?.mpr ⟨i, ne, by rw [List.getElem?_eq_getElem hi, ei]⟩
        obtain ⟨b, hb, z⟩ := clo_closed r (p + 1) (os.eraseIdx k) (by rw [List.length_eraseIdx, if_pos c]; exact e2) o hm
        exact ⟨b, List.mem_cons_of_mem _ hb, by omega⟩
    · rw [if_neg c] at e2
      cases e2
/-- what stands at each point: none, or the partner -/
def mateStep (l : List V) (p : Pr) : List V := (l.set p.1.toNat (.int p.2)).set p.2.toNat (.int p.1)
def mateV (n : Int) (ps : List Pr) : List V := ps.foldl mateStep (List.replicate n.toNat .non)
theorem mateStep_len (l : List V) (p : Pr) : (mateStep l p).length = l.length := by
  unfold mateStep
  rw [List.length_set, List.length_set]
theorem mateF_len : ∀ (ps : List Pr) (l : List V), (ps.foldl mateStep l).length = l.length
  | [], l => rfl
  | p :: r, l => by
    show (r.foldl mateStep (mateStep l p)).length = _
    rw [mateF_len r, mateStep_len]
theorem mateV_len (n : Int) (ps : List Pr) : (mateV n ps).length = n.toNat := by
  unfold mateV
  rw [mateF_len, List.length_replicate]
theorem mate_other : ∀ (ps : List Pr) (l : List V) (i : Nat), (i : Int) ∉ pts ps → (∀ x ∈ pts ps, 0 ≤ x) → (ps.foldl mateStep l)[i]? = l[i]?
  | [], l, i, _, _ => rfl
  | p :: r, l, i, h, h0 => by
    show (r.foldl mateStep (mateStep l p))[i]? = _
    rw [pts_cons] at h h0
    have a := h0 p.1 List.mem_cons_self
    have b := h0 p.2 (List.mem_cons_of_mem _ List.mem_cons_self)
    have e1 : i ≠ p.1.toNat := fun e => h (by rw [e, Int.toNat_of_nonneg a]; exact List.mem_cons_self)
    have e2 : i ≠ p.2.toNat := fun e => h (by rw [e, Int.toNat_of_nonneg b]; exact List.mem_cons_of_mem _ List.mem_cons_self)
    rw [mate_other r _ i (fun m => h (List.mem_cons_of_mem _ (List.mem_cons_of_mem _ m))) (fun x m => h0 x (List.mem_cons_of_mem _ (List.mem_cons_of_mem _ m)))]
    unfold mateStep
    rw [List.getElem?_set_ne (Ne.symm e2), List.getElem?_set_ne (Ne.symm e1)]
theorem mate_mem : ∀ (ps : List Pr) (l : List V), (pts ps).Nodup → (∀ x ∈ pts ps, 0 ≤ x ∧ x < l.length) → ∀ q ∈ ps, (ps.foldl mateStep l)[q.1.toNat]? = some (.int q.2) ∧ (ps.foldl mateStep l)[q.2.toNat]? = some (.int q.1)
  | [], l, _, _, q, m => absurd m List.not_mem_nil
  | p :: r, l, nd, h0, q, m => by
    show (r.foldl mateStep (mateStep l p))[q.1.toNat]? = _ ∧ (r.foldl mateStep (mateStep l p))[q.2.toNat]? = _
    rw [pts_cons] at nd h0
    obtain ⟨n1, nd2⟩ := List.nodup_cons.mp nd
    obtain ⟨n2, nd3⟩ := List.nodup_cons.mp nd2
    have a := h0 p.1 List.mem_cons_self
    have b := h0 p.2 (List.mem_cons_of_mem _ List.mem_cons_self)
    have hr : ∀ x ∈ pts r, 0 ≤ x := fun x m => (h0 x (List.mem_cons_of_mem _ (List.mem_cons_of_mem _ m))).1
    rcases List.mem_cons.mp m with e | m
    · subst e
      have ne : q.1 ≠ q.2 := fun e => n1 (by rw [e]; exact List.mem_cons_self)
      have n3 : ((q.1.toNat : Nat) : Int) ∉ pts r := by
        rw [Int.toNat_of_nonneg a.1]
        exact fun m => n1 (List.mem_cons_of_mem _ m)
      have n4 : ((q.2.toNat : Nat) : Int) ∉ pts r := by
        rw [Int.toNat_of_nonneg b.1]
        exact n2
      rw [mate_other r _ _ n3 hr, mate_other r _ _ n4 hr]
      unfold mateStep
      constructor
      · rw [List.getElem?_set_ne (by omega), List.getElem?_set_self (by omega)]
      · rw [List.getElem?_set_self (by rw [List.length_set]; omega)]
    · refine mate_mem r _ nd3 (fun x mx => ?_) q m
      rw [mateStep_len]
      exact h0 x (List.mem_cons_of_mem _ (List.mem_cons_of_mem _ mx))
/-- the partners in a walk's pairing -/
theorem prs_pts {ws : List Stp} {h : Nat} (r : run 0 ws = some h) : (pts (prs ws)).Nodup ∧ ∀ x ∈ pts (prs ws), 0 ≤ x ∧ x < ws.length := by
  obtain ⟨h1, h2⟩ := clo_pts ws 0 [] (asc_nil 0) r
  have pm := pts_perm (prs_perm ws)
  refine ⟨pm.nodup_iff.mpr h1, fun x m => ?_⟩
  obtain ⟨z, z2⟩ := h2 x (pm.mem_iff.mp m)
  refine ⟨?_, by omega⟩
  rcases z with z | z
  · exact absurd z List.not_mem_nil
  · exact z
theorem clo_split {ws : List Stp} {i : Nat} {st : Stp} (hi : ws[i]? = some st) : clo 0 [] ws = prAt ws i ++ clo (i : Int) (osAt ws i) (st :: ws.drop (i + 1)) := by
  have hl := (List.getElem?_eq_some_iff.mp hi).1
  have ed : ws.drop i = st :: ws.drop (i + 1) := by
    rw [List.drop_eq_getElem_cons hl, (List.getElem?_eq_some_iff.mp hi).2]
  have e : ws = ws.take i ++ (st :: ws.drop (i + 1)) := by
    rw [← ed]
    exact (List.take_append_drop i ws).symm
  have q : clo 0 [] (ws.take i ++ (st :: ws.drop (i + 1))) = _ := clo_append 0 [] (ws.take i) (st :: ws.drop (i + 1))
  rw [take_len hi, Int.zero_add] at q
  rw [← e] at q
  exact q
theorem run_drop {ws : List Stp} {i h : Nat} {st : Stp} (r : run 0 ws = some h) (hi : ws[i]? = some st) : run (osAt ws i).length (st :: ws.drop (i + 1)) = some h := by
  have hl := (List.getElem?_eq_some_iff.mp hi).1
  have ed : ws.drop i = st :: ws.drop (i + 1) := by
    rw [List.drop_eq_getElem_cons hl, (List.getElem?_eq_some_iff.mp hi).2]
  obtain ⟨h', r', _⟩ := run_take r hi
  have e1 := opens_len (ws.take i) 0 [] r'
  have r2 := r
  rw [← List.take_append_drop i ws, run_append, r', ed] at r2
  show run (opens 0 [] (ws.take i)).length _ = _
  rw [e1]
  exact r2
theorem mate_lone {ws : List Stp} {h i : Nat} (r : run 0 ws = some h) (hi : ws[i]? = some .lone) : (mateV (ws.length : Int) (prs ws))[i]? = some .non := by
  have hl := (List.getElem?_eq_some_iff.mp hi).1
  obtain ⟨h1, h2⟩ := prs_pts r
  unfold mateV
  rw [mate_other _ _ _ (fun m => ?_) (fun x m => (h2 x m).1)]
  · rw [List.getElem?_replicate, if_pos (by omega)]
  · have m1 := (pts_perm (prs_perm ws)).mem_iff.mp m
    rw [clo_split hi] at m1
    have m2 : (i : Int) ∈ pts (prAt ws i) ∨ (i : Int) ∈ pts (clo (i : Int) (osAt ws i) (.lone :: ws.drop (i + 1))) := by
      obtain ⟨q, hq, z⟩ := mem_pts.mp m1
      rcases List.mem_append.mp hq with hq | hq
      · exact .inl (mem_pts.mpr ⟨q, hq, z⟩)
      · exact .inr (mem_pts.mpr ⟨q, hq, z⟩)
    obtain ⟨h', r', _⟩ := run_take r hi
    have tl := take_len hi
    rcases m2 with m2 | m2
    · have := ((clo_pts (ws.take i) 0 [] (asc_nil 0) r').2 _ m2).2
      omega
    · have asc := osAt_asc ws i
      rw [tl] at asc
      have rd : run (osAt ws i).length (ws.drop (i + 1)) = some h := run_drop r hi
      have := ((clo_pts (ws.drop (i + 1)) ((i : Int) + 1) (osAt ws i) asc.lone rd).2 _ m2).1
      rcases this with z | z
      · have := asc.2 _ z
        omega
      · omega
theorem mate_num {ws : List Stp} {h i k : Nat} (r : run 0 ws = some h) (hi : ws[i]? = some (.num k)) : (mateV (ws.length : Int) (prs ws))[i]? = some (.int ((osAt ws i).getD k 0)) := by
  obtain ⟨h1, h2⟩ := prs_pts r
  have m : (((osAt ws i).getD k 0, (i : Int)) : Pr) ∈ prs ws := (prs_perm ws).mem_iff.mpr (by
    rw [clo_split hi]
    exact List.mem_append_right _ List.mem_cons_self)
  have q := (mate_mem (prs ws) (List.replicate ((ws.length : Int)).toNat .non) h1 (fun x mx => by
    have := h2 x mx
    rw [List.length_replicate]
    omega) _ m).2
  exact q
theorem mate_opn {ws : List Stp} {i : Nat} (r : run 0 ws = some 0) (hi : ws[i]? = some .opn) : ∃ b : Int, (i : Int) < b ∧ (mateV (ws.length : Int) (prs ws))[i]? = some (.int b) := by
  obtain ⟨h1, h2⟩ := prs_pts r
  have rd := run_drop r hi
  have rd2 : run (osAt ws i ++ [(i : Int)]).length (ws.drop (i + 1)) = some 0 := by
    rw [List.length_append]
    exact rd
  obtain ⟨b, hb, hlt⟩ := clo_closed (ws.drop (i + 1)) ((i : Int) + 1) (osAt ws i ++ [(i : Int)]) rd2 (i : Int) (List.mem_append_right _ (List.mem_singleton.mpr rfl))
  have m : (((i : Int), b) : Pr) ∈ prs ws := (prs_perm ws).mem_iff.mpr (by
    rw [clo_split hi]
    exact List.mem_append_right _ hb)
  have q := (mate_mem (prs ws) (List.replicate ((ws.length : Int)).toNat .non) h1 (fun x mx => by
    have := h2 x mx
    rw [List.length_replicate]
    omega) _ m).1
  exact ⟨b, by omega, q⟩
end Pg
namespace Pg
open PySem L2
/-! ### crossings and nestings of a list of pairs -/
/-- the program's tests -/
def crossB (p q : Pr) : Bool := decide (q.1 < p.2) && decide (p.2 < q.2)
def nestB (p q : Pr) : Bool := decide (p.1 < q.1) && decide (q.2 < p.2)
/-- the law's -/
def crossL (p q : Pr) : Bool := decide (p.1 < q.1) && (decide (q.1 < p.2) && decide (p.2 < q.2))
def crossRow : List Pr → Int
  | [] => 0
  | p :: r => ((r.filter (crossB p)).length : Int) + crossRow r
/-- of a list ps: for each of l how many of ps are told by f -/
def twos (f : Pr → Pr → Bool) (ps : List Pr) : List Pr → Int
  | [] => 0
  | p :: r => ((ps.filter (f p)).length : Int) + twos f ps r
theorem twos_append (f : Pr → Pr → Bool) (ps : List Pr) : ∀ a b, twos f ps (a ++ b) = twos f ps a + twos f ps b
  | [], b => by simp [twos]
  | p :: r, b => by
    show _ + twos f ps (r ++ b) = (_ + twos f ps r) + _
    rw [twos_append f ps r b]
    omega
theorem twos_perm (f : Pr → Pr → Bool) {ps qs : List Pr} (h : ps.Perm qs) : ∀ {l m : List Pr}, l.Perm m → twos f ps l = twos f qs m := by
  have base : ∀ l, twos f ps l = twos f qs l := by
    intro l
    induction l with
    | nil => rfl
    | cons p r ih =>
      show _ + _ = _ + _
      rw [ih, (h.filter (f p)).length_eq]
  intro l m hm
  rw [base l]
  induction hm with
  | nil => rfl
  | cons x _ ih =>
    show _ + _ = _ + _
    rw [ih]
  | swap x y l =>
    show _ + (_ + _) = _ + (_ + _)
    omega
  | trans _ _ i1 i2 => rw [i1, i2]
/-- rising by first points, no two alike -/
abbrev Ris (ps : List Pr) : Prop := ps.Pairwise fun p q => p.1 < q.1
theorem srp_ris {ps : List Pr} (h : SrP ps) (nd : (ps.map Prod.fst).Nodup) : Ris ps := by
  have nd2 : ps.Pairwise fun p q => p.1 ≠ q.1 := List.pairwise_map.mp nd
  exact List.Pairwise.imp₂ (fun p q h1 h2 => by
    have := SrtO.lexB_no.mp h1
    omega) h nd2
/-- of rising pairs: those behind alone can be crossed -/
theorem cross_row (ps : List Pr) : ∀ (pre r : List Pr), ps = pre ++ r → Ris ps → twos crossL ps r = crossRow r
  | pre, [], _, _ => rfl
  | pre, p :: r, e, h => by
    show _ + _ = _ + _
    rw [cross_row ps (pre ++ [p]) r (by rw [e]; simp) h]
    congr 2
    rw [e, List.filter_append]
    rw [e] at h
    obtain ⟨_, h2, h3⟩ := List.pairwise_append.mp h
    obtain ⟨h4, _⟩ := List.pairwise_cons.mp h2
    have e1 : pre.filter (crossL p) = [] := List.filter_eq_nil_iff.mpr fun q hq z => by
      have := h3 q hq p List.mem_cons_self
      unfold crossL at z
      simp at z
      omega
    have e2 : (p :: r).filter (crossL p) = r.filter (crossB p) := by
      rw [List.filter_cons, if_neg (by unfold crossL; simp)]
      refine List.filter_congr fun q hq => ?_
      unfold crossL crossB
      rw [decide_eq_true (h4 q hq), Bool.true_and]
    rw [e1, e2, List.nil_append]
theorem crossRow_eq {ps : List Pr} (h : Ris ps) : crossRow ps = twos crossL ps ps := (cross_row ps [] ps rfl h).symm
theorem crossRow_drop (ps : List Pr) {i : Nat} {p : Pr} (h : ps[i]? = some p) : crossRow (ps.drop i) = (((ps.drop (i + 1)).filter (crossB p)).length : Int) + crossRow (ps.drop (i + 1)) := by
  have hl := (List.getElem?_eq_some_iff.mp h).1
  rw [List.drop_eq_getElem_cons hl, (List.getElem?_eq_some_iff.mp h).2]
  rfl
theorem twos_take (f : Pr → Pr → Bool) (ps qs : List Pr) {i : Nat} {p : Pr} (h : qs[i]? = some p) : twos f ps (qs.take (i + 1)) = twos f ps (qs.take i) + ((ps.filter (f p)).length : Int) := by
  rw [List.take_add_one, h, twos_append]
  show _ + (_ + 0) = _
  omega
/-- a list of pairs' places, tested -/
theorem filt_pairs {H : Hp} (g : Pr → Bool) : ∀ {xs : List V} {ps : List Pr}, PairsAt H xs ps → PairsAt H (xs.filter fun x => g (prOf H x)) (ps.filter g)
  | _, _, .nil => .nil
  | _, _, .cons (a := x) (b := p) h t => by
    rw [List.filter_cons, List.filter_cons, h.of]
    cases e : g p with
    | true =>
      rw [if_pos rfl, if_pos rfl]
      exact .cons h (filt_pairs g t)
    | false =>
      rw [if_neg Bool.false_ne_true, if_neg Bool.false_ne_true]
      exact filt_pairs g t
theorem twos_congr {f g : Pr → Pr → Bool} (h : ∀ p q, f p q = g p q) (ps : List Pr) : ∀ l, twos f ps l = twos g ps l := by
  have e : f = g := funext fun p => funext fun q => h p q
  intro l
  rw [e]
end Pg
namespace Pg
open PySem L2
/-! ### crossings and nestings are sums over the walk -/
def nestS : Nat → List Stp → Int
  | _, [] => 0
  | h, .lone :: r => nestS h r
  | h, .opn :: r => nestS (h + 1) r
  | h, .num k :: r => (k : Int) + nestS (h - 1) r
def crossS : Nat → List Stp → Int
  | _, [] => 0
  | h, .lone :: r => crossS h r
  | h, .opn :: r => crossS (h + 1) r
  | h, .num k :: r => ((h : Int) - 1 - (k : Int)) + crossS (h - 1) r
theorem twos_nil (f : Pr → Pr → Bool) : ∀ l, twos f [] l = 0
  | [] => rfl
  | p :: r => by
    show _ + twos f [] r = 0
    rw [twos_nil f r]
    rfl
theorem twos_cons_left (f : Pr → Pr → Bool) (q : Pr) (ps : List Pr) : ∀ l, twos f (q :: ps) l = ((l.filter fun p => f p q).length : Int) + twos f ps l
  | [] => rfl
  | p :: r => by
    show (((q :: ps).filter (f p)).length : Int) + twos f (q :: ps) r = (((p :: r).filter fun p => f p q).length : Int) + (((ps.filter (f p)).length : Int) + twos f ps r)
    rw [twos_cons_left f q ps r, List.filter_cons, List.filter_cons]
    cases f p q with
    | true =>
      rw [if_pos rfl, if_pos rfl, List.length_cons, List.length_cons]
      omega
    | false =>
      rw [if_neg Bool.false_ne_true, if_neg Bool.false_ne_true]
      omega
/-- counted from the other side -/
theorem twos_flip (f : Pr → Pr → Bool) : ∀ ps l, twos f ps l = twos (fun x y => f y x) l ps
  | [], l => twos_nil f l
  | q :: ps, l => by
    rw [twos_cons_left, twos_flip f ps l]
    rfl
/-- where F x y asks that x ends ahead of y: the first to end, then the rest -/
theorem twos_first {F : Pr → Pr → Bool} (hF : ∀ x y, F x y = true → x.2 < y.2) {a : Pr} {C : List Pr} (h : ∀ x ∈ C, a.2 < x.2) : twos F (a :: C) (a :: C) = ((C.filter (F a)).length : Int) + twos F C C := by
  show (((a :: C).filter (F a)).length : Int) + twos F (a :: C) C = _
  have e1 : F a a = false := by
    cases e : F a a with
    | true =>
      have := hF a a e
      omega
    | false => rfl
  rw [twos_cons_left, List.filter_cons, e1, if_neg Bool.false_ne_true]
  have e2 : (C.filter fun p => F p a) = [] := List.filter_eq_nil_iff.mpr fun x hx z => by
    have := hF x a z
    have := h x hx
    omega
  rw [e2]
  simp
/-- the open ones are the beginnings ahead of p of what is still to end -/
theorem begins_perm (ws : List Stp) (p : Int) (os : List Int) (a : Asc p os) (e : run os.length ws = some 0) : (((clo p os ws).map Prod.fst).filter fun x => decide (x < p)).Perm os := by
  obtain ⟨nd, hc⟩ := clo_fst ws p os a e
  refine (List.perm_ext_iff_of_nodup (nd.filter _) a.nodup).mpr fun x => ?_
  rw [List.mem_filter]
  constructor
  · rintro ⟨hm, hx⟩
    obtain ⟨q, hq, eq⟩ := List.mem_map.mp hm
    rcases (hc q hq).1 with z | z
    · rw [← eq]
      exact z
    · have := of_decide_eq_true hx
      omega
  · intro hx
    obtain ⟨b, hb, _⟩ := clo_closed ws p os e x hx
    exact ⟨List.mem_map.mpr ⟨_, hb, rfl⟩, decide_eq_true (a.2 x hx)⟩
theorem begins_count (ws : List Stp) (p : Int) (os : List Int) (a : Asc p os) (e : run os.length ws = some 0) (g : Int → Bool) :
    ((clo p os ws).filter fun y => g y.1 && decide (y.1 < p)).length = (os.filter g).length := by
  have h1 := ((begins_perm ws p os a e).filter g).length_eq
  rw [← h1, List.filter_filter, List.filter_map, List.length_map]
  rfl
/-- the one at k: so many ahead of it, so many behind -/
theorem asc_counts {p : Int} {os : List Int} (a : Asc p os) {k : Nat} (hk : k < os.length) :
    ((os.eraseIdx k).filter fun o => decide (os.getD k 0 < o)).length = os.length - 1 - k ∧ ((os.eraseIdx k).filter fun o => decide (o < os.getD k 0)).length = k := by
  have e : os.getD k 0 = os[k] := by
    rw [List.getD_eq_getElem?_getD, List.getElem?_eq_getElem hk]
    rfl
  rw [e, List.eraseIdx_eq_take_drop_succ, List.filter_append, List.filter_append]
  have hp := a.1
  have hsplit : os = os.take k ++ os[k] :: os.drop (k + 1) := by
    have h1 := (List.take_append_drop k os).symm
    rw [List.drop_eq_getElem_cons hk] at h1
    exact h1
  have hp2 := hp
  rw [hsplit] at hp2
  obtain ⟨_, h2, h3⟩ := List.pairwise_append.mp hp2
  obtain ⟨h4, _⟩ := List.pairwise_cons.mp h2
  have l1 : ∀ x ∈ os.take k, x < os[k] := fun x hx => h3 x hx _ List.mem_cons_self
  have l2 : ∀ x ∈ os.drop (k + 1), os[k] < x := fun x hx => h4 x hx
  constructor
  · rw [List.filter_eq_nil_iff.mpr fun x hx z => by
      have := of_decide_eq_true z
      have := l1 x hx
      omega, List.filter_eq_self.mpr fun x hx => decide_eq_true (l2 x hx), List.nil_append, List.length_drop]
    omega
  · rw [List.filter_eq_self.mpr fun x hx => decide_eq_true (l1 x hx), List.filter_eq_nil_iff.mpr fun x hx z => by
      have := of_decide_eq_true z
      have := l2 x hx
      omega, List.append_nil, List.length_take]
    omega
/-- x within y -/
def inB (x y : Pr) : Bool := nestB y x
theorem crossL_lt (x y : Pr) (h : crossL x y = true) : x.2 < y.2 := by
  unfold crossL at h
  simp at h
  omega
theorem inB_lt (x y : Pr) (h : inB x y = true) : x.2 < y.2 := by
  unfold inB nestB at h
  simp at h
  omega
theorem sums_aux : ∀ (ws : List Stp) (p : Int) (os : List Int), Asc p os → run os.length ws = some 0 → twos crossL (clo p os ws) (clo p os ws) = crossS os.length ws ∧ twos inB (clo p os ws) (clo p os ws) = nestS os.length ws
  | [], p, os, _, _ => ⟨rfl, rfl⟩
  | .lone :: r, p, os, a, e => sums_aux r (p + 1) os a.lone e
  | .opn :: r, p, os, a, e => by
    have h := sums_aux r (p + 1) (os ++ [p]) a.opn (by rw [List.length_append]; exact e)
    rw [List.length_append] at h
    exact h
  | .num k :: r, p, os, a, e => by
    have e2 : (if k < os.length then run (os.length - 1) r else none) = some 0 := e
    by_cases c : k < os.length
    · rw [if_pos c] at e2
      have el : (os.eraseIdx k).length = os.length - 1 := by rw [List.length_eraseIdx, if_pos c]
      have e3 : run (os.eraseIdx k).length r = some 0 := by rw [el]; exact e2
      obtain ⟨i1, i2⟩ := sums_aux r (p + 1) (os.eraseIdx k) (a.num k) e3
      have hb : ∀ x ∈ clo (p + 1) (os.eraseIdx k) r, p < x.2 := fun x hx => by
        have := ((clo_fst r (p + 1) (os.eraseIdx k) (a.num k) e3).2 x hx).2.2
        omega
      have hm : os.getD k 0 ∈ os := by
        rw [List.getD_eq_getElem?_getD, List.getElem?_eq_getElem c]
        exact List.getElem_mem c
      have hap := a.2 _ hm
      obtain ⟨a1, a2⟩ := asc_counts a c
      have hne : ∀ y : Pr, y ∈ clo (p + 1) (os.eraseIdx k) r → y.1 ≠ p := fun y hy z => by
        rcases ((clo_fst r (p + 1) (os.eraseIdx k) (a.num k) e3).2 y hy).1 with q | q
        · have := a.2 _ (List.mem_of_mem_eraseIdx q)
          omega
        · omega
      constructor
      · show twos crossL ((os.getD k 0, p) :: _) ((os.getD k 0, p) :: _) = ((os.length : Int) - 1 - (k : Int)) + crossS (os.length - 1) r
        rw [twos_first crossL_lt hb, i1, el]
        have q : ((clo (p + 1) (os.eraseIdx k) r).filter (crossL (os.getD k 0, p))).length = ((os.eraseIdx k).filter fun o => decide (os.getD k 0 < o)).length := by
          rw [← begins_count r (p + 1) (os.eraseIdx k) (a.num k) e3]
          congr 1
          refine List.filter_congr fun y hy => ?_
          have h1 := hb y hy
          have h2 := hne y hy
          unfold crossL
          dsimp only
          rw [decide_eq_true h1, Bool.and_true]
          congr 1
          rw [decide_eq_decide]
          omega
        rw [q, a1]
        congr 1
        omega
      · show twos inB ((os.getD k 0, p) :: _) ((os.getD k 0, p) :: _) = (k : Int) + nestS (os.length - 1) r
        rw [twos_first inB_lt hb, i2, el]
        have q : ((clo (p + 1) (os.eraseIdx k) r).filter (inB (os.getD k 0, p))).length = ((os.eraseIdx k).filter fun o => decide (o < os.getD k 0)).length := by
          rw [← begins_count r (p + 1) (os.eraseIdx k) (a.num k) e3]
          congr 1
          refine List.filter_congr fun y hy => ?_
          have h1 := hb y hy
          unfold inB nestB
          dsimp only
          rw [decide_eq_true h1, Bool.and_true, Bool.eq_iff_iff, Bool.and_eq_true, decide_eq_true_eq, decide_eq_true_eq]
          omega
        rw [q, a2]
    · rw [if_neg c] at e2
      cases e2
/-- [6] of the document -/
theorem cross_sum {ws : List Stp} (r : run 0 ws = some 0) : twos crossL (prs ws) (prs ws) = crossS 0 ws := by
  rw [twos_perm crossL (prs_perm ws) (prs_perm ws)]
  exact (sums_aux ws 0 [] (asc_nil 0) r).1
theorem nest_sum {ws : List Stp} (r : run 0 ws = some 0) : twos nestB (prs ws) (prs ws) = nestS 0 ws := by
  rw [twos_flip, twos_perm _ (prs_perm ws) (prs_perm ws)]
  exact (sums_aux ws 0 [] (asc_nil 0) r).2
theorem prs_ris {ws : List Stp} {h : Nat} (r : run 0 ws = some h) : Ris (prs ws) := srp_ris (sortP_sorted (clo 0 [] ws)) (prs_nodup r)
theorem crossRow_sum {ws : List Stp} (r : run 0 ws = some 0) : crossRow (prs ws) = crossS 0 ws := (crossRow_eq (prs_ris r)).trans (cross_sum r)
end Pg
namespace Pg
open PySem L2
/-! ### data that may be compared -/
/-- of a depth of d at most -/
def Shp (d : Nat) (x : PyData) : Prop := x.canLay0 = true ∧ x.depth ≤ d
theorem Shp.mono {d e : Nat} {x : PyData} (h : Shp d x) (l : d ≤ e) : Shp e x := ⟨h.1, Nat.le_trans h.2 l⟩
theorem Shp.shaped {d : Nat} {x : PyData} (h : Shp d x) (l : d ≤ 64 := by decide) : SeqAt.shaped x = true := by
  show (x.canLay0 && decide (x.depth ≤ 64)) = true
  rw [Bool.and_eq_true]
  exact ⟨h.1, decide_eq_true (Nat.le_trans h.2 l)⟩
theorem Shp.refl {d : Nat} {x : PyData} (h : Shp d x) : PyData.eqv x x = true := SeqAt.eqv_refl x h.1
theorem shp_all {d : Nat} : ∀ {xs : List PyData}, (∀ x ∈ xs, Shp d x) → PyData.canLayAll0 xs = true ∧ PyData.depthAll xs ≤ d
  | [], _ => ⟨by simp [PyData.canLayAll0], by simp [PyData.depthAll]⟩
  | x :: r, h => by
    obtain ⟨h1, h2⟩ := shp_all (xs := r) fun y m => h y (List.mem_cons_of_mem _ m)
    obtain ⟨h3, h4⟩ := h x List.mem_cons_self
    refine ⟨by simp [PyData.canLayAll0, h1, h3], ?_⟩
    simp only [PyData.depthAll]
    omega
theorem shp_lst {d : Nat} {xs : List PyData} (h : ∀ x ∈ xs, Shp d x) : Shp (d + 1) (.list xs) := by
  obtain ⟨h1, h2⟩ := shp_all h
  refine ⟨by simpa [PyData.canLay0] using h1, ?_⟩
  simp only [PyData.depth]
  omega
theorem shp_tup {d : Nat} {xs : List PyData} (h : ∀ x ∈ xs, Shp d x) : Shp (d + 1) (.tuple xs) := by
  obtain ⟨h1, h2⟩ := shp_all h
  refine ⟨by simpa [PyData.canLay0] using h1, ?_⟩
  simp only [PyData.depth]
  omega
theorem shp_int {d : Nat} (i : Int) : Shp d (.int i) := ⟨by simp [PyData.canLay0], by simp [PyData.depth]⟩
theorem shp_bool {d : Nat} (i : Bool) : Shp d (.bool i) := ⟨by simp [PyData.canLay0], by simp [PyData.depth]⟩
theorem shp_prD (p : Pr) : Shp 1 (prD p) := shp_tup fun x m => by
  rcases List.mem_cons.mp m with e | m
  · rw [e]
    exact shp_int _
  · rw [List.mem_singleton.mp m]
    exact shp_int _
theorem shp_prsD (ps : List Pr) : Shp 2 (prsD ps) := shp_tup fun x m => by
  obtain ⟨p, _, e⟩ := List.mem_map.mp m
  rw [← e]
  exact shp_prD p
theorem shp_pgD (n : Int) (ps : List Pr) : Shp 3 (pgD n ps) := shp_tup fun x m => by
  rcases List.mem_cons.mp m with e | m
  · rw [e]
    exact shp_int _
  · rw [List.mem_singleton.mp m]
    exact shp_prsD _
theorem prD_eqv (p q : Pr) : PyData.eqv (prD p) (prD q) = decide (p = q) := by
  obtain ⟨a, b⟩ := p
  obtain ⟨c, d⟩ := q
  show PyData.eqv (.tuple [.int a, .int b]) (.tuple [.int c, .int d]) = _
  simp only [PyData.eqv, PyData.eqvAll, Bool.and_true, Prod.mk.injEq]
  rw [Bool.eq_iff_iff]
  simp
theorem eqvAll_map {α : Type} [DecidableEq α] (f : α → PyData) (h : ∀ x y, PyData.eqv (f x) (f y) = decide (x = y)) : ∀ xs ys : List α, PyData.eqvAll (xs.map f) (ys.map f) = decide (xs = ys)
  | [], [] => by simp [PyData.eqvAll]
  | [], _ :: _ => by simp [PyData.eqvAll]
  | _ :: _, [] => by simp [PyData.eqvAll]
  | x :: xs, y :: ys => by
    simp only [List.map_cons, PyData.eqvAll, h x y, eqvAll_map f h xs ys, List.cons.injEq]
    rw [Bool.eq_iff_iff]
    simp
theorem prsD_eqv (ps qs : List Pr) : PyData.eqv (prsD ps) (prsD qs) = decide (ps = qs) := by
  unfold prsD
  simp only [PyData.eqv]
  exact eqvAll_map prD prD_eqv ps qs
theorem pgD_eqv (n m : Int) (ps qs : List Pr) : PyData.eqv (pgD n ps) (pgD m qs) = (decide (n = m) && decide (ps = qs)) := by
  unfold pgD
  simp only [PyData.eqv, PyData.eqvAll, prsD_eqv, Bool.and_true]
  rw [Bool.eq_iff_iff]
  simp
theorem pgs_dp {K : PySem.W.Frag} {H : Hp} {n : Int} : ∀ {xs : List V} {ls : List (List Stp)}, Paired (fun v b => PairingAt H v n (prs b)) xs ls → DpAll K H xs (ls.map fun b => pgD n (prs b))
  | _, _, .nil => .nil
  | _, _, .cons a b => .cons a.dp (pgs_dp b)
theorem shp_pgs (n : Int) (ls : List (List Stp)) : Shp 4 (.list (ls.map fun b => pgD n (prs b))) := shp_lst fun x m => by
  obtain ⟨b, _, e⟩ := List.mem_map.mp m
  rw [← e]
  exact shp_pgD _ _
theorem lsD_eqv (ps qs : List Pr) : PyData.eqv (.list (ps.map prD)) (.list (qs.map prD)) = decide (ps = qs) := by
  simp only [PyData.eqv]
  exact eqvAll_map prD prD_eqv ps qs
theorem shp_lsD (ps : List Pr) : Shp 2 (.list (ps.map prD)) := shp_lst fun x mx => by
  obtain ⟨p, _, ep⟩ := List.mem_map.mp mx
  rw [← ep]
  exact shp_prD p
/-- a walk's steps -/
def Stp.d : Stp → PyData
  | .lone => .str "lone"
  | .opn => .str "open"
  | .num k => .int (k : Int)
theorem stp_dp {K : PySem.W.Frag} {H : Hp} : ∀ st : Stp, Dp K H st.v st.d
  | .lone => .str _
  | .opn => .str _
  | .num _ => .int _
theorem stps_dp {K : PySem.W.Frag} {H : Hp} : ∀ ws : List Stp, DpAll K H (ws.map Stp.v) (ws.map Stp.d)
  | [] => .nil
  | st :: r => .cons (stp_dp st) (stps_dp r)
theorem shp_stp : ∀ st : Stp, Shp 0 st.d
  | .lone => ⟨by decide +kernel, by decide +kernel⟩
  | .opn => ⟨by decide +kernel, by decide +kernel⟩
  | .num k => shp_int _
theorem shp_stps (ws : List Stp) : Shp 1 (.list (ws.map Stp.d)) := shp_lst fun x m => by
  obtain ⟨st, _, e⟩ := List.mem_map.mp m
  rw [← e]
  exact shp_stp st
theorem scal_stp : ∀ a b : Stp, scal a.v b.v = true
  | .lone, .lone => rfl
  | .lone, .opn => rfl
  | .lone, .num _ => rfl
  | .opn, .lone => rfl
  | .opn, .opn => rfl
  | .opn, .num _ => rfl
  | .num _, .lone => rfl
  | .num _, .opn => rfl
  | .num _, .num _ => rfl
/-! ### lists of truth values -/
theorem bools_dp {K : PySem.W.Frag} {H : Hp} : ∀ bs : List Bool, DpAll K H (bs.map V.bl) (bs.map PyData.bool)
  | [] => .nil
  | b :: r => .cons (.bl b) (bools_dp r)
theorem shp_bools (bs : List Bool) : Shp 1 (.list (bs.map PyData.bool)) := shp_lst fun x m => by
  obtain ⟨b, _, e⟩ := List.mem_map.mp m
  rw [← e]
  exact shp_bool b
end Pg
namespace Pg
open PySem L2
/-! ### a walk turned -/
def turnW : Nat → List Stp → List Stp
  | _, [] => []
  | h, .lone :: r => .lone :: turnW h r
  | h, .opn :: r => .opn :: turnW (h + 1) r
  | h, .num k :: r => .num (h - 1 - k) :: turnW (h - 1) r
theorem turnW_len : ∀ (ws : List Stp) (h : Nat), (turnW h ws).length = ws.length
  | [], _ => rfl
  | .lone :: r, h => by
    show (turnW h r).length + 1 = r.length + 1
    rw [turnW_len r h]
  | .opn :: r, h => by
    show (turnW (h + 1) r).length + 1 = r.length + 1
    rw [turnW_len r (h + 1)]
  | .num k :: r, h => by
    show (turnW (h - 1) r).length + 1 = r.length + 1
    rw [turnW_len r (h - 1)]
theorem turnW_append : ∀ (a b : List Stp) {h h' : Nat}, run h a = some h' → turnW h (a ++ b) = turnW h a ++ turnW h' b
  | [], b, h, h', e => by
    have e1 : h = h' := Option.some.inj e
    rw [e1]
    rfl
  | .lone :: r, b, h, h', e => congrArg (Stp.lone :: ·) (turnW_append r b e)
  | .opn :: r, b, h, h', e => congrArg (Stp.opn :: ·) (turnW_append r b (h := h + 1) e)
  | .num k :: r, b, h, h', e => by
    have e2 : (if k < h then run (h - 1) r else none) = some h' := e
    by_cases c : k < h
    · rw [if_pos c] at e2
      exact congrArg (Stp.num (h - 1 - k) :: ·) (turnW_append r b e2)
    · rw [if_neg c] at e2
      cases e2
theorem turnW_run : ∀ (ws : List Stp) {h h' : Nat}, run h ws = some h' → run h (turnW h ws) = some h'
  | [], h, h', e => e
  | .lone :: r, h, h', e => turnW_run r (h := h) e
  | .opn :: r, h, h', e => turnW_run r (h := h + 1) e
  | .num k :: r, h, h', e => by
    have e2 : (if k < h then run (h - 1) r else none) = some h' := e
    by_cases c : k < h
    · rw [if_pos c] at e2
      show (if h - 1 - k < h then run (h - 1) (turnW (h - 1) r) else none) = some h'
      rw [if_pos (by omega)]
      exact turnW_run r e2
    · rw [if_neg c] at e2
      cases e2
theorem turnW_turnW : ∀ (ws : List Stp) {h h' : Nat}, run h ws = some h' → turnW h (turnW h ws) = ws
  | [], h, h', e => rfl
  | .lone :: r, h, h', e => congrArg (Stp.lone :: ·) (turnW_turnW r (h := h) e)
  | .opn :: r, h, h', e => congrArg (Stp.opn :: ·) (turnW_turnW r (h := h + 1) e)
  | .num k :: r, h, h', e => by
    have e2 : (if k < h then run (h - 1) r else none) = some h' := e
    by_cases c : k < h
    · rw [if_pos c] at e2
      show Stp.num (h - 1 - (h - 1 - k)) :: turnW (h - 1) (turnW (h - 1) r) = _
      rw [turnW_turnW r e2, show h - 1 - (h - 1 - k) = k by omega]
    · rw [if_neg c] at e2
      cases e2
theorem turnW_sums : ∀ (ws : List Stp) {h h' : Nat}, run h ws = some h' → nestS h (turnW h ws) = crossS h ws ∧ crossS h (turnW h ws) = nestS h ws
  | [], h, h', e => ⟨rfl, rfl⟩
  | .lone :: r, h, h', e => turnW_sums r (h := h) e
  | .opn :: r, h, h', e => turnW_sums r (h := h + 1) e
  | .num k :: r, h, h', e => by
    have e2 : (if k < h then run (h - 1) r else none) = some h' := e
    by_cases c : k < h
    · rw [if_pos c] at e2
      obtain ⟨i1, i2⟩ := turnW_sums r e2
      constructor
      · show ((h - 1 - k : Nat) : Int) + nestS (h - 1) (turnW (h - 1) r) = ((h : Int) - 1 - (k : Int)) + crossS (h - 1) r
        rw [i1]
        omega
      · show ((h : Int) - 1 - ((h - 1 - k : Nat) : Int)) + crossS (h - 1) (turnW (h - 1) r) = (k : Int) + nestS (h - 1) r
        rw [i2]
        omega
    · rw [if_neg c] at e2
      cases e2
/-- what kind of step stands where -/
def kind : Stp → Nat
  | .lone => 0
  | .opn => 1
  | .num _ => 2
theorem turnW_kind : ∀ (ws : List Stp) (h : Nat), (turnW h ws).map kind = ws.map kind
  | [], _ => rfl
  | .lone :: r, h => congrArg (0 :: ·) (turnW_kind r h)
  | .opn :: r, h => congrArg (1 :: ·) (turnW_kind r (h + 1))
  | .num k :: r, h => congrArg (2 :: ·) (turnW_kind r (h - 1))
/-! ### the lone points -/
def isLone (ws : List Stp) : V → Bool
  | .int i => (ws.map kind)[i.toNat]? == some 0
  | _ => false
def loneV (ws : List Stp) : List V := ((List.range ws.length).map fun i : Nat => V.int (i : Int)).filter (isLone ws)
theorem turnW_lone (ws : List Stp) (h : Nat) : loneV (turnW h ws) = loneV ws := by
  unfold loneV
  rw [turnW_len]
  congr 1
  funext x
  cases x <;> try rfl
  unfold isLone
  rw [turnW_kind]
theorem isLone_at {ws : List Stp} {i : Nat} {st : Stp} (h : ws[i]? = some st) : isLone ws (.int (i : Int)) = decide (st = .lone) := by
  unfold isLone
  have e : ((i : Int)).toNat = i := by omega
  simp only [e]
  rw [List.getElem?_map, h]
  cases st <;> simp [kind]
theorem loneV_ints (ws : List Stp) : ∃ ns : List Int, loneV ws = ns.map V.int := by
  unfold loneV
  refine ⟨((List.range ws.length).map fun i : Nat => (i : Int)).filter fun i => isLone ws (.int i), ?_⟩
  have e : ((List.range ws.length).map fun i : Nat => V.int (i : Int)) = ((List.range ws.length).map fun i : Nat => (i : Int)).map V.int := by
    rw [List.map_map]
    rfl
  rw [e, List.filter_map]
  rfl
/-! ### the beginnings -/
def begs : Int → List Stp → List Int
  | _, [] => []
  | p, .lone :: r => begs (p + 1) r
  | p, .opn :: r => p :: begs (p + 1) r
  | p, .num _ :: r => begs (p + 1) r
theorem begs_turn : ∀ (ws : List Stp) (p : Int) (h : Nat), begs p (turnW h ws) = begs p ws
  | [], _, _ => rfl
  | .lone :: r, p, h => begs_turn r (p + 1) h
  | .opn :: r, p, h => congrArg (p :: ·) (begs_turn r (p + 1) (h + 1))
  | .num k :: r, p, h => begs_turn r (p + 1) (h - 1)
theorem eraseIdx_perm : ∀ (os : List Int) (k : Nat), k < os.length → os.Perm (os.getD k 0 :: os.eraseIdx k)
  | [], k, h => absurd h (Nat.not_lt_zero _)
  | o :: r, 0, _ => List.Perm.refl _
  | o :: r, k + 1, h => by
    have ih := eraseIdx_perm r k (by simpa using h)
    have e : (o :: r).getD (k + 1) 0 = r.getD k 0 := by simp [List.getD_eq_getElem?_getD]
    rw [e, List.eraseIdx_cons_succ]
    exact (ih.cons o).trans (List.Perm.swap _ _ _)
theorem begs_perm : ∀ (ws : List Stp) (p : Int) (os : List Int), run os.length ws = some 0 → ((clo p os ws).map Prod.fst).Perm (os ++ begs p ws)
  | [], p, os, e => by
    have e1 : os.length = 0 := Option.some.inj e
    rw [List.length_eq_zero_iff.mp e1]
    exact List.Perm.refl _
  | .lone :: r, p, os, e => begs_perm r (p + 1) os e
  | .opn :: r, p, os, e => by
    have h := begs_perm r (p + 1) (os ++ [p]) (by rw [List.length_append]; exact e)
    rw [List.append_assoc] at h
    exact h
  | .num k :: r, p, os, e => by
    have e2 : (if k < os.length then run (os.length - 1) r else none) = some 0 := e
    by_cases c : k < os.length
    · rw [if_pos c] at e2
      have h := begs_perm r (p + 1) (os.eraseIdx k) (by rw [List.length_eraseIdx, if_pos c]; exact e2)
      exact (h.cons (os.getD k 0)).trans ((eraseIdx_perm os k c).symm.append_right _)
    · rw [if_neg c] at e2
      cases e2
theorem begs_same {ws : List Stp} (r : run 0 ws = some 0) : ((prs (turnW 0 ws)).map Prod.fst).Perm ((prs ws).map Prod.fst) := by
  have h1 := ((prs_perm (turnW 0 ws)).map Prod.fst).trans (begs_perm (turnW 0 ws) 0 [] (turnW_run ws r))
  have h2 := ((prs_perm ws).map Prod.fst).trans (begs_perm ws 0 [] r)
  rw [begs_turn] at h1
  exact h1.trans h2.symm
end Pg
/-! sorted of a tuple of pairs; how many unlike ints a list has -/
namespace Pg
open PySem PySem.Spec PyProof.Rows SrtO L2
section
variable {prog : Program} {w : World} {A : Around} {E : Value → Shared → Prop} {s : Shared}
/-- the items of a tuple, gathered: the gathering list stays behind at the heap's end -/
theorem gather_tuple {t : Addr} {o : Obj} {n : Nat} {us : List Value} {Q : List Value → Shared → Prop} (hget : s.heap.get? t = some o) (hcls : o.cls = .type "tuple") (hdat : o.data = .seq us.toArray n) (hfit : us.length ≤ sizeLine)
    (fin : Q us { s with heap := (s.heap.push (seqObj "list" #[] 0)).update s.heap.objs.size (Obj.mapSeq (· ++ us.toArray)) }) : wpAny (model prog w) A (collect (.ref t)) Q E s := by
  have top : (s.heap.push (seqObj "list" #[] 0)).get? s.heap.objs.size = some (seqObj "list" #[] 0) := Heap.get?_push_size _ rfl
  unfold collect
  apply wpAny_bind
  apply wpAny_runValue
  apply codeAny_builtin entry_proto_collect'
  show wpAny _ _ (newList [] >>= fun l => again (.builtin "list.__iadd__" ⟨[l, .ref t], []⟩)) _ _ s
  apply wpAny_bind
  refine wpAny_newList (wpAny_pure ?_) (Nat.zero_le _)
  refine ⟨Code.quiet_builtin _ (by decide +kernel), codeAny_builtin entry_list_iadd' ?_⟩
  refine wpAny_mono (wpAny_extend_seq (R := fun r s' => r = .ok (.ret (.ref s.heap.objs.size)) ∧ s'.heap = (s.heap.push (seqObj "list" #[] 0)).update s.heap.objs.size (Obj.mapSeq (· ++ us.toArray)) ∧ s' = { s with heap := s'.heap })
    s.heap.objs.size t (.ref s.heap.objs.size) 0 (.inr rfl) top (Heap.get?_push_of_some _ hget) hcls hdat ⟨rfl, rfl, rfl⟩ (by rw [List.size_toArray]; exact hfit)) (fun f s' h => ?_) (fun e s' h => ?_)
  · have go : ∀ s' : Shared, s'.heap = (s.heap.push (seqObj "list" #[] 0)).update s.heap.objs.size (Obj.mapSeq (· ++ us.toArray)) ∧ s' = { s with heap := s'.heap } →
        wpAny (model prog w) A (load s.heap.objs.size >>= fun o => match o.data with | Data.seq xs _ => pure xs.toList | _ => unsupported "internal:collect") Q E s' := fun s' h => by
      obtain ⟨h1, h2⟩ := h
      rw [h1] at h2
      subst h2
      refine wpAny_bind (wpAny_load (get?_update_seq top _) (wpAny_pure ?_))
      have back : ((#[] : Array Value) ++ us.toArray).toList = us := by simp
      show Q ((#[] : Array Value) ++ us.toArray).toList _
      rw [back]
      exact fin
    cases f with
    | done r =>
      have e1 := h.1
      cases e1
      exact go s' h.2
    | again c =>
      refine ⟨h.1, codeAny_mono h.2 fun r s'' q => ?_⟩
      have e1 := q.1
      cases e1
      exact go s'' q.2
  · exact absurd h.1 (by simp)
theorem sorted_ordT {t : Addr} {o : Obj} {n : Nat} {vs : List Value} {ltv : Value → Value → Bool} {Q : Value → Shared → Prop} (O : Swo ltv) (ho : s.heap.get? t = some o) (hc : o.cls = .type "tuple") (hd : o.data = .seq vs.toArray n) (hz : vs.length ≤ sizeLine)
    (hS : 2 ≤ vs.length → ∀ (h₁ : Heap) (a : Addr), h₁.get? a = some (seqObj "list" vs.toArray 0) → (∀ b o, s.heap.get? b = some o → b ≠ a ∧ h₁.get? b = some o) → SortableO prog w A.in1.in1 { s with heap := h₁ } a vs ltv)
    (h : ∀ (h' : Heap) (d : Addr) (out : List Value), Srtd ltv out → Stb ltv out vs → (∀ b o, s.heap.get? b = some o → h'.get? b = some o) → s.heap.objs.size ≤ d → (∃ n, h'.get? d = some (seqObj "list" out.toArray n)) → Q (.ref d) { s with heap := h' }) :
    wpAny (model prog w) A (call (.builtin "sorted") [.ref t]) Q E s := by
  refine Calls.call_function_entry kind_sorted plain_sorted entry_sorted (args_sorted1 _) ?_
  unfold Builtin.«sorted»
  refine wpAny_bind (m := checkCount "sorted" 1 1 _) (wpAny_pure ?_)
  refine wpAny_bind (gather_tuple ho hc hd hz ?_)
  refine wpAny_bind (wpAny_newList ?_ hz)
  obtain ⟨h1, eh1⟩ : ∃ h1, h1 = (s.heap.push (seqObj "list" #[] 0)).update s.heap.objs.size (Obj.mapSeq (· ++ vs.toArray)) := ⟨_, rfl⟩
  rw [← eh1]
  have hsz1 : h1.objs.size = s.heap.objs.size + 1 := by
    rw [eh1, Heap.size_update, size_push']
  have hsz : s.heap.objs.size ≤ h1.objs.size := by omega
  have k1 : ∀ b o, s.heap.get? b = some o → h1.get? b = some o := fun b o q => by
    rw [eh1, Heap.get?_update_ne _ _ _ _ (Nat.ne_of_lt (Heap.lt_size q))]
    exact Heap.get?_push_of_some _ q
  have hoL : (h1.push (seqObj "list" vs.toArray 0)).get? h1.objs.size = some (seqObj "list" vs.toArray 0) := Heap.get?_push_size _ rfl
  have keep : ∀ b o, s.heap.get? b = some o → b ≠ h1.objs.size ∧ (h1.push (seqObj "list" vs.toArray 0)).get? b = some o := fun b o q =>
    ⟨Nat.ne_of_lt (Heap.lt_size (k1 _ _ q)), Heap.get?_push_of_some _ (k1 _ _ q)⟩
  show wpAny _ _ _ _ _ { s with heap := h1.push (seqObj "list" vs.toArray 0) }
  refine wpAny_bind (wpAny_holding (wpAny_call_entry slot_list_sort ⟨_, hoL, rfl⟩ entry_list_sort (list_sort_ord O hoL hz (fun h2 => hS h2 _ _ hoL keep) fun out hs hb => ⟨_, rfl, ?_⟩) (args_list_sort _)))
  refine wpAny_pure ⟨_, rfl, h _ _ out hs hb (fun b o q => ?_) hsz (sortedHeap_at hoL)⟩
  rw [sortedHeap_old (keep b o q).1 (Heap.lt_size (keep b o q).2)]
  exact (keep b o q).2
end
section
variable {X : Cx}
/-- sorted of a tuple of pairs -/
def rSortedPT (K : PySem.W.Frag) : List V → Hp → VK → Prop := fun vs H Q => ∃ (a : Addr) (xs : List V) (ps : List Pr), vs = [V.ref a] ∧ SqT K H a xs ∧ PairsAt H xs ps ∧
  ∀ (ys : List V) (p : Addr), PairsAt H ys (sortP ps) → ys.Perm xs → H p = none → Q (.ref p) (upd H p (.lst ys))
theorem cr_sortedPT (K : PySem.W.Frag) (e : X.K = K := by rfl) : CallR X (.builtin "sorted") (rSortedPT K) := by
  subst e
  intro pins s σ H vs us Q I r h
  obtain ⟨a, xs, ps, rfl, hs, hp, q⟩ := h
  obtain ⟨its, rv, ht, hz⟩ := I.tuple hs
  obtain ⟨u, rfl, ru⟩ := vals1 r
  obtain rfl : u = Value.ref a := ru
  have hx : ∀ x ∈ xs, ∃ t, x = V.ref t ∧ H t = some (.tup [.int (prOf H x).1, .int (prOf H x).2]) := fun x m => by
    obtain ⟨t, e, ht⟩ := hp.all x m
    exact ⟨t, e, ht⟩
  have refs : ∀ x ∈ xs, ∃ t, x = V.ref t := fun x m => (hx x m).imp fun _ z => z.1
  obtain ⟨e1, e2⟩ := refs_back rv refs
  obtain ⟨o, ho, hc, n, hd⟩ := ht
  have hP : ∀ v ∈ its, Srt.IsPair s.heap v (prOf H (backV v)).1 (prOf H (backV v)).2 := fun v hv => by
    obtain ⟨t, rfl⟩ := e2 v hv
    have hm : V.ref t ∈ xs := by rw [e1]; exact List.mem_map.mpr ⟨_, hv, rfl⟩
    obtain ⟨t', e, ht⟩ := hx _ hm
    cases e
    obtain ⟨_, its2, r2, o, ho, hc, n, hd⟩ := I.hok _ _ ht
    obtain ⟨u1, u2, rfl, ri, rj⟩ := vals2 r2
    obtain ⟨t1, rfl⟩ := ri
    obtain ⟨t2, rfl⟩ := rj
    exact ⟨t, o, t1, t2, n, rfl, ho, hc, hd⟩
  refine sorted_ordT (ltv := fun v u => lexB (prOf H (backV v)) (prOf H (backV u))) (swo_lex fun u => prOf H (backV u)) ho hc hd (by rw [← rv.length]; exact hz) (fun h2 h₁ a ha kk => ?_) fun h' d out h1 h2 kp hdd hn => ?_
  · refine pairs_sortableO (s := { s with heap := h₁ }) (by omega) (fun v hm => (hP v hm).keeps fun b o e _ => (kk b o e).2) fun o e => ?_
    have e' : some o = some (seqObj "list" its.toArray 0) := e.symm.trans ha
    cases e'
    intro c
    exact absurd (Value.type.inj c) (by decide)
  · have h3 : ∀ u ∈ out, ∃ a, u = Value.ref a := fun u hu => e2 u (h2.perm.mem_iff.mp hu)
    obtain ⟨n, hn⟩ := hn
    have hb : SrtO.Stb (ltP (prOf H)) (out.map backV) xs := by
      rw [e1]
      exact SrtO.Stb.map (ltP_swo (prOf H)) backV h2
    refine ⟨.ref d, upd H d (.lst (out.map backV)), I.laid (t' := s.toks) kp hdd ⟨?_, out, n, vals_back h3, hn⟩, rfl, q _ d (sorted_pairs hp (SrtO.srtd_map h1) hb.perm) hb.perm (I.hok.fresh hdd)⟩
    rw [hb.len]
    exact hz
end
/-! ### len(set(xs)) -/
theorem dedup_fold : ∀ (ns acc : List Int), acc.Nodup → (ns.foldl step_dedup acc).length ≤ acc.length + ns.length ∧ ((acc ++ ns).Nodup → (ns.foldl step_dedup acc).length = acc.length + ns.length) ∧ (¬ (acc ++ ns).Nodup → (ns.foldl step_dedup acc).length < acc.length + ns.length)
  | [], acc, nd => ⟨Nat.le_refl _, fun _ => rfl, fun z => absurd (by rw [List.append_nil]; exact nd) z⟩
  | n :: r, acc, nd => by
    show ((r.foldl step_dedup (step_dedup acc n)).length ≤ _) ∧ (_ → (r.foldl step_dedup (step_dedup acc n)).length = _) ∧ (_ → (r.foldl step_dedup (step_dedup acc n)).length < _)
    have hs : step_dedup acc n = if acc.any (· == n) then acc else acc ++ [n] := rfl
    rw [hs, List.length_cons]
    by_cases c : n ∈ acc
    · have c' : acc.any (· == n) = true := List.any_eq_true.mpr ⟨n, c, by simp⟩
      rw [if_pos c']
      obtain ⟨h1, h2, h3⟩ := dedup_fold r acc nd
      refine ⟨by omega, fun z => ?_, fun _ => by omega⟩
      exact absurd rfl ((List.nodup_append.mp z).2.2 n c n List.mem_cons_self)
    · have c' : ¬ acc.any (· == n) = true := fun z => by
        obtain ⟨y, hy, ey⟩ := List.any_eq_true.mp z
        exact c (eq_of_beq ey ▸ hy)
      rw [if_neg c']
      have nd2 : (acc ++ [n]).Nodup := List.nodup_append.mpr ⟨nd, List.pairwise_singleton _ _, fun x hx y hy => by
        rw [List.mem_singleton.mp hy]
        exact fun e => c (e ▸ hx)⟩
      obtain ⟨h1, h2, h3⟩ := dedup_fold r (acc ++ [n]) nd2
      rw [List.length_append, List.append_assoc] at *
      simp only [List.length_singleton, List.singleton_append] at *
      exact ⟨by omega, fun z => by rw [h2 z]; omega, fun z => by have := h3 z; omega⟩
theorem firstMet_eq (ns : List Int) : firstMet (fun i => ns.getD i 0) ns.length = ns.foldl step_dedup [] := by
  unfold firstMet
  congr 1
  refine List.ext_getElem? fun i => ?_
  rw [List.getElem?_map]
  by_cases h : i < ns.length
  · rw [List.getElem?_range h, List.getElem?_eq_getElem h]
    show some (ns.getD i 0) = _
    rw [List.getD_eq_getElem?_getD, List.getElem?_eq_getElem h]
    rfl
  · rw [List.getElem?_eq_none (by simp; omega), List.getElem?_eq_none (by omega)]
    rfl
theorem unlike_len (ns : List Int) : ∃ m : Nat, (ns.foldl step_dedup []).length = m ∧ (ns.Nodup → m = ns.length) ∧ (¬ ns.Nodup → m < ns.length) := by
  obtain ⟨h1, h2, h3⟩ := dedup_fold ns [] List.Pairwise.nil
  simp only [List.nil_append, List.length_nil, Nat.zero_add] at h2 h3
  exact ⟨_, rfl, h2, h3⟩
def tLenSet (K : PySem.W.Frag) (ta : TE) : TE := fun σ H Q => ta σ H fun x H1 => ∃ (l : Addr) (ns : List Int), x = .ref l ∧ SqL K H1 l (ns.map V.int) ∧ ns.length ≤ 4000 ∧ ∀ m : Nat, (ns.Nodup → m = ns.length) → (¬ ns.Nodup → m < ns.length) → Q (.int (m : Nat)) H1
theorem pe_lenSet (K : PySem.W.Frag) {X : Cx} {a : Expr} {ta : TE} {p p2 q pos : Pos} (hm : X.mg "len" = none) (hm2 : X.mg "set" = none) (ha : PE X a ta) (hg : Gl X "len" := by rfl) (hg2 : Gl X "set" := by rfl) (hc : X.calm = true := by rfl)
    (na : starEach [a] X.env = (false, eval a X.env) :: starEach [] X.env := by rfl) (e : X.K = K := by rfl) : PE X (.Call (.Name "len" p) [.Call (.Name "set" p2) [a] [] q] [] pos) (tLenSet K ta) := by
  subst e
  refine ⟨fun pins s σ H Q I h => ?_⟩
  refine Call_ (ld_blt I hg hm boot_len ?_)
  refine PyProof.Rows.callWith_builtin1 (PyProof.Rows.args_cons ?_ rfl) rfl rfl
  refine Call_ (ld_blt I hg2 hm2 boot_set ?_)
  refine PyProof.Rows.callWith_type1 (PyProof.Rows.args_cons (thn (ha.run pins s σ H _ I h) fun v s1 ⟨x, H1, I1, r1, q1⟩ => PyProof.Rows.args_nil ?_) na) na rfl
  obtain ⟨l, ns, rfl, hq, hl, q1⟩ := q1
  cases r1
  obtain ⟨its, r, pl, hz⟩ := I1.list hq
  have hlen : its.toArray.size = ns.length := by rw [List.size_toArray, ← r.length, List.length_map]
  refine call_set_list (I1.ok.hd hc) pl.isList (by simpa using RZ.intsAre_vals r) (by rw [hlen]; unfold scanBound; omega) fun h' tk hS hk => ?_
  refine PyProof.Rows.args_nil ?_
  obtain ⟨m, em, m1, m2⟩ := unlike_len ns
  rw [hlen, firstMet_eq, em] at hS
  obtain ⟨o, es, ep, t, ho, hex, hd, _, _, _, hf, hn⟩ := hS
  have I2 : Inv X pins σ H1 { s1 with heap := h', toks := tk } := I1.kept fun b o e => hk b o (Heap.lt_size e) e
  have hm4 : m ≤ 4000 := by
    by_cases c : ns.Nodup
    · rw [m1 c]
      exact hl
    · have := m2 c
      omega
  exact call_len_set ho hex hd hf (by rw [hn]; omega) ⟨.int m, H1, I2.tok _, ⟨_, by rw [hn]⟩, q1 m m1 m2⟩
end Pg
namespace Pg
open PySem L2
/-! ### what a pairing is -/
def Fine (n : Int) (p : Pr) : Prop := 0 ≤ p.1 ∧ p.1 < p.2 ∧ p.2 < n
structure Good (n : Int) (ps : List Pr) : Prop where
  n0 : 0 ≤ n
  n1 : n ≤ 60
  fine : ∀ p ∈ ps, Fine n p
  nd : (pts ps).Nodup
  srt : sortP ps = ps
theorem good_prs {ws : List Stp} (r : run 0 ws = some 0) (h : ws.length ≤ 60) : Good (ws.length : Int) (prs ws) := by
  obtain ⟨h1, h2⟩ := prs_pts r
  refine ⟨by omega, by omega, fun p hp => ?_, h1, sortP_id (sortP_sorted _)⟩
  have a := h2 p.1 (mem_pts.mpr ⟨p, hp, .inl rfl⟩)
  have b := h2 p.2 (mem_pts.mpr ⟨p, hp, .inr rfl⟩)
  have c := ((clo_fst ws 0 [] (asc_nil 0) r).2 p ((prs_perm ws).mem_iff.mp hp)).2.1
  exact ⟨a.1, c, b.2⟩
/-- the data of a list of pairs -/
theorem shp_prl (ps : List Pr) : Shp 2 (.list (ps.map prD)) := shp_lst fun x m => by
  obtain ⟨p, _, e⟩ := List.mem_map.mp m
  rw [← e]
  exact shp_prD p
theorem prl_eqv (ps qs : List Pr) : PyData.eqv (.list (ps.map prD)) (.list (qs.map prD)) = decide (ps = qs) := by
  simp only [PyData.eqv]
  exact eqvAll_map prD prD_eqv ps qs
theorem pts_append (a b : List Pr) : pts (a ++ b) = pts a ++ pts b := by
  unfold pts
  rw [List.flatMap_append]
theorem pts_len (ps : List Pr) : (pts ps).length = 2 * ps.length := by
  induction ps with
  | nil => rfl
  | cons p r ih =>
    rw [pts_cons]
    simp only [List.length_cons, ih]
    omega
theorem pairs_set {H : Hp} {v : V} {p : Pr} (h : PairAt H v p) : ∀ {xs : List V} {ps : List Pr} (i : Nat), PairsAt H xs ps → PairsAt H (xs.set i v) (ps.set i p)
  | _, _, _, .nil => .nil
  | _, _, 0, .cons _ t => .cons h t
  | _, _, i + 1, .cons a t => .cons a (pairs_set h i t)
/-! ### spoiled ones -/
theorem bad_n {n : Int} {ps : List Pr} (h : n < 0 ∨ 60 < n) : ¬ Good n ps := fun g => by
  have := g.n0
  have := g.n1
  omega
theorem bad_at {n : Int} {ps : List Pr} {i : Nat} {p : Pr} (hi : i < ps.length) (h : ¬ Fine n p) : ¬ Good n (ps.set i p) := fun g => h (g.fine p (List.mem_of_getElem? (i := i) (by rw [List.getElem?_set_self hi])))
theorem not_nodup_at {α : Type} {l : List α} {i j : Nat} {x : α} (hi : l[i]? = some x) (hj : l[j]? = some x) (ne : i ≠ j) : ¬ l.Nodup := fun nd => ne (nodup_ix2 nd hi hj)
  where nodup_ix2 {α : Type} {l : List α} (hN : l.Nodup) {i j : Nat} {x : α} (a : l[i]? = some x) (b : l[j]? = some x) : i = j := nd_ix hN a b
theorem bad_twice {n : Int} {ps : List Pr} {p : Pr} (h : p ∈ ps) : ¬ Good n (sortP (ps ++ [p])) := fun g => by
  have q := (pts_perm (sortP_perm (ps ++ [p]))).nodup_iff.mp g.nd
  rw [pts_append] at q
  exact (List.nodup_append.mp q).2.2 p.1 (mem_pts.mpr ⟨p, h, .inl rfl⟩) p.1 (by show p.1 ∈ [p.1, p.2]; exact List.mem_cons_self) rfl
/-- a point of two pairs -/
theorem two_pairs {ps : List Pr} {i j : Nat} {p q : Pr} (hi : ps[i]? = some p) (hj : ps[j]? = some q) (ne : i ≠ j) {x : Int} (hx : x = p.1 ∨ x = p.2) (hy : x = q.1 ∨ x = q.2) : ¬ (pts ps).Nodup := by
  intro nd
  induction ps generalizing i j with
  | nil => simp at hi
  | cons r t ih =>
    rw [pts_cons] at nd
    obtain ⟨n1, nd2⟩ := List.nodup_cons.mp nd
    obtain ⟨n2, nd3⟩ := List.nodup_cons.mp nd2
    have out : ∀ z : Pr, z ∈ t → (x = z.1 ∨ x = z.2) → (x = r.1 ∨ x = r.2) → False := fun z hz h1 h2 => by
      have m : x ∈ pts t := mem_pts.mpr ⟨z, hz, h1⟩
      rcases h2 with h2 | h2
      · exact n1 (by rw [← h2]; exact List.mem_cons_of_mem _ m)
      · exact n2 (by rw [← h2]; exact m)
    cases i with
    | zero =>
      cases j with
      | zero => exact ne rfl
      | succ j =>
        have e : r = p := Option.some.inj hi
        exact out q (List.mem_of_getElem? (i := j) hj) hy (e ▸ hx)
    | succ i =>
      cases j with
      | zero =>
        have e : r = q := Option.some.inj hj
        exact out p (List.mem_of_getElem? (i := i) hi) hx (e ▸ hy)
      | succ j => exact ih (i := i) (j := j) hi hj (fun e => ne (by rw [e])) nd3
theorem bad_shared {n : Int} {ps : List Pr} {i j : Nat} {q r : Pr} (hi : i < ps.length) (hj : ps[j]? = some q) (ne : i ≠ j) (hx : q.2 = r.1 ∨ q.2 = r.2) : ¬ Good n (sortP (ps.set i r)) := fun g => by
  have z := (pts_perm (sortP_perm (ps.set i r))).nodup_iff.mp g.nd
  exact two_pairs (ps := ps.set i r) (i := i) (j := j) (p := r) (q := q) (List.getElem?_set_self hi) (by rw [List.getElem?_set_ne ne]; exact hj) ne hx (.inr rfl) z
theorem bad_swapped {n : Int} {ps : List Pr} {i j : Nat} {p q : Pr} (g : Good n ps) (hi : ps[i]? = some p) (hj : ps[j]? = some q) (ne : i ≠ j) : ¬ Good n ((ps.set i q).set j p) := fun g2 => by
  have hil := (List.getElem?_eq_some_iff.mp hi).1
  have hjl := (List.getElem?_eq_some_iff.mp hj).1
  have pm : ((ps.set i q).set j p).Perm ps := by
    refine List.perm_iff_count.mpr fun x => ?_
    have c1 : (ps.set i q).count x + (if p = x then 1 else 0) = ps.count x + (if q = x then 1 else 0) := by
      have z := List.count_set (l := ps) (i := i) (a := q) (b := x) hil
      have ep : ps[i] = p := (List.getElem?_eq_some_iff.mp hi).2
      rw [ep] at z
      have zle : (if p = x then 1 else 0) ≤ ps.count x := by
        by_cases e : p = x
        · rw [if_pos e, ← e]
          exact List.count_pos_iff.mpr (List.mem_of_getElem? hi)
        · rw [if_neg e]
          exact Nat.zero_le _
      simp only [beq_iff_eq] at z
      omega
    have hjq : (ps.set i q)[j]? = some q := by rw [List.getElem?_set_ne ne]; exact hj
    have hjl2 : j < (ps.set i q).length := by rw [List.length_set]; exact hjl
    have c2 : ((ps.set i q).set j p).count x + (if q = x then 1 else 0) = (ps.set i q).count x + (if p = x then 1 else 0) := by
      have z := List.count_set (l := ps.set i q) (i := j) (a := p) (b := x) hjl2
      have ep : (ps.set i q)[j] = q := (List.getElem?_eq_some_iff.mp hjq).2
      rw [ep] at z
      have zle : (if q = x then 1 else 0) ≤ (ps.set i q).count x := by
        by_cases e : q = x
        · rw [if_pos e, ← e]
          exact List.count_pos_iff.mpr (List.mem_of_getElem? hjq)
        · rw [if_neg e]
          exact Nat.zero_le _
      simp only [beq_iff_eq] at z
      omega
    omega
  have e : (ps.set i q).set j p = ps := g2.srt.symm.trans ((sortP_congr pm).trans g.srt)
  have eq : ps[i]? = some q := by
    rw [← e, List.getElem?_set_ne (Ne.symm ne), List.getElem?_set_self hil]
  rw [hi] at eq
  have epq := Option.some.inj eq
  subst epq
  exact two_pairs hi hj ne (.inl rfl) (.inl rfl) g.nd
end Pg
namespace Pg
open PySem L2
/-! ### a heap without one object -/
def del (H : Hp) (r : Addr) : Hp := fun a => if a = r then none else H a
theorem del_same {H : Hp} {r : Addr} : del H r r = none := if_pos rfl
theorem del_ne {H : Hp} {r a : Addr} (h : a ≠ r) : del H r a = H a := if_neg h
theorem del_sub {H : Hp} {r : Addr} : Same (del H r) H := fun a o e => by
  by_cases c : a = r
  · subst c
    rw [del_same] at e
    cases e
  · rw [del_ne c] at e
    exact e
theorem del_upd {H : Hp} {r : Addr} {o : HO} : del (upd H r o) r = del H r := funext fun a => by
  by_cases c : a = r
  · subst c
    rw [del_same, del_same]
  · rw [del_ne c, del_ne c, upd_ne c]
theorem del_mono {H H' : Hp} {r : Addr} (h : Same H H') : Same (del H r) (del H' r) := fun a o e => by
  by_cases c : a = r
  · subst c
    rw [del_same] at e
    cases e
  · rw [del_ne c] at e
    rw [del_ne c]
    exact h _ _ e
/-- a heap that never knew it -/
theorem del_none {H H' : Hp} {r : Addr} (h : Same H H') (hr : H r = none) : Same H (del H' r) := fun a o e => by
  rw [del_ne (ne_of_none e hr)]
  exact h _ _ e
theorem del_at {H : Hp} {a r : Addr} {o : HO} (h : del H r a = some o) : a ≠ r ∧ H a = some o := by
  by_cases c : a = r
  · subst c
    rw [del_same] at h
    cases h
  · rw [del_ne c] at h
    exact ⟨c, h⟩
theorem paired_mono {α β : Type} {F G : α → β → Prop} (m : ∀ {x y}, F x y → G x y) : ∀ {xs : List α} {ys : List β}, Paired F xs ys → Paired G xs ys
  | _, _, .nil => .nil
  | _, _, .cons a b => .cons (m a) (paired_mono m b)
theorem paired_push {α β : Type} {F : α → β → Prop} {xs : List α} {ys : List β} {x : α} {y : β} (h : Paired F xs ys) (a : F x y) : Paired F (xs ++ [x]) (ys ++ [y]) := paired_append h (.cons a .nil)
/-! ### comprehensions whose elements make new objects -/
theorem yesI {σ : St} {H : Hp} {A Z : Hp → Prop} (h : A H) : tYes σ H fun b H3 => if b = true then A H3 else Z H3 := by
  show if true = true then A H else Z H
  rw [if_pos rfl]
  exact h
section
variable {K : PySem.W.Frag} {σ : St} {H : Hp} {tl te : TE} {g : TG} {vs : List Nat} {a : Addr} {xs : List V} {Q : VK} {β : Type}
theorem lcLA (R : Hp → V → β → Prop) (bs : List β) (mono : ∀ {H H' : Hp} {v : V} {b : β}, Same H H' → R H v b → R H' v b) (stab : ∀ {H : Hp} {D : Addr} {ys zs : List V} {v : V} {b : β}, H D = some (.lst ys) → R H v b → R (upd H D (.lst zs)) v b)
    (hl : ∀ Q : VK, Q (.ref a) H → tl σ H Q) (hx : SqL K H a xs) (hb : bs.length = xs.length) (hz : xs.length ≤ 40000)
    (ht : ∀ (i : Nat) (x : V) (b : β), xs[i]? = some x → bs[i]? = some b → ∀ H1, Same H H1 → ∀ (Q : VK) (Z : Hp → Prop), (∀ H2 y, Same H1 H2 → R H2 y b → Q y H2) → g x (wipe σ vs) H1 fun σ2 H2 => wipe σ2 vs = wipe σ vs ∧ tYes σ2 H2 fun b H3 => if b = true then te σ2 H3 Q else Z H3)
    (q : ∀ (H' : Hp) (p : Addr) (ys : List V), Same H H' → H p = none → H' p = some (.lst ys) → Paired (R H') ys bs → Q (.ref p) H') : tLc (iList K tl) g tYes te vs σ H Q := by
  refine hl _ ⟨a, rfl, ⟨xs, hx⟩, fun D hD => lc_list (K := K) (a := a) (xs := xs) (fun i H' => ∃ ys, Same H H' ∧ H' D = some (.lst ys) ∧ Paired (R H') ys (bs.take i)) ?_ ?_ ?_ ?_⟩
  · exact ⟨[], sm_new hD, upd_same, .nil⟩
  · rintro i H' _ ⟨ys, s, _⟩
    exact s.seq hx
  · rintro i x H' hi ⟨ys, s, hd, hp⟩
    have hil := (List.getElem?_eq_some_iff.mp hi).1
    have hbi : bs[i]? = some bs[i] := List.getElem?_eq_getElem (by omega)
    refine ht i x _ hi hbi H' s _ _ fun H2 y s2 r => ?_
    have hd2 := s2 _ _ hd
    have hlen := paired_length hp
    rw [List.length_take] at hlen
    refine ⟨ys, hd2, szl (by omega), ys ++ [y], sm_mut (s.trans s2) hD, upd_same, ?_⟩
    rw [List.take_add_one, hbi]
    exact paired_push (paired_mono (fun r => stab hd2 (mono s2 r)) hp) (stab hd2 r)
  · rintro H' ⟨ys, s, hd, hp⟩
    rw [← hb, List.take_length] at hp
    exact q H' D ys s hD hd hp
theorem lcRA {ta : TA} {n : Nat} (R : Hp → V → β → Prop) (bs : List β) (mono : ∀ {H H' : Hp} {v : V} {b : β}, Same H H' → R H v b → R H' v b) (stab : ∀ {H : Hp} {D : Addr} {ys zs : List V} {v : V} {b : β}, H D = some (.lst ys) → R H v b → R (upd H D (.lst zs)) v b)
    (hl : ∀ Q : List V → Hp → Prop, (∀ H1, Same H H1 → Q [.int (n : Int)] H1) → ta σ H Q) (hb : bs.length = n) (hz : n ≤ 40000)
    (ht : ∀ (i : Nat) (b : β), i < n → bs[i]? = some b → ∀ H1, Same H H1 → ∀ (Q : VK) (Z : Hp → Prop), (∀ H2 y, Same H1 H2 → R H2 y b → Q y H2) → g (.int (i : Int)) (wipe σ vs) H1 fun σ2 H2 => wipe σ2 vs = wipe σ vs ∧ tYes σ2 H2 fun b H3 => if b = true then te σ2 H3 Q else Z H3)
    (q : ∀ (H' : Hp) (p : Addr) (ys : List V), Same H H' → H p = none → H' p = some (.lst ys) → Paired (R H') ys bs → Q (.ref p) H') : tLc (iRng1 ta) g tYes te vs σ H Q := by
  refine hl _ fun H0 s0 => ⟨(n : Int), rfl, by omega, by omega, fun D hD0 => ?_⟩
  have hD : H D = none := s0.free hD0
  refine lc_range (lo := 0) (n := ((n : Int)).toNat) (fun i H' => ∃ ys, Same H H' ∧ H' D = some (.lst ys) ∧ Paired (R H') ys (bs.take i)) ?_ ?_ ?_
  · exact ⟨[], s0.trans (sm_new hD0), upd_same, .nil⟩
  · rintro i H' hi ⟨ys, s, hd, hp⟩
    have hi' : i < n := by omega
    have hbi : bs[i]? = some bs[i] := List.getElem?_eq_getElem (by omega)
    rw [Int.zero_add]
    refine ht i _ hi' hbi H' s _ _ fun H2 y s2 r => ?_
    have hd2 := s2 _ _ hd
    have hlen := paired_length hp
    rw [List.length_take] at hlen
    refine ⟨ys, hd2, szl (by omega), ys ++ [y], sm_mut (s.trans s2) hD, upd_same, ?_⟩
    rw [List.take_add_one, hbi]
    exact paired_push (paired_mono (fun r => stab hd2 (mono s2 r)) hp) (stab hd2 r)
  · rintro H' ⟨ys, s, hd, hp⟩
    rw [show ((n : Int)).toNat = bs.length by omega, List.take_length] at hp
    exact q H' D ys s hD hd hp
theorem lcLD (R : Hp → V → β → Prop) (bs : List β) (mono : ∀ {H H' : Hp} {v : V} {b : β}, Same H H' → R H v b → R H' v b)
    (hl : ∀ Q : VK, Q (.ref a) H → tl σ H Q) (hx : SqL K H a xs) (hb : bs.length = xs.length) (hz : xs.length ≤ 40000)
    (ht : ∀ (i : Nat) (x : V) (b : β), xs[i]? = some x → bs[i]? = some b → ∀ (H1 : Hp) (D : Addr) (acc : List V), Same H H1 → H1 D = some (.lst acc) → ∀ (Q : VK) (Z : Hp → Prop), (∀ H2 y, Same H1 H2 → R (del H2 D) y b → Q y H2) → g x (wipe σ vs) H1 fun σ2 H2 => wipe σ2 vs = wipe σ vs ∧ tYes σ2 H2 fun b H3 => if b = true then te σ2 H3 Q else Z H3)
    (q : ∀ (H' : Hp) (p : Addr) (ys : List V), Same H H' → H p = none → H' p = some (.lst ys) → Paired (R (del H' p)) ys bs → Q (.ref p) H') : tLc (iList K tl) g tYes te vs σ H Q := by
  refine hl _ ⟨a, rfl, ⟨xs, hx⟩, fun D hD => lc_list (K := K) (a := a) (xs := xs) (fun i H' => ∃ ys, Same H H' ∧ H' D = some (.lst ys) ∧ Paired (R (del H' D)) ys (bs.take i)) ?_ ?_ ?_ ?_⟩
  · exact ⟨[], sm_new hD, upd_same, .nil⟩
  · rintro i H' _ ⟨ys, s, _⟩
    exact s.seq hx
  · rintro i x H' hi ⟨ys, s, hd, hp⟩
    have hil := (List.getElem?_eq_some_iff.mp hi).1
    have hbi : bs[i]? = some bs[i] := List.getElem?_eq_getElem (by omega)
    refine ht i x _ hi hbi H' D ys s hd _ _ fun H2 y s2 r => ?_
    have hd2 := s2 _ _ hd
    have hlen := paired_length hp
    rw [List.length_take] at hlen
    refine ⟨ys, hd2, szl (by omega), ys ++ [y], sm_mut (s.trans s2) hD, upd_same, ?_⟩
    rw [List.take_add_one, hbi, del_upd]
    exact paired_push (paired_mono (fun r => mono (del_mono s2) r) hp) r
  · rintro H' ⟨ys, s, hd, hp⟩
    rw [← hb, List.take_length] at hp
    exact q H' D ys s hD hd hp
theorem lcLDN (R : Hp → V → β → Prop) (bs : List β) (mono : ∀ {H H' : Hp} {v : V} {b : β}, Same H H' → R H v b → R H' v b)
    (hl : ∀ Q : VK, (∀ a H1, Same H H1 → SqL K H1 a xs → Q (.ref a) H1) → tl σ H Q) (hb : bs.length = xs.length) (hz : xs.length ≤ 40000)
    (ht : ∀ (i : Nat) (x : V) (b : β), xs[i]? = some x → bs[i]? = some b → ∀ (H1 : Hp) (D : Addr) (acc : List V), Same H H1 → H1 D = some (.lst acc) → ∀ (Q : VK) (Z : Hp → Prop), (∀ H2 y, Same H1 H2 → R (del H2 D) y b → Q y H2) → g x (wipe σ vs) H1 fun σ2 H2 => wipe σ2 vs = wipe σ vs ∧ tYes σ2 H2 fun b H3 => if b = true then te σ2 H3 Q else Z H3)
    (q : ∀ (H' : Hp) (p : Addr) (ys : List V), Same H H' → H p = none → H' p = some (.lst ys) → Paired (R (del H' p)) ys bs → Q (.ref p) H') : tLc (iList K tl) g tYes te vs σ H Q := by
  refine hl _ fun a H0 s0 hx => ⟨a, rfl, ⟨xs, hx⟩, fun D hD0 => lc_list (K := K) (a := a) (xs := xs) (fun i H' => ∃ ys, Same H0 H' ∧ H' D = some (.lst ys) ∧ Paired (R (del H' D)) ys (bs.take i)) ?_ ?_ ?_ ?_⟩
  · exact ⟨[], sm_new hD0, upd_same, .nil⟩
  · rintro i H' _ ⟨ys, s, _⟩
    exact s.seq hx
  · rintro i x H' hi ⟨ys, s, hd, hp⟩
    have hil := (List.getElem?_eq_some_iff.mp hi).1
    have hbi : bs[i]? = some bs[i] := List.getElem?_eq_getElem (by omega)
    refine ht i x _ hi hbi H' D ys (s0.trans s) hd _ _ fun H2 y s2 r => ?_
    have hd2 := s2 _ _ hd
    have hlen := paired_length hp
    rw [List.length_take] at hlen
    refine ⟨ys, hd2, szl (by omega), ys ++ [y], sm_mut (s.trans s2) hD0, upd_same, ?_⟩
    rw [List.take_add_one, hbi, del_upd]
    exact paired_push (paired_mono (fun r => mono (del_mono s2) r) hp) r
  · rintro H' ⟨ys, s, hd, hp⟩
    rw [← hb, List.take_length] at hp
    exact q H' D ys (s0.trans s) (s0.free hD0) hd hp
theorem lcTD (R : Hp → V → β → Prop) (bs : List β) (mono : ∀ {H H' : Hp} {v : V} {b : β}, Same H H' → R H v b → R H' v b)
    (hl : ∀ Q : VK, Q (.ref a) H → tl σ H Q) (hx : SqT K H a xs) (hb : bs.length = xs.length) (hz : xs.length ≤ 40000)
    (ht : ∀ (i : Nat) (x : V) (b : β), xs[i]? = some x → bs[i]? = some b → ∀ (H1 : Hp) (D : Addr) (acc : List V), Same H H1 → H1 D = some (.lst acc) → ∀ (Q : VK) (Z : Hp → Prop), (∀ H2 y, Same H1 H2 → R (del H2 D) y b → Q y H2) → g x (wipe σ vs) H1 fun σ2 H2 => wipe σ2 vs = wipe σ vs ∧ tYes σ2 H2 fun b H3 => if b = true then te σ2 H3 Q else Z H3)
    (q : ∀ (H' : Hp) (p : Addr) (ys : List V), Same H H' → H p = none → H' p = some (.lst ys) → Paired (R (del H' p)) ys bs → Q (.ref p) H') : tLc (iTup K tl) g tYes te vs σ H Q := by
  refine hl _ ⟨a, rfl, ⟨xs, hx⟩, fun D hD => lc_tup (K := K) (a := a) (xs := xs) (fun i H' => ∃ ys, Same H H' ∧ H' D = some (.lst ys) ∧ Paired (R (del H' D)) ys (bs.take i)) ?_ ?_ ?_ ?_⟩
  · exact ⟨[], sm_new hD, upd_same, .nil⟩
  · rintro i H' _ ⟨ys, s, _⟩
    exact sm_seqT s hx
  · rintro i x H' hi ⟨ys, s, hd, hp⟩
    have hil := (List.getElem?_eq_some_iff.mp hi).1
    have hbi : bs[i]? = some bs[i] := List.getElem?_eq_getElem (by omega)
    refine ht i x _ hi hbi H' D ys s hd _ _ fun H2 y s2 r => ?_
    have hd2 := s2 _ _ hd
    have hlen := paired_length hp
    rw [List.length_take] at hlen
    refine ⟨ys, hd2, szl (by omega), ys ++ [y], sm_mut (s.trans s2) hD, upd_same, ?_⟩
    rw [List.take_add_one, hbi, del_upd]
    exact paired_push (paired_mono (fun r => mono (del_mono s2) r) hp) r
  · rintro H' ⟨ys, s, hd, hp⟩
    rw [← hb, List.take_length] at hp
    exact q H' D ys s hD hd hp
end
theorem frr {wi : TI} {g : TG} {tb : TS} {D : Ends} {σ : St} {H : Hp} {R : _} (e : tFor wi g tb D σ H = wi σ H R) (h : wi σ H R) : tFor wi g tb D σ H := by
  rw [e]
  exact h
theorem rg2 {ta : TA} {σ : St} {H : Hp} {R : _} (h : ta σ H fun vs H1 => ∃ i j : Int, vs = [.int i, .int j] ∧ (-(2 ^ 62) ≤ i ∧ i < 2 ^ 62 ∧ -(2 ^ 62) ≤ j ∧ j < 2 ^ 62) ∧ R (Itr i (j - i).toNat) H1) : iRng2 ta σ H R := h
theorem rg1 {ta : TA} {σ : St} {H : Hp} {R : _} (h : ta σ H fun vs H1 => ∃ j : Int, vs = [.int j] ∧ -(2 ^ 62) ≤ j ∧ j < 2 ^ 62 ∧ R (Itr 0 j.toNat) H1) : iRng1 ta σ H R := h
theorem cst {v : V} {σ : St} {H : Hp} {Q : VK} (h : Q v H) : tC v σ H Q := h
theorem nls {σ : St} {H : Hp} {Q : List V → Hp → Prop} (h : Q [] H) : tNil σ H Q := h
theorem gnE {i : Nat} {v v' : V} {σ : St} {H : Hp} {Q : St → Hp → Prop} (e : v = v') (h : gName i v' σ H Q) : gName i v σ H Q := e ▸ h
/-- pairs stay where a list is left out -/
theorem pairs_del {H : Hp} {D : Addr} {ys xs : List V} {ps : List Pr} (h : H D = some (.lst ys)) (hp : PairsAt H xs ps) : PairsAt (del H D) xs ps := paired_mono (fun {v p} ⟨t, e, ht⟩ => ⟨t, e, by rw [del_ne (ne_of ht h (by intro z; cases z))]; exact ht⟩) hp
/-- a pairing stays where a list is changed -/
theorem PairingAt.stab {n : Int} {H : Hp} {D : Addr} {ys zs : List V} {v : V} {ps : List Pr} (h : H D = some (.lst ys)) (hp : PairingAt H v n ps) : PairingAt (upd H D (.lst zs)) v n ps := by
  obtain ⟨p, q, xs, rfl, h1, h2, h3⟩ := hp
  exact ⟨p, q, xs, rfl, by rw [upd_ne (ne_of h1 h (by intro z; cases z))]; exact h1, by rw [upd_ne (ne_of h2 h (by intro z; cases z))]; exact h2, upd_pairs h h3⟩
end Pg
namespace Pg
open PySem PySem.Spec PyProof.Rows L2 TL
/-! ### numbers and pairings as texts -/
def numS (i : Int) : Str := Str.ofString (toString i)
theorem tl_numS (n : Nat) : tl (numS (n : Int)) = numL n := tl_num n
theorem numS_len {i : Int} (h0 : 0 ≤ i) (h1 : i < 100) : (numS i).length ≤ 2 := by
  obtain ⟨n, rfl⟩ : ∃ n : Nat, i = (n : Int) := ⟨i.toNat, by omega⟩
  rw [len_tl, tl_numS]
  exact numL_len (by decide) (by omega)
theorem tlS (s : String) : tl (Str.ofString s) = s.toList.map Char.toNat := tl_ofString s
/-- what the signs of a word write: a number of one or two figures -/
def numW : List Nat → Option Nat
  | [c] => if 48 ≤ c ∧ c ≤ 57 then some (c - 48) else none
  | [c, d] => if (49 ≤ c ∧ c ≤ 57) ∧ (48 ≤ d ∧ d ≤ 57) then some ((c - 48) * 10 + (d - 48)) else none
  | _ => none
theorem numL_two {n : Nat} (h1 : 10 ≤ n) (h2 : n < 100) : numL n = [48 + n / 10, 48 + n % 10] := by
  rw [numL_step h1, numL_lt (show n / 10 < 10 by omega)]
  rfl
theorem numW_num {n : Nat} (h : n < 100) : numW (numL n) = some n := by
  by_cases c : n < 10
  · rw [numL_lt c]
    show (if 48 ≤ 48 + n ∧ 48 + n ≤ 57 then some (48 + n - 48) else none) = some n
    rw [if_pos (by omega)]
    congr 1
    omega
  · rw [numL_two (by omega) h]
    show (if (49 ≤ 48 + n / 10 ∧ 48 + n / 10 ≤ 57) ∧ (48 ≤ 48 + n % 10 ∧ 48 + n % 10 ≤ 57) then some ((48 + n / 10 - 48) * 10 + (48 + n % 10 - 48)) else none) = some n
    rw [if_pos (by omega)]
    congr 1
    omega
theorem numW_inv : ∀ {l : List Nat} {n : Nat}, numW l = some n → n < 100 ∧ l = numL n
  | [], n, h => by simp [numW] at h
  | [c], n, h => by
    have h2 : (if 48 ≤ c ∧ c ≤ 57 then some (c - 48) else none) = some n := h
    by_cases z : 48 ≤ c ∧ c ≤ 57
    · rw [if_pos z] at h2
      have e := Option.some.inj h2
      refine ⟨by omega, ?_⟩
      rw [numL_lt (by omega), show 48 + n = c by omega]
    · rw [if_neg z] at h2
      cases h2
  | [c, d], n, h => by
    have h2 : (if (49 ≤ c ∧ c ≤ 57) ∧ (48 ≤ d ∧ d ≤ 57) then some ((c - 48) * 10 + (d - 48)) else none) = some n := h
    by_cases z : (49 ≤ c ∧ c ≤ 57) ∧ (48 ≤ d ∧ d ≤ 57)
    · rw [if_pos z] at h2
      have e := Option.some.inj h2
      refine ⟨by omega, ?_⟩
      rw [numL_two (by omega) (by omega), show 48 + n / 10 = c by omega, show 48 + n % 10 = d by omega]
    · rw [if_neg z] at h2
      cases h2
  | _ :: _ :: _ :: _, n, h => by simp [numW] at h
theorem numW_text {w : Str} {n : Nat} (h : numW (tl w) = some n) : n < 100 ∧ w = numS (n : Int) := by
  obtain ⟨h1, h2⟩ := numW_inv h
  exact ⟨h1, ext_tl (by rw [h2, tl_numS])⟩
theorem numW_int {w : Str} {n : Nat} (h : numW (tl w) = some n) : intText? w = some (n : Int) := by
  obtain ⟨h1, h2⟩ := numW_text h
  rw [h2]
  refine int_num ?_
  have := numL_len (n := n) (k := 2) (by decide) (by omega)
  omega
def headTx (n : Int) : Str := numS n ++ Str.ofString ":"
def pairTx (p : Pr) : Str := numS p.1 ++ Str.ofString "-" ++ numS p.2
def wordsOf (n : Int) (ps : List Pr) : List Str := headTx n :: ps.map pairTx
def textOf (n : Int) (ps : List Pr) : Str := Str.join (Str.ofString " ") (wordsOf n ps)
theorem tl_blank : tl (Str.ofString " ") = [32] := by rw [tlS]; rfl
theorem tl_colon : tl (Str.ofString ":") = [58] := by rw [tlS]; rfl
theorem tl_hyphen : tl (Str.ofString "-") = [45] := by rw [tlS]; rfl
theorem small_blank : (Str.ofString " ").cps.all (· < 256) = true := by decide +kernel
theorem small_hyphen : (Str.ofString "-").cps.all (· < 256) = true := by decide +kernel
theorem words_free {n : Int} {ps : List Pr} (h0 : 0 ≤ n) (hp : ∀ p ∈ ps, 0 ≤ p.1 ∧ 0 ≤ p.2) : ∀ w ∈ wordsOf n ps, 32 ∉ tl w := fun w m => by
  have free : ∀ i : Int, 0 ≤ i → 32 ∉ tl (numS i) := fun i hi => by
    obtain ⟨k, rfl⟩ : ∃ k : Nat, i = (k : Int) := ⟨i.toNat, by omega⟩
    rw [tl_numS]
    exact numL_free (by omega)
  rcases List.mem_cons.mp m with e | m
  · rw [e]
    unfold headTx
    rw [tl_append, tl_colon]
    intro z
    rcases List.mem_append.mp z with z | z
    · exact free n h0 z
    · simp at z
  · obtain ⟨p, hpm, e⟩ := List.mem_map.mp m
    rw [← e]
    unfold pairTx
    rw [tl_append, tl_append, tl_hyphen]
    intro z
    rcases List.mem_append.mp z with z | z
    · rcases List.mem_append.mp z with z | z
      · exact free _ (hp p hpm).1 z
      · simp at z
    · exact free _ (hp p hpm).2 z
theorem split_text {n : Int} {ps : List Pr} (h0 : 0 ≤ n) (hp : ∀ p ∈ ps, 0 ≤ p.1 ∧ 0 ≤ p.2) : Txt.split (textOf n ps) (Str.ofString " ") = wordsOf n ps := by
  unfold textOf
  rw [← join_eq]
  exact split_join tl_blank small_blank (by unfold wordsOf; intro z; cases z) (words_free h0 hp)
theorem split_pair {p : Pr} (h1 : 0 ≤ p.1) (h2 : 0 ≤ p.2) : Txt.split (pairTx p) (Str.ofString "-") = [numS p.1, numS p.2] := by
  have e : pairTx p = Txt.join (Str.ofString "-") [numS p.1, numS p.2] := by
    rw [join_eq]
    rfl
  rw [e]
  refine split_join tl_hyphen small_hyphen (by intro z; cases z) fun w m => ?_
  have free : ∀ i : Int, 0 ≤ i → 45 ∉ tl (numS i) := fun i hi => by
    obtain ⟨k, rfl⟩ : ∃ k : Nat, i = (k : Int) := ⟨i.toNat, by omega⟩
    rw [tl_numS]
    exact numL_free (by omega)
  rcases List.mem_cons.mp m with e | m
  · rw [e]
    exact free _ h1
  · rw [List.mem_singleton.mp m]
    exact free _ h2
/-- the last sign, and what stands ahead of it -/
theorem cut_last (z : Str) : tl (cutS z (some (-1)) none) = (tl z).drop ((tl z).length - 1) ∧ tl (cutS z none (some (-1))) = (tl z).take ((tl z).length - 1) := by
  have e : z.length = (tl z).length := len_tl z
  have e1 : HT.sIx z.length 0 (some (-1)) = (tl z).length - 1 := by
    show (if (-1 : Int) < 0 then ((-1 : Int) + (z.length : Int)).toNat else min (-1 : Int).toNat z.length) = _
    rw [if_pos (by decide)]
    omega
  have e2 : HT.sIx z.length z.length (some (-1)) = (tl z).length - 1 := by
    show (if (-1 : Int) < 0 then ((-1 : Int) + (z.length : Int)).toNat else min (-1 : Int).toNat z.length) = _
    rw [if_pos (by decide)]
    omega
  refine ⟨?_, ?_⟩
  · show ((tl z).drop (HT.sIx z.length 0 (some (-1)))).take (HT.sIx z.length z.length none - HT.sIx z.length 0 (some (-1))) = _
    rw [e1]
    show ((tl z).drop ((tl z).length - 1)).take (z.length - ((tl z).length - 1)) = _
    rw [List.take_of_length_le (by rw [List.length_drop]; omega)]
  · show ((tl z).drop (HT.sIx z.length 0 none)).take (HT.sIx z.length z.length (some (-1)) - HT.sIx z.length 0 none) = _
    rw [e2]
    show ((tl z).drop 0).take ((tl z).length - 1 - 0) = _
    rw [List.drop_zero, Nat.sub_zero]
theorem head_cut (n : Int) : cutS (headTx n) (some (-1)) none = Str.ofString ":" ∧ cutS (headTx n) none (some (-1)) = numS n := by
  obtain ⟨h1, h2⟩ := cut_last (headTx n)
  have e : tl (headTx n) = tl (numS n) ++ [58] := by
    unfold headTx
    rw [tl_append, tl_colon]
  rw [e] at h1 h2
  have el : (tl (numS n) ++ [58]).length - 1 = (tl (numS n)).length := by
    rw [List.length_append]
    rfl
  rw [el] at h1 h2
  rw [List.drop_left] at h1
  rw [List.take_left] at h2
  exact ⟨ext_tl (by rw [h1, tl_colon]), ext_tl h2⟩
theorem headTx_len {n : Int} (h0 : 0 ≤ n) (h1 : n < 100) : (headTx n).length ≤ 3 := by
  have e := numS_len h0 h1
  rw [len_tl] at e ⊢
  unfold headTx
  rw [tl_append, tl_colon, List.length_append]
  show _ + 1 ≤ 3
  omega
theorem pairTx_len {p : Pr} (h0 : 0 ≤ p.1) (h1 : p.1 < 100) (h2 : 0 ≤ p.2) (h3 : p.2 < 100) : (pairTx p).length ≤ 5 := by
  have e := numS_len h0 h1
  have e2 := numS_len h2 h3
  rw [len_tl] at e e2 ⊢
  unfold pairTx
  rw [tl_append, tl_append, tl_hyphen, List.length_append, List.length_append]
  show _ + 1 + _ ≤ 5
  omega
theorem join_len (y : Str) : ∀ (ws : List Str) (k : Nat), y.length = 1 → (∀ w ∈ ws, w.length ≤ k) → (Str.join y ws).length ≤ ws.length * (k + 1)
  | [], k, _, _ => by
    rw [len_tl, tl_join]
    exact Nat.zero_le _
  | [w], k, hy, h => by
    have := h w List.mem_cons_self
    show w.length ≤ 1 * (k + 1)
    omega
  | w :: u :: r, k, hy, h => by
    have ih := join_len y (u :: r) k hy fun x m => h x (List.mem_cons_of_mem _ m)
    have h1 := h w List.mem_cons_self
    show (w ++ y ++ Str.join y (u :: r)).length ≤ _
    rw [len_tl] at ih h1 hy ⊢
    rw [tl_append, tl_append, List.length_append, List.length_append, List.length_cons, Nat.add_mul]
    omega
/-- a text that grows word by word -/
theorem join_push (y : Str) : ∀ (w : Str) (ws : List Str) (u : Str), tl (Str.join y (w :: ws ++ [u])) = tl (Str.join y (w :: ws)) ++ (tl y ++ tl u)
  | w, [], u => by
    show tl (w ++ y ++ u) = tl w ++ (tl y ++ tl u)
    rw [tl_append, tl_append, List.append_assoc]
  | w, v :: r, u => by
    show tl (w ++ y ++ Str.join y (v :: r ++ [u])) = tl (w ++ y ++ Str.join y (v :: r)) ++ _
    rw [tl_append, tl_append, tl_append, tl_append, join_push y v r u, ← List.append_assoc, List.append_assoc (tl w ++ tl y)]
/-- the law's own text -/
def stepTx (t : Str) (p : Pr) : Str := t ++ Str.ofString " " ++ numS p.1 ++ Str.ofString "-" ++ numS p.2
def growTx (n : Int) (ps : List Pr) : Str := ps.foldl stepTx (headTx n)
theorem grow_eq (n : Int) (ps : List Pr) : growTx n ps = textOf n ps := by
  have h : ∀ (qs rs : List Pr), qs.foldl stepTx (Str.join (Str.ofString " ") (headTx n :: rs.map pairTx)) = Str.join (Str.ofString " ") (headTx n :: (rs ++ qs).map pairTx) := by
    intro qs
    induction qs with
    | nil =>
      intro rs
      rw [List.append_nil]
      rfl
    | cons q qs ih =>
      intro rs
      have e : stepTx (Str.join (Str.ofString " ") (headTx n :: rs.map pairTx)) q = Str.join (Str.ofString " ") (headTx n :: (rs ++ [q]).map pairTx) := by
        refine ext_tl ?_
        rw [List.map_append]
        show _ = tl (Str.join (Str.ofString " ") (headTx n :: rs.map pairTx ++ [pairTx q]))
        rw [join_push]
        unfold stepTx pairTx
        simp only [tl_append, List.append_assoc]
      show (qs.foldl stepTx (stepTx (Str.join (Str.ofString " ") (headTx n :: rs.map pairTx)) q)) = _
      rw [e, ih (rs ++ [q]), List.append_assoc]
      rfl
  exact h ps []
theorem grow_len {n : Int} (h0 : 0 ≤ n) (h1 : n < 100) : ∀ (ps : List Pr), (∀ p ∈ ps, (0 ≤ p.1 ∧ p.1 < 100) ∧ 0 ≤ p.2 ∧ p.2 < 100) → (growTx n ps).length ≤ (ps.length + 1) * 6 := fun ps hp => by
  rw [grow_eq]
  refine Nat.le_trans (join_len _ _ 5 (by decide +kernel) fun w m => ?_) ?_
  · rcases List.mem_cons.mp m with e | m
    · rw [e]
      exact Nat.le_trans (headTx_len h0 h1) (by decide)
    · obtain ⟨p, hpm, e⟩ := List.mem_map.mp m
      rw [← e]
      exact pairTx_len (hp p hpm).1.1 (hp p hpm).1.2 (hp p hpm).2.1 (hp p hpm).2.2
  · show ((ps.map pairTx).length + 1) * 6 ≤ _
    rw [List.length_map]
    exact Nat.le_refl _
/-! ### a text walked sign by sign -/
theorem for_sgn {x : Str} {g : TG} {tb : TS} {D : Ends} {σ : L2.St} {H : Hp} (Pv : Nat → L2.St → Hp → Prop) (h0 : Pv 0 σ H)
    (hs : ∀ (i c : Nat) (σ : L2.St) (H : Hp), (tl x)[i]? = some c → Pv i σ H → g (.str ⟨#[c]⟩) σ H fun σ2 H2 => tb { D with nx := Pv (i + 1), ct := Pv (i + 1), bk := D.nx } σ2 H2) (hd : ∀ σ H, Pv (tl x).length σ H → D.nx σ H) :
    ∃ W : Nat → Nat → L2.St → Hp → Prop, (∃ m, W 0 m σ H) ∧ ∀ i m σ H, W i m σ H →
      ((Its x).stop i H ∧ D.nx σ H) ∨ ((Its x).go i H ∧ ∃ N : L2.St → Hp → Prop, (∀ σ' H', N σ' H' → ∃ m', m' < m ∧ W (i + 1) m' σ' H') ∧ ∀ y H', (Its x).yld i H y H' → g y σ H' fun σ2 H2 => tb { D with nx := N, ct := N, bk := D.nx } σ2 H2) := by
  have es : x.cps.size = (tl x).length := by
    show _ = x.cps.toList.length
    rw [Array.length_toList]
  refine ⟨fun i m σ H => m = (tl x).length - i ∧ i ≤ (tl x).length ∧ Pv i σ H, ⟨(tl x).length, by simp, Nat.zero_le _, h0⟩, ?_⟩
  rintro i m σ H ⟨rfl, hi, p⟩
  by_cases hlt : i < (tl x).length
  · refine .inr ⟨by show i < x.cps.size; omega, Pv (i + 1), fun σ' H' p' => ⟨(tl x).length - (i + 1), by omega, rfl, hlt, p'⟩, fun y H' e => ?_⟩
    obtain ⟨rfl, c, hc, rfl⟩ := e
    refine hs i c σ _ ?_ p
    show x.cps.toList[i]? = some c
    rw [Array.getElem?_toList]
    exact hc
  · have e : i = (tl x).length := by omega
    subst e
    exact .inl ⟨by show x.cps.size ≤ _; omega, hd σ H p⟩
theorem tl_zero : tl (Str.ofString "0") = [48] := by rw [tlS]; rfl
theorem tl_figures : tl (Str.ofString "0123456789") = [48, 49, 50, 51, 52, 53, 54, 55, 56, 57] := by rw [tlS]; rfl
theorem fig_mem {c : Nat} (h : 48 ≤ c ∧ c ≤ 57) : c ∈ (Str.ofString "0123456789").cps.toList := by
  show c ∈ tl (Str.ofString "0123456789")
  rw [tl_figures]
  have : c = 48 ∨ c = 49 ∨ c = 50 ∨ c = 51 ∨ c = 52 ∨ c = 53 ∨ c = 54 ∨ c = 55 ∨ c = 56 ∨ c = 57 := by omega
  rcases this with e | e | e | e | e | e | e | e | e | e <;> (subst e; decide)
theorem numW_fig {l : List Nat} {n : Nat} (h : numW l = some n) : ∀ c ∈ l, 48 ≤ c ∧ c ≤ 57 := by
  match l, h with
  | [c], h =>
    intro x m
    rw [List.mem_singleton.mp m]
    have h2 : (if 48 ≤ c ∧ c ≤ 57 then some (c - 48) else none) = some n := h
    by_cases z : 48 ≤ c ∧ c ≤ 57
    · exact z
    · rw [if_neg z] at h2
      cases h2
  | [c, d], h =>
    have h2 : (if (49 ≤ c ∧ c ≤ 57) ∧ (48 ≤ d ∧ d ≤ 57) then some ((c - 48) * 10 + (d - 48)) else none) = some n := h
    by_cases z : (49 ≤ c ∧ c ≤ 57) ∧ (48 ≤ d ∧ d ≤ 57)
    · intro x m
      rcases List.mem_cons.mp m with e | m
      · rw [e]
        omega
      · rw [List.mem_singleton.mp m]
        exact z.2
    · rw [if_neg z] at h2
      cases h2
theorem numW_zero {r : List Nat} {n : Nat} (h : numW (48 :: r) = some n) : r = [] := by
  match r, h with
  | [], _ => rfl
  | [d], h =>
    have h2 : (if (49 ≤ 48 ∧ 48 ≤ 57) ∧ (48 ≤ d ∧ d ≤ 57) then some ((48 - 48) * 10 + (d - 48)) else none) = some n := h
    rw [if_neg (by omega)] at h2
    cases h2
theorem sgn_eq {c d : Nat} : ((⟨#[c]⟩ : Str) = ⟨#[d]⟩) ↔ c = d := ⟨fun e => by
  have := congrArg (fun s : Str => s.cps.toList) e
  simpa using this, fun e => by rw [e]⟩
theorem zero_sgn : Str.ofString "0" = ⟨#[48]⟩ := ext_tl (by rw [tl_zero])
end Pg
namespace Pg
open PySem PySem.Spec PyProof.Rows L2 TL
/-! ### what a text writes -/
theorem numW_of1 {c : Nat} (h : 48 ≤ c ∧ c ≤ 57) : numW [c] = some (c - 48) := by
  show (if 48 ≤ c ∧ c ≤ 57 then some (c - 48) else none) = _
  rw [if_pos h]
theorem numW_of2 {c d : Nat} (h : 48 ≤ c ∧ c ≤ 57) (h0 : c ≠ 48) (h2 : 48 ≤ d ∧ d ≤ 57) : numW [c, d] = some ((c - 48) * 10 + (d - 48)) := by
  show (if (49 ≤ c ∧ c ≤ 57) ∧ (48 ≤ d ∧ d ≤ 57) then some ((c - 48) * 10 + (d - 48)) else none) = _
  rw [if_pos ⟨⟨by omega, h.2⟩, h2⟩]
theorem mem_fig {c : Nat} (h : c ∈ (Str.ofString "0123456789").cps.toList) : 48 ≤ c ∧ c ≤ 57 := by
  have h : c ∈ tl (Str.ofString "0123456789") := h
  rw [tl_figures] at h
  simp at h
  omega
theorem numW_len {l : List Nat} {n : Nat} (h : numW l = some n) : 1 ≤ l.length ∧ l.length ≤ 2 := by
  match l, h with
  | [c], _ => exact ⟨by show 1 ≤ 1; decide, by show 1 ≤ 2; decide⟩
  | [c, d], _ => exact ⟨by show 1 ≤ 2; decide, by show 2 ≤ 2; decide⟩
/-- a number, -1 if it is none -/
def numI (l : List Nat) : Int := match numW l with
  | some n => (n : Int)
  | none => -1
theorem numI_some {l : List Nat} {n : Nat} (h : numW l = some n) : numI l = (n : Int) := by
  unfold numI
  rw [h]
theorem numI_none {l : List Nat} (h : numW l = none) : numI l = -1 := by
  unfold numI
  rw [h]
theorem numI_nn {l : List Nat} (h : 0 ≤ numI l) : ∃ n : Nat, numW l = some n ∧ numI l = (n : Int) := by
  cases e : numW l with
  | none => rw [numI_none e] at h; omega
  | some n => exact ⟨n, rfl, numI_some e⟩
theorem numI_hi (l : List Nat) : numI l < 100 ∧ -1 ≤ numI l := by
  cases e : numW l with
  | none => rw [numI_none e]; omega
  | some n =>
    have := (numW_inv e).1
    rw [numI_some e]
    omega
/-- cut at the first hyphen -/
def cutH : List Nat → Option (List Nat × List Nat)
  | [] => none
  | c :: r => if c = 45 then some ([], r) else (cutH r).map fun x => (c :: x.1, x.2)
theorem cutH_none : ∀ {l : List Nat}, cutH l = none → 45 ∉ l
  | [], _ => by simp
  | c :: r, h => by
    have h2 : (if c = 45 then some ([], r) else (cutH r).map fun x => (c :: x.1, x.2)) = none := h
    by_cases e : c = 45
    · rw [if_pos e] at h2; cases h2
    · rw [if_neg e] at h2
      have h3 : cutH r = none := by
        cases q : cutH r with
        | none => rfl
        | some x => rw [q] at h2; cases h2
      intro m
      rcases List.mem_cons.mp m with m | m
      · exact e m.symm
      · exact cutH_none h3 m
theorem cutH_some : ∀ {l a b : List Nat}, cutH l = some (a, b) → l = a ++ 45 :: b ∧ 45 ∉ a
  | [], _, _, h => by cases h
  | c :: r, a, b, h => by
    have h2 : (if c = 45 then some ([], r) else (cutH r).map fun x => (c :: x.1, x.2)) = some (a, b) := h
    by_cases e : c = 45
    · rw [if_pos e] at h2
      cases h2
      subst e
      exact ⟨rfl, by simp⟩
    · rw [if_neg e] at h2
      cases q : cutH r with
      | none => rw [q] at h2; cases h2
      | some x =>
        rw [q] at h2
        obtain ⟨x1, x2⟩ := x
        have h3 := Option.some.inj h2
        simp only [Prod.mk.injEq] at h3
        obtain ⟨rfl, rfl⟩ := h3
        obtain ⟨i1, i2⟩ := cutH_some q
        refine ⟨by rw [i1]; rfl, fun m => ?_⟩
        rcases List.mem_cons.mp m with m | m
        · exact e m.symm
        · exact i2 m
/-- the pair that a word writes -/
def pairL (l : List Nat) : Option Pr := match cutH l with
  | none => none
  | some (a, b) => match numW a, numW b with
    | some m, some n => some ((m : Int), (n : Int))
    | _, _ => none
theorem pairL_inv {l : List Nat} {p : Pr} (h : pairL l = some p) : ∃ a b m n, cutH l = some (a, b) ∧ numW a = some m ∧ numW b = some n ∧ p = ((m : Int), (n : Int)) := by
  unfold pairL at h
  cases e : cutH l with
  | none => rw [e] at h; cases h
  | some x =>
    obtain ⟨a, b⟩ := x
    rw [e] at h
    cases e1 : numW a with
    | none => simp only [e1] at h; cases h
    | some m =>
      cases e2 : numW b with
      | none => simp only [e1, e2] at h; cases h
      | some n =>
        simp only [e1, e2] at h
        exact ⟨a, b, m, n, rfl, e1, e2, (Option.some.inj h).symm⟩
theorem pairL_of {l a b : List Nat} {m n : Nat} (h : cutH l = some (a, b)) (h1 : numW a = some m) (h2 : numW b = some n) : pairL l = some ((m : Int), (n : Int)) := by
  unfold pairL
  rw [h]
  simp only [h1, h2]
theorem spl_ne {S : List Nat} {l : List Nat} : spl S 0 [] l ≠ [] := by
  have : ∀ (l : List Nat) (k : Nat) (acc : List Nat), spl S k acc l ≠ [] := by
    intro l
    induction l with
    | nil => intro k acc; rw [spl_nil]; simp
    | cons c r ih =>
      intro k acc
      cases k with
      | zero =>
        by_cases h : pre S (c :: r) = true
        · rw [spl_hit h]; simp
        · rw [spl_miss (by simpa using h)]; exact ih _ _
      | succ k => exact ih k acc
  exact this l 0 []
theorem split_tl (w : Str) : (Txt.split w (Str.ofString "-")).map tl = spl [45] 0 [] (tl w) := by
  rw [split_spl w _ (by rw [tl_hyphen]; simp) (kind_ok small_hyphen), tl_hyphen]
/-- the halves of a word -/
theorem halves (w : Str) : (∃ a b : Str, Txt.split w (Str.ofString "-") = [a, b] ∧ cutH (tl w) = some (tl a, tl b)) ∨
    ((Txt.split w (Str.ofString "-")).length ≠ 2 ∧ pairL (tl w) = none) := by
  have e := split_tl w
  cases c : cutH (tl w) with
  | none =>
    right
    rw [spl_last1 (cutH_none c)] at e
    have el := congrArg List.length e
    rw [List.length_map] at el
    refine ⟨by rw [el]; show ¬ (1 = 2); decide, ?_⟩
    unfold pairL
    rw [c]
  | some x =>
    obtain ⟨a, b⟩ := x
    obtain ⟨h1, h2⟩ := cutH_some c
    have e2 : spl [45] 0 [] (tl w) = a :: spl [45] 0 [] b := by
      rw [h1]
      have := spl_part1 (s := 45) (S := []) (acc := []) (rest := b) h2
      exact this
    rw [e2] at e
    by_cases m : 45 ∈ b
    · right
      obtain ⟨y, hy⟩ : ∃ y, cutH b = some y := by
        cases q : cutH b with
        | none => exact absurd m (cutH_none q)
        | some y => exact ⟨y, rfl⟩
      obtain ⟨y1, y2⟩ := y
      obtain ⟨g1, g2⟩ := cutH_some hy
      have e3 : spl [45] 0 [] b = y1 :: spl [45] 0 [] y2 := by
        rw [g1]
        have := spl_part1 (s := 45) (S := []) (acc := []) (rest := y2) g2
        exact this
      rw [e3] at e
      have el := congrArg List.length e
      rw [List.length_map, List.length_cons, List.length_cons] at el
      have : 0 < (spl [45] 0 [] y2).length := List.length_pos_iff.mpr spl_ne
      refine ⟨by omega, ?_⟩
      cases q : pairL (tl w) with
      | none => rfl
      | some p =>
        obtain ⟨a', b', m', n', k1, _, k3, _⟩ := pairL_inv q
        rw [c] at k1
        cases k1
        have := numW_fig k3 45 m
        omega
    · left
      rw [spl_last1 m, List.nil_append] at e
      have el := congrArg List.length e
      rw [List.length_map] at el
      match q : Txt.split w (Str.ofString "-"), el with
      | [u, v], _ =>
        rw [q] at e
        simp only [List.map_cons, List.map_nil, List.cons.injEq, and_true] at e
        exact ⟨u, v, rfl, by rw [e.1, e.2]⟩
/-- where the first hyphen stands -/
theorem find_hy (w : Str) : (cutH (tl w) = none ∧ Txt.find w (Str.ofString "-") = -1) ∨ (∃ a b : List Nat, cutH (tl w) = some (a, b) ∧ Txt.find w (Str.ofString "-") = (a.length : Int)) := by
  have hy : tl (Str.ofString "-") ≠ [] := by rw [tl_hyphen]; simp
  have pr : ∀ {l : List Nat} {i : Nat}, pre [45] (l.drop i) = true ↔ l[i]? = some 45 := fun {l i} => by
    unfold pre
    cases q : l.drop i with
    | nil =>
      have : l[i]? = none := by
        have := List.drop_eq_nil_iff.mp q
        exact List.getElem?_eq_none this
      rw [this]
      simp
    | cons c r =>
      have hc : l[i]? = some c := by
        have := congrArg (fun z => z[0]?) q
        simp only [List.getElem?_drop, Nat.add_zero] at this
        exact this
      rw [hc]
      show (([c] : List Nat) == [45]) = true ↔ _
      rw [beq_iff_eq]
      simp
  unfold Txt.find
  rcases PySem.StrLaws.occ_head w (Str.ofString "-") 1 (Nat.le_refl _) with ⟨h0, hn⟩ | ⟨i, r, h0, hi, hn⟩
  · left
    rw [h0]
    refine ⟨?_, rfl⟩
    cases c : cutH (tl w) with
    | none => rfl
    | some x =>
      obtain ⟨a, b⟩ := x
      obtain ⟨h1, _⟩ := cutH_some c
      refine absurd ((at_iff hy a.length).mpr ?_) (hn a.length)
      rw [tl_hyphen, pr, h1, List.getElem?_append_right (Nat.le_refl _), Nat.sub_self]
      rfl
  · right
    rw [h0]
    have hi' := (at_iff hy i).mp hi
    rw [tl_hyphen, pr] at hi'
    cases c : cutH (tl w) with
    | none => exact absurd (List.mem_of_getElem? hi') (cutH_none c)
    | some x =>
      obtain ⟨a, b⟩ := x
      obtain ⟨h1, h2⟩ := cutH_some c
      refine ⟨a, b, rfl, ?_⟩
      show (i : Int) = (a.length : Int)
      have ha : ¬ a.length < i := fun z => hn a.length z ((at_iff hy a.length).mpr (by
        rw [tl_hyphen, pr, h1, List.getElem?_append_right (Nat.le_refl _), Nat.sub_self]
        rfl))
      have hb : ¬ i < a.length := fun z => by
        rw [h1, List.getElem?_append_left z] at hi'
        exact h2 (List.mem_of_getElem? hi')
      omega
/-- the signs ahead of a place and behind it -/
theorem cutS_to (z : Str) (k : Nat) (h : k ≤ (tl z).length) : tl (cutS z none (some (k : Int))) = (tl z).take k := by
  have e : z.length = (tl z).length := len_tl z
  have e2 : HT.sIx z.length z.length (some (k : Int)) = k := by
    show (if (k : Int) < 0 then ((k : Int) + (z.length : Int)).toNat else min (k : Int).toNat z.length) = _
    rw [if_neg (by omega)]
    omega
  show ((tl z).drop (HT.sIx z.length 0 none)).take (HT.sIx z.length z.length (some (k : Int)) - HT.sIx z.length 0 none) = _
  rw [e2]
  show ((tl z).drop 0).take (k - 0) = _
  rw [List.drop_zero, Nat.sub_zero]
theorem cutS_on (z : Str) (k : Nat) (h : k ≤ (tl z).length) : tl (cutS z (some (k : Int)) none) = (tl z).drop k := by
  have e : z.length = (tl z).length := len_tl z
  have e1 : HT.sIx z.length 0 (some (k : Int)) = k := by
    show (if (k : Int) < 0 then ((k : Int) + (z.length : Int)).toNat else min (k : Int).toNat z.length) = _
    rw [if_neg (by omega)]
    omega
  show ((tl z).drop (HT.sIx z.length 0 (some (k : Int)))).take (HT.sIx z.length z.length none - HT.sIx z.length 0 (some (k : Int))) = _
  rw [e1]
  show ((tl z).drop k).take (z.length - k) = _
  rw [List.take_of_length_le (by rw [List.length_drop]; omega)]
/-- the words of a text are no longer than it, and there is one -/
def wordsT (t : Str) : List Str := Txt.split t (Str.ofString " ")
theorem wordsT_tl (t : Str) : (wordsT t).map tl = spl [32] 0 [] (tl t) := by
  unfold wordsT
  rw [split_spl t _ (by rw [tl_blank]; simp) (kind_ok small_blank), tl_blank]
theorem wordsT_ne (t : Str) : ∃ w r, wordsT t = w :: r := by
  have e := wordsT_tl t
  cases q : wordsT t with
  | nil =>
    rw [q] at e
    exact absurd e.symm spl_ne
  | cons w r => exact ⟨w, r, rfl⟩
theorem spl_lens : ∀ (l : List Nat) (acc : List Nat), (spl [32] 0 acc l).length ≤ l.length + 1 ∧ ∀ x ∈ spl [32] 0 acc l, x.length ≤ acc.length + l.length
  | [], acc => by
    rw [spl_nil]
    refine ⟨Nat.le_refl _, fun x m => ?_⟩
    rw [List.mem_singleton.mp m]
    exact Nat.le_add_right _ _
  | c :: r, acc => by
    by_cases h : pre [32] (c :: r) = true
    · rw [spl_hit h]
      obtain ⟨i1, i2⟩ := spl_lens r []
      refine ⟨?_, fun x m => ?_⟩
      · show (spl [32] 0 [] r).length + 1 ≤ r.length + 1 + 1
        omega
      · rcases List.mem_cons.mp m with m | m
        · rw [m]
          exact Nat.le_add_right _ _
        · have := i2 x m
          show _ ≤ acc.length + (r.length + 1)
          simp at this
          omega
    · rw [spl_miss (by simpa using h)]
      obtain ⟨i1, i2⟩ := spl_lens r (acc ++ [c])
      refine ⟨?_, fun x m => ?_⟩
      · show _ ≤ r.length + 1 + 1
        omega
      · have := i2 x m
        rw [List.length_append] at this
        show _ ≤ acc.length + (r.length + 1)
        simp at this
        omega
theorem wordsT_len (t : Str) : (wordsT t).length ≤ t.length + 1 ∧ ∀ w ∈ wordsT t, w.length ≤ t.length := by
  obtain ⟨h1, h2⟩ := spl_lens (tl t) []
  have e := wordsT_tl t
  refine ⟨?_, fun w m => ?_⟩
  · have := congrArg List.length e
    rw [List.length_map] at this
    rw [this, len_tl]
    exact h1
  · have m2 : tl w ∈ spl [32] 0 [] (tl t) := by
      rw [← e]
      exact List.mem_map_of_mem m
    have := h2 _ m2
    rw [len_tl, len_tl t]
    simpa using this
/-- THE READING: what a text writes -/
def Reads (t : Str) (n : Int) (ps : List Pr) : Prop := ∃ (w : Str) (r : List Str) (k : Nat), wordsT t = w :: r ∧ (tl w).drop ((tl w).length - 1) = [58] ∧ numW ((tl w).take ((tl w).length - 1)) = some k ∧ n = (k : Int) ∧ Paired (fun u p => pairL (tl u) = some p) r ps ∧ Good n ps
theorem paired_fun {α β : Type} {f : α → Option β} : ∀ {xs : List α} {ys zs : List β}, Paired (fun u p => f u = some p) xs ys → Paired (fun u p => f u = some p) xs zs → ys = zs
  | _, _, _, .nil, .nil => rfl
  | _, _, _, .cons a h, .cons b k => by
    rw [a] at b
    cases b
    rw [paired_fun h k]
theorem Reads.uniq {t : Str} {n m : Int} {ps qs : List Pr} (h : Reads t n ps) (k : Reads t m qs) : n = m ∧ ps = qs := by
  obtain ⟨w, r, a, h1, h2, h3, h4, h5, _⟩ := h
  obtain ⟨w', r', a', k1, k2, k3, k4, k5, _⟩ := k
  rw [h1] at k1
  cases k1
  rw [h3] at k3
  cases k3
  exact ⟨h4.trans k4.symm, paired_fun h5 k5⟩
/-- a comprehension over a new list, each element made or raised about -/
theorem lcLX {K : PySem.W.Frag} {σ : L2.St} {H : Hp} {tl te : TE} {g : TG} {vs : List Nat} {Q : VK} {α β : Type} (R : Hp → V → β → Prop) (fu : α → Option β) (inj : α → V) (as : List α) (mono : ∀ {H H' : Hp} {v : V} {b : β}, Same H H' → R H v b → R H' v b)
    (hl : ∀ Q : VK, (∀ a H1, Same H H1 → SqL K H1 a (as.map inj) → Q (.ref a) H1) → tl σ H Q) (hz : as.length ≤ 40000)
    (ht : ∀ (i : Nat) (x : α), as[i]? = some x → ∀ (H1 : Hp) (D : Addr) (acc : List V), Same H H1 → H1 D = some (.lst acc) → ∀ (Q : VK) (Z : Hp → Prop), (∀ b, fu x = some b → ∀ H2 y, Same H1 H2 → R (del H2 D) y b → Q y H2) → g (inj x) (wipe σ vs) H1 fun σ2 H2 => wipe σ2 vs = wipe σ vs ∧ tYes σ2 H2 fun b H3 => if b = true then te σ2 H3 Q else Z H3)
    (q : ∀ (bs : List β), Paired (fun u p => fu u = some p) as bs → ∀ (H' : Hp) (p : Addr) (ys : List V), Same H H' → H p = none → H' p = some (.lst ys) → Paired (R (del H' p)) ys bs → Q (.ref p) H') : tLc (iList K tl) g tYes te vs σ H Q := by
  refine hl _ fun a H0 s0 hx => ⟨a, rfl, ⟨_, hx⟩, fun D hD0 => lc_list (K := K) (a := a) (xs := as.map inj) (fun i H' => ∃ ys bs, Same H0 H' ∧ H' D = some (.lst ys) ∧ Paired (fun u p => fu u = some p) (as.take i) bs ∧ Paired (R (del H' D)) ys bs) ?_ ?_ ?_ ?_⟩
  · exact ⟨[], [], sm_new hD0, upd_same, .nil, .nil⟩
  · rintro i H' _ ⟨ys, bs, s, _⟩
    exact s.seq hx
  · rintro i x H' hi ⟨ys, bs, s, hd, hf, hp⟩
    rw [List.getElem?_map] at hi
    cases hu : as[i]? with
    | none => rw [hu] at hi; cases hi
    | some u =>
      rw [hu] at hi
      have ex := (Option.some.inj hi).symm
      subst ex
      have hil := (List.getElem?_eq_some_iff.mp hu).1
      refine ht i u hu H' D ys (s0.trans s) hd _ _ fun b hb H2 y s2 r => ?_
      have hd2 := s2 _ _ hd
      have hlen := paired_length hp
      have hlen2 := paired_length hf
      rw [List.length_take] at hlen2
      refine ⟨ys, hd2, szl (by omega), ys ++ [y], bs ++ [b], sm_mut (s.trans s2) hD0, upd_same, ?_, ?_⟩
      · rw [List.take_add_one, hu]
        exact paired_push hf hb
      · rw [del_upd]
        exact paired_push (paired_mono (fun r => mono (del_mono s2) r) hp) r
  · rintro H' ⟨ys, bs, s, hd, hf, hp⟩
    rw [List.length_map, List.take_length] at hf
    exact q bs hf H' D ys (s0.trans s) (s0.free hD0) hd hp
/-- a comprehension over a text, sign by sign -/
theorem lc_sgn {x : Str} {g : TG} {tt : TT} {te : TE} {vs : List Nat} {σ : L2.St} {H1 : Hp} {D : Addr} {Qd : Hp → Prop} (Pv : Nat → Hp → Prop) (h0 : Pv 0 (upd H1 D (.lst [])))
    (hs : ∀ (i c : Nat) (H : Hp), (tl x)[i]? = some c → Pv i H → g (.str ⟨#[c]⟩) (wipe σ vs) H fun σ2 H2 => wipe σ2 vs = wipe σ vs ∧ tt σ2 H2 fun b H3 =>
      if b = true then te σ2 H3 fun y H4 => ∃ acc, H4 D = some (.lst acc) ∧ acc.length < sizeLine ∧ Pv (i + 1) (upd H4 D (.lst (acc ++ [y]))) else Pv (i + 1) H3) (hd : ∀ H, Pv (tl x).length H → Qd H) :
    ∃ W : Nat → Nat → Hp → Prop, (∃ m, W 0 m (upd H1 D (.lst []))) ∧ ∀ i m H, W i m H →
      ((Its x).stop i H ∧ Qd H) ∨ ((Its x).go i H ∧ ∃ Nx : Hp → Prop, (∀ H', Nx H' → ∃ m', m' < m ∧ W (i + 1) m' H') ∧ ∀ y H', (Its x).yld i H y H' → g y (wipe σ vs) H' fun σ2 H2 => wipe σ2 vs = wipe σ vs ∧ tt σ2 H2 fun b H3 =>
        if b = true then te σ2 H3 fun y H4 => ∃ acc, H4 D = some (.lst acc) ∧ acc.length < sizeLine ∧ Nx (upd H4 D (.lst (acc ++ [y]))) else Nx H3) := by
  have es : x.cps.size = (tl x).length := by
    show _ = x.cps.toList.length
    rw [Array.length_toList]
  refine ⟨fun i m H => m = (tl x).length - i ∧ i ≤ (tl x).length ∧ Pv i H, ⟨(tl x).length, by simp, Nat.zero_le _, h0⟩, ?_⟩
  rintro i m H ⟨rfl, hi, p⟩
  by_cases hlt : i < (tl x).length
  · refine .inr ⟨by show i < x.cps.size; omega, Pv (i + 1), fun H' p' => ⟨(tl x).length - (i + 1), by omega, rfl, hlt, p'⟩, fun y H' e => ?_⟩
    obtain ⟨rfl, c, hc, rfl⟩ := e
    refine hs i c _ ?_ p
    show x.cps.toList[i]? = some c
    rw [Array.getElem?_toList]
    exact hc
  · have e : i = (tl x).length := by omega
    subst e
    exact .inl ⟨by show x.cps.size ≤ _; omega, hd H p⟩
def nofig (l : List Nat) : List Nat := l.filter fun c => !decide (c ∈ (Str.ofString "0123456789").cps.toList)
theorem nofig_nil {l : List Nat} (h : (nofig l).length = 0) : ∀ c ∈ l, 48 ≤ c ∧ c ≤ 57 := fun c m => by
  by_cases e : c ∈ (Str.ofString "0123456789").cps.toList
  · exact mem_fig e
  · have : c ∈ nofig l := List.mem_filter.mpr ⟨m, by rw [decide_eq_false e]; rfl⟩
    rw [List.length_eq_zero_iff.mp h] at this
    cases this
theorem nofig_of {l : List Nat} (h : ∀ c ∈ l, 48 ≤ c ∧ c ≤ 57) : (nofig l).length = 0 := by
  unfold nofig
  rw [List.filter_eq_nil_iff.mpr (fun c m => by rw [decide_eq_true (fig_mem (h c m))]; simp)]
  rfl
end Pg
/-! a list comprehension whose element may raise: the exception leaves the def -/
namespace Pg
open PySem PySem.Spec PyProof.Rows L2
theorem note_env (e : Value) {c env : Env} (h : c.frame = env.frame) : noteFrame e c = noteFrame e env := by
  unfold noteFrame PySem.frameOf
  rw [h]
/-- what a comprehension's loop must leave, its frame known -/
def postX (M : Model) (A : Around) (E : Value → Shared → Prop) (Q : Value → Shared → Prop) (acc : Value) (C : Addr) (fr : Option Addr) (r : Result) (s' : Shared) : Prop :=
  match r with
  | .ok _ => ∃ m, s'.heap.Ns C m ∧ ∀ h', Heap.SameBut C s'.heap h' → Q acc { s' with heap := h' }
  | .error x => ∃ m, s'.heap.Ns C m ∧ ∀ h', Heap.SameBut C s'.heap h' → ∀ cenv : Env, cenv.frame = fr → wpAny M A (passOn "comprehension.variables-let-go" x cenv : Sem Value) (fun _ _ => False) E { s' with heap := h' }
section
variable {M : Model} {A : Around} {E : Value → Shared → Prop} {s : Shared} {env : Env}
theorem comp_freeX {e : Expr} {scope : Scope} {pos : Pos} {newAcc first : Sem Value} {g : Comprehension} {gs : List Comprehension} {cl : List (Str × Addr)} {Q : Value → Shared → Prop}
    (hcl : clausesOf e = g :: gs) (hs : ∀ x, foldedSetIterable g.iter env x = pure x) (hclos : closureFor scope env = pure cl)
    (hkind : scope.kind = .function) (hnames : ∀ x ∈ scope.names, x.2 = .local → scope.names.lookup x.1 = some .local)
    (h : wpAny M A first (fun x s₁ => wpAny M A (pyIter x) (fun it s₂ => wpAny M A newAcc (fun acc s₃ =>
      wpAny M A (newFunctionEnv scope env.globals cl [] env.qual none .none (some env)) (fun cenv s₄ =>
        codeAny M A (.compStart e 0 it acc { cenv with scope := relabel scope env }) (postX M A E Q acc cenv.locals cenv.frame) s₄) E s₃) E s₂) E s₁) E s) :
    wpAny M A (comprehension e scope env pos newAcc false first none) Q E s := by
  unfold comprehension
  rw [hclos, hcl]
  refine wpAny_bind (wpAny_mono h (fun x s₁ h₁ => wpAny_bind (wpAny_standAt (wpAny_bind (wpAny_of_eq (hs x) (wpAny_bind (wpAny_holding (wpAny_mono h₁ (fun it s₂ h₂ =>
    wpAny_standIf (wpAny_bind (wpAny_mono h₂ (fun acc s₃ h₃ => wpAny_bind (wpAny_pure (wpAny_bind (wpAny_mono h₃ (fun cenv s₄ h₄ => ?_) fun _ _ h' => h')))) fun _ _ h' => h')))
      fun _ _ h' => h'))))))) fun _ _ h' => h')
  dsimp only
  have hv : ∀ x ∈ (scope.names.filter fun x => (x.2 == .local || x.2 == .cell) && x.1 != (".0" : Str)).reverse, x.2 = .local →
      Env.kindOf { cenv with scope := relabel scope env } x.1 = some .local := fun x hx hl => lookup_relabel_local (hnames x (List.mem_filter.mp (List.mem_reverse.mp hx)).1 hl)
  refine wpAny_holding (wpAny_bind (wpAny_attempt (wpAny_holding (wpAny_run (codeAny_mono h₄ fun r s' hr => ?_)))))
  cases r with
  | ok f =>
    obtain ⟨m, hn, hr⟩ := hr
    exact wpAny_bind (wpAny_holding (wpAny_comp_letGo (cenv := { cenv with scope := relabel scope env }) hkind _ s' m hv hn fun h' m' _ hs' => wpAny_pure (hr h' hs')))
  | error x =>
    obtain ⟨m, hn, hr⟩ := hr
    exact wpAny_bind (wpAny_holding (wpAny_comp_letGo (cenv := { cenv with scope := relabel scope env }) hkind _ s' m hv hn fun h' m' _ hs' => wpAny_mono (hr h' hs' { cenv with scope := relabel scope env } rfl) (fun _ _ f => f.elim) fun _ _ y => y))
end
/-- the context of a block whose element may raise -/
abbrev blkE (X : Cx) (s : Shared) (H : Hp) (scope : Scope) (cenv : Env) (fp : List Addr) (xe : Value → Shared → Prop) : Cx := { X with s_0 := s, H_0 := H, env := cenv, outer := X.stack, ex := fp, fn := fun x => scope.names.lookup x == some .cell, pn := [], xe := xe }
theorem inv_xe {X : Cx} {pins : List (Addr × Obj)} {σ : L2.St} {H : Hp} {s : Shared} {xe : Value → Shared → Prop} (I : Inv X pins σ H s) : Inv { X with xe := xe } pins σ H s := I.wish xe
section
variable {X : Cx} {E : XK}
/-- a callee's exception in the block: noted by the def's frame, the block's variables let go, it is in the def's air -/
theorem block_out {s3 s s' : Shared} {H3 H : Hp} {σ σb : L2.St} {pins pb : List (Addr × Obj)} {scope : Scope} {ce : Env} {fp : List Addr} {xe : Value → Shared → Prop} {e : Value} {Qf : Value → Shared → Prop} {D : Value} {C : Addr}
    (hs : X.stack = X.env :: X.outer) (hf : X.env.frame = some X.env.locals) (tk : L2.Takes X (fun cls d _ H => E cls d H)) (I3 : Inv X pins σ H3 s3) (hC : s3.heap.objs.size ≤ C) (hce : ce.locals = C) (hfr : ce.frame = X.env.frame)
    (f3 : ∀ b ∈ fp, FpOk X pins H3 b) (I : Inv (blkE X s3 H3 scope ce fp xe) pb σb H s) (c : L2.CX X.prog X.w X.stack H s E e s') :
    notedBy (model X.prog X.w) X.A ce (fun e s' => postX (model X.prog X.w) X.A X.xe Qf D C ce.frame (.error e) s') e s' := by
  obtain ⟨a, B, sI, p2, σ2, H2, cls, d, rfl, I2, nb, up, sky, na, os, ag, w⟩ := L2.XE.of_call (W := fun cls d _ H => E cls d H) I (fun _ _ _ h => h) c
  obtain ⟨a', B', H', cls', d', ea, fl', _⟩ := c
  obtain rfl : a = a' := Value.ref.inj ea
  have I2 : Inv (blkE X s3 H3 scope ce fp xe) p2 σ2 H2 sI := I2
  have fl : HandSPX.FlyingZ B X.stack a (Zc cls d) s'.heap := by
    obtain ⟨_, _, _, oe, vs, T, oT, ts, he, _, hd, h1, _, _, hT, hdT, h3⟩ := fl'
    have sky : Sky B X.stack a (Zc cls d) ce.locals s'.heap := sky
    rcases sky with ⟨_, _, _, oe2, vs2, he2, _, hd2, h12⟩ | fl | ⟨k1, k2, k3, oe2, vs2, T2, oT2, ts2, he2, _, hd2, h12, _, _, hT2, hdT2, h32⟩
    · rw [he] at he2; cases he2
      rw [hd] at hd2; cases hd2
      rw [h1] at h12; cases h12
    · exact fl
    · rw [he] at he2; cases he2
      rw [hd] at hd2; cases hd2
      rw [h1] at h12; cases h12
      rw [hT] at hT2; cases hT2
      rw [hdT] at hdT2; cases hdT2
      rw [h3] at h32
      cases h32
  have hA : X.A.frames = some (X.env :: X.outer) := by rw [I3.ok.frames, hs]
  rw [hs] at fl
  show wpAny _ X.A (noteFrame (.ref a) ce) _ _ s'
  rw [note_env _ hfr]
  refine HandSPX.looks_onZ Zc.steady hA hf fl fun h1 hd1 up1 => ?_
  -- back in the def's context
  have I7 : Inv X pins σ H2 sI := I3.call' (ch := fp) I2.os I2.base I2.hok I2.bare fun b hb => ⟨(f3 b hb).2.2.2.1, (f3 b hb).2.1, (f3 b hb).2.2.2.2.1, (f3 b hb).2.2.2.2.2⟩
  obtain ⟨m, hn, _⟩ := I2.loc
  have hn : sI.heap.Ns ce.locals m := hn
  have nC : H2 C = none := by
    have z : H2 ce.locals = none := I2.free
    rw [hce] at z
    exact z
  rw [hce] at hn
  have fC : FpOk X pins H2 C := I3.fpOk hC nC
  refine ⟨m, up1.ns (up.ns hn), fun h' sb cenv hcf => ?_⟩
  obtain ⟨f0, f1, _, f3, f4, f5⟩ := fC
  obtain ⟨k1, k2, k3, oe, vs, T, oT, ts, he, hz, hd, hv1, hBT, hTa, hT, hdT, h3⟩ := hd1
  have hCn : ∀ {o : Obj} {v : Array Value}, h1.get? C = some o → o.data ≠ .fields v := fun {o v} e q => by
    obtain ⟨o', es, ep, e', dd, _⟩ := up1.ns (up.ns hn)
    have e' : h1.get? C = some o' := e'
    rw [e] at e'; cases e'
    rw [q] at dd
    cases dd
  have aC : a ≠ C := fun z => by
    subst z
    exact hCn he hd
  have TC : T ≠ C := fun z => by
    subst z
    exact hCn hT hdT
  have hG : ∀ {h : Heap} {b : Addr} {o : Obj}, (PySem.W.hideAll h [C]).get? b = some o → h.get? b = some o ∧ b ≠ C := fun {h b o} e =>
    ⟨PySem.W.of_hideAll _ e, fun z => by rw [PySem.W.hideAll_none [C] (by rw [z]; exact List.mem_singleton.mpr rfl)] at e; cases e⟩
  have hGn : ∀ {h : Heap} {b : Addr}, h.get? b = none → (PySem.W.hideAll h [C]).get? b = none := fun {h b} e => by
    cases q : (PySem.W.hideAll h [C]).get? b with
    | none => rfl
    | some o => rw [(hG q).1] at e; cases e
  have I8 : Inv X pins σ H2 { sI with heap := PySem.W.hideAll sI.heap [C], toks := sI.toks } := I7.turned (fun b o hb e => PySem.W.hideAll_get _ e (fun z => hb (List.mem_singleton.mp z))) f0 f1 f3 f4 f5
  have upI : (PySem.W.hideAll sI.heap [C]).UpToSlots h' := fun b o e nf => by
    obtain ⟨e1, hne⟩ := hG e
    obtain ⟨sl, e2⟩ := (up.trans up1) b o e1 nf
    exact ⟨sl, (sb.2 b hne).trans e2⟩
  have held : HandSPX.HeldZ (PySem.W.hideAll B [C]) (X.env :: X.outer) a (Zc cls d) X.env.locals h' := by
    refine ⟨fun b o e => (sb.2 b (hG e).2).trans (k1 b o (hG e).1), hGn k2, ?_, oe, vs, T, oT, ts, (sb.2 _ aC).trans he, hz, hd, hv1, hGn hBT, hTa, (sb.2 _ TC).trans hT, hdT, h3⟩
    rw [← hs] at k3 ⊢
    refine (funFrames_none I8.stack fun L hL => hGn (k3.mem hL).1).of_keeps fun b o e nf => ?_
    obtain ⟨sl, e2⟩ := upI b o e nf
    exact ⟨_, e2, rfl⟩
  unfold PySem.passOn
  refine wpAny_bind (wpAny_field ((sb.2 _ aC).trans he) hd hv1 ?_)
  rw [if_neg (show ¬ ((Value.ref T == Value.none) = true) from by simp)]
  have fin : wpAny (model X.prog X.w) X.A (setFlight (.ref a) cenv.frame) (fun _ s4 => wpAny (model X.prog X.w) X.A (throw (.ref a) : Sem Value) (fun _ _ => False) X.xe s4) X.xe { s' with heap := h' } := by
    rw [hcf, hfr, hf]
    refine HandSPX.setFlight_onZ held fun h2 hh2 up2 => wpAny_throw (tk _ _ ?_)
    exact ⟨a, PySem.W.hideAll B [C], { sI with heap := PySem.W.hideAll sI.heap [C], toks := sI.toks }, pins, σ, H2, cls, d, rfl, I8, fun b o e hb => PySem.W.hideAll_get _ (nb b o (hG e).1 hb) (fun z => (hG e).2 (List.mem_singleton.mp z)),
      upI.trans up2, .inr (.inr (by rw [hs]; exact hh2)), na, os, ag, w⟩
  first
    | exact wpAny_bind (wpAny_pure (wpAny_bind fin))
    | exact wpAny_bind fin
theorem pe_lcX {elt tg iter : Expr} {scope : Scope} {own : List (Str × Nat)} {pos : Pos} {wi : TI} {g : TG} {te : TE} (hs : X.stack = X.env :: X.outer) (hf : X.env.frame = some X.env.locals) (tk : L2.Takes X (fun cls d _ H => E cls d H))
    (hN : X.N.Nodup) (hi : PI X tg iter wi) (ok : BlkOk X.N X.env.scope scope own) (hc : X.calm = true)
    (hg : ∀ (s : Shared) (H : Hp) (C : Addr) (cl : List (Str × Addr)) (fp : List Addr) (xe : Value → Shared → Prop), PG (blkE X s H scope (compEnvC scope cl C X.env) fp xe) tg g)
    (he : ∀ (s : Shared) (H : Hp) (C : Addr) (cl : List (Str × Addr)) (fp : List Addr) (xe : Value → Shared → Prop), Passes (L2.CX X.prog X.w) (blkE X s H scope (compEnvC scope cl C X.env) fp xe) E → PE (blkE X s H scope (compEnvC scope cl C X.env) fp xe) elt te)
    (hit : ∀ x, foldedSetIterable iter X.env x = pure x := by intro _; rfl) :
    PE X (.ListComp elt [⟨tg, iter, [], 0⟩] scope pos) (tLc wi g tYes te (own.map (·.2))) := by
  refine ⟨fun pins s σ H Q I h => ?_⟩
  rw [eval_ListComp]
  have hfree : ∀ y ∈ scope.names, y.2 = .free → ∃ c, X.env.cells.lookup y.1 = some c := fun y hy e => by
    rcases ok.free y hy e with k | k
    · exact I.ok.has _ (.inl k)
    · exact I.ok.has _ (.inr k)
  refine comp_freeX rfl hit (closure_ok hfree) ok.kind (fun y hy e => by rw [ok.uniq y hy, e])
    (thn (hi.run pins s σ H _ I h) fun xv s1 hx => thn hx fun itv s2 h2 => ?_)
  obtain ⟨it, fp, tn, J, H2, e, I2, T, st2, f2, q⟩ := h2
  subst e
  refine wpAny_newObj_type (newEnv_comp ?_) (by show 0 ≤ sizeLine; decide)
  generalize hD : s2.heap.objs.size = D
  have hDn : H2 D = none := I2.hok.fresh (Nat.le_of_eq hD)
  obtain ⟨W, ⟨m0, w0⟩, turn⟩ := q D hDn
  -- the new list
  generalize hs3 : ({ s2 with heap := s2.heap.push { cls := .type "list", data := .seq ([] : List Value).toArray } } : Shared) = s3
  have I3 : Inv X pins σ (upd H2 D (.lst [])) s3 := by
    rw [← hs3]
    refine I2.laid (t' := s2.toks) (fun b o e => Heap.get?_push_of_some _ e) (Nat.le_of_eq hD) ⟨Nat.zero_le _, [], 0, .nil, ?_⟩
    rw [← hD]
    exact Heap.get?_push_size _ rfl
  have h3 : s3.heap = s2.heap.push { cls := .type "list", data := .seq ([] : List Value).toArray } := by rw [← hs3]
  have sz : ∀ b ∈ fp, b < s2.heap.objs.size := fun b hb => by
    obtain ⟨o, e, _⟩ := T.obj _ _ st2 b hb
    exact Heap.lt_size e
  have f3 : ∀ b ∈ fp, FpOk X pins (upd H2 D (.lst [])) b ∧ b < s3.heap.objs.size := fun b hb => by
    have hlt := sz b hb
    refine ⟨⟨?_, (f2 b hb).2⟩, by rw [h3, Heap.size_push]; exact Nat.lt_succ_of_lt hlt⟩
    rw [upd_ne (by rw [← hD]; exact Nat.ne_of_lt hlt)]
    exact (f2 b hb).1
  have st3 : tn 0 s3.heap := T.keep _ _ _ st2 fun b _ o e => by rw [h3]; exact Heap.get?_push_of_some _ e
  have I4 := block_start I3 ok hN f3
  show codeAny _ _ (.compStart (.ListComp elt [⟨tg, iter, [], 0⟩] scope pos) 0 (.ref it) (.ref D) (compEnvC scope (cellsFrom (s3.heap.objs.size + 1) scope.names (cloFrom X.env.cells scope.names [])) s3.heap.objs.size X.env)) (postX (model X.prog X.w) X.A X.xe (EP X pins σ Q) (.ref D) s3.heap.objs.size X.env.frame) { s3 with heap := pushCells (s3.heap.push { cls := .type "dict", data := .dict #[] }) scope.names }
  have nfp : ∀ b ∈ fp, (upd H2 D (.lst [])) b = none := fun b hb => (f3 b hb).1.1
  have pgA := hg s3 (upd H2 D (.lst [])) s3.heap.objs.size (cellsFrom (s3.heap.objs.size + 1) scope.names (cloFrom X.env.cells scope.names [])) fp
  have peA := he s3 (upd H2 D (.lst [])) s3.heap.objs.size (cellsFrom (s3.heap.objs.size + 1) scope.names (cloFrom X.env.cells scope.names [])) fp
  generalize hce : compEnvC scope (cellsFrom (s3.heap.objs.size + 1) scope.names (cloFrom X.env.cells scope.names [])) s3.heap.objs.size X.env = ce at I4 pgA peA ⊢
  have cL : ce.locals = s3.heap.objs.size := by subst hce; rfl
  have cF : ce.frame = X.env.frame := by subst hce; rfl
  generalize hH3 : upd H2 D (.lst []) = H3 at I3 I4 pgA peA w0 nfp f3
  -- what leaves the block
  generalize hxe : (notedBy (model X.prog X.w) X.A ce fun e s' => postX (model X.prog X.w) X.A X.xe (EP X pins σ Q) (.ref D) s3.heap.objs.size ce.frame (.error e) s') = xe
  have pg := pgA xe
  have pe := peA xe (fun pb σb Hb s e s' Ib c => by
    rw [← hxe]
    exact block_out hs hf tk I3 (Nat.le_refl _) cL cF (fun b hb => (f3 b hb).1) Ib c)
  have I4 : Inv (blkE X s3 H3 scope ce fp xe) [] (wipe σ (own.map (·.2))) H3 { s3 with heap := pushCells (s3.heap.push { cls := .type "dict", data := .dict #[] }) scope.names } := I4.wish xe
  generalize hs4 : ({ s3 with heap := pushCells (s3.heap.push { cls := .type "dict", data := .dict #[] }) scope.names } : Shared) = s4 at I4 ⊢
  have st4 : tn 0 s4.heap := T.keep _ _ _ st3 fun b _ o e => by rw [← hs4]; exact pushCells_keeps _ _ _ _ (Heap.get?_push_of_some _ e)
  have stat : ∀ {σ' : L2.St} {H' : Hp} {s' : Shared}, Inv (blkE X s3 H3 scope ce fp xe) [] σ' H' s' → (∀ b ∈ fp, H' b = none) → ∀ b ∈ fp, FpOk (blkE X s3 H3 scope ce fp xe) [] H' b := fun {σ' H' s'} I' hn b hb =>
    ⟨hn b hb, (I'.ok.exf b hb).1, I'.ok.exfs b hb, .inl hb, fun x c e => (I'.ok.exf b hb).2 x c e, fun p hp => absurd (show p ∈ ([] : List (Addr × Obj)) ++ [] from hp) (by simp)⟩
  have loop : codeAny (model X.prog X.w) X.A (.compLoop (.ListComp elt [⟨tg, iter, [], 0⟩] scope pos) 0 (.ref it) (.ref D) ce) (postX (model X.prog X.w) X.A X.xe (EP X pins σ Q) (.ref D) s3.heap.objs.size X.env.frame) s4 := by
    refine compLoop_any (fun n s' => ∃ i H', Inv (blkE X s3 H3 scope ce fp xe) [] (wipe σ (own.map (·.2))) H' s' ∧ tn i s'.heap ∧ (∀ b ∈ fp, H' b = none) ∧ W i n H') ?_ m0 ⟨0, H3, I4, st4, nfp, w0⟩
    rw [← cF, hxe]
    rintro n s5 ⟨i, H5, I5, st5, n5, w5⟩
    rcases turn i n H5 w5 with ⟨stop, qq⟩ | ⟨go, Nx, hNx, step⟩
    · have td := T.done (blkE X s3 H3 scope ce fp xe) rfl rfl rfl hc i [] s5 _ H5 (fun _ _ => False) I5 (stat I5 n5) st5 stop
      refine thnF td fun r s6 ⟨hr, I6⟩ => ?_
      subst hr
      have I7 : Inv X pins σ H5 s6 := I3.call' (ch := fp) I6.os I6.base I6.hok I6.bare fun b hb => ⟨(f3 b hb).1.2.2.2.1, (f3 b hb).1.2.1, (f3 b hb).1.2.2.2.2.1, (f3 b hb).1.2.2.2.2.2⟩
      have nC : H5 s3.heap.objs.size = none := by
        have z : H5 ce.locals = none := I6.free
        rw [cL] at z
        exact z
      obtain ⟨m, hn, _⟩ := I6.loc
      have hn : s6.heap.Ns ce.locals m := hn
      rw [cL] at hn
      obtain ⟨f0, f1, f2, f3, f4, f5⟩ := I3.fpOk (Nat.le_refl _) nC
      exact ⟨m, hn, fun h'' sb => ⟨.ref D, H5, I7.turned (t' := s6.toks) (fun b o hb e => (sb.2 b hb).trans e) f0 f1 f3 f4 f5, rfl, qq⟩⟩
    · have ti := T.item (blkE X s3 H3 scope ce fp xe) rfl rfl rfl hc i [] s5 _ H5 (fun _ _ => False) I5 (stat I5 n5) st5 go
      refine thnF ti fun r s6 ⟨u, hr, h6⟩ => ?_
      subst hr
      refine thnF h6 fun _ s7 ⟨x, H7, I7, r7, y7, st7, n7⟩ => ?_
      have I7' := I7.pinned (stat I7 n7) (T.obj _ _ st7)
      refine thn (pg.run _ s7 _ H7 x u _ I7' r7 (step x H7 y7)) fun _ s8 ⟨σ8, H8, I8, hw8, q8⟩ => ?_
      have q8 : te σ8 H8 fun y H4 => ∃ acc, H4 D = some (.lst acc) ∧ acc.length < sizeLine ∧ Nx (upd H4 D (.lst (acc ++ [y]))) := by
        have q9 : (if true = true then te σ8 H8 fun y H4 => ∃ acc, H4 D = some (.lst acc) ∧ acc.length < sizeLine ∧ Nx (upd H4 D (.lst (acc ++ [y]))) else Nx H8) := q8
        rw [if_pos rfl] at q9
        exact q9
      -- the turn's end
      have fin : ∀ {s' : Shared} {H' : Hp}, Inv (blkE X s3 H3 scope ce fp xe) ([] ++ pinsAt fp s7.heap) σ8 H' s' → Nx H' → ∃ m, m < n ∧ ∃ i H', Inv (blkE X s3 H3 scope ce fp xe) [] (wipe σ (own.map (·.2))) H' s' ∧ tn i s'.heap ∧ (∀ b ∈ fp, H' b = none) ∧ W i m H' := fun {s' H'} I' nx => by
        obtain ⟨m', hm, w'⟩ := hNx H' nx
        have pin' : ∀ b ∈ fp, ∀ o, s7.heap.get? b = some o → s'.heap.get? b = some o ∧ H' b = none := fun b hb o e =>
          let z := I'.pin (b, o) (List.mem_append_right _ (List.mem_append_right _ (mem_pinsAt hb e)))
          ⟨z.1, z.2.1⟩
        have hl : (wipe σ (own.map (·.2))).length = σ8.length := by rw [← hw8, wipe_length]
        refine ⟨m', hm, i + 1, H', (I'.unpinned (pins := [])).weak hl (fun j v e => ?_), T.keep _ _ _ st7 fun b hb o e => (pin' b hb o e).1, fun b hb => ?_, w'⟩
        · rw [← hw8] at e
          exact (wipe_some e).1
        · obtain ⟨o, e, _⟩ := T.obj _ _ st7 b hb
          exact (pin' b hb o e).2
      refine wpAny_tests_nil ?_
      rw [if_pos rfl]
      refine thn (pe.run _ s8 σ8 H8 _ I8 q8) fun z s10 ⟨yv, H10, I10, r10, acc, hD10, hz10, nx⟩ => ?_
      exact app_ok (X := blkE X s3 H3 scope ce fp xe) I10 hD10 hz10 r10 fun s11 I11 => fin I11 nx
  exact codeAny_compStart_list loop (T.self X.A 0 _ _ _ st4 loop)
end
/-- as Fun.okX, what it raises has no context -/
theorem okN {P : Program} {w : World} {K : PySem.W.Frag} {mg : Str → Option Value} {base : Heap} {x qual : Str} {st : Stmt} {f : Addr} {fd : FuncData} {N ps : List Str} {k : Nat} {sp : Sp} (F : Fun K x qual st f fd) (S : FnScope N ps (defScope st)) (len : ∀ vs H Q E, sp vs H Q E → vs.length = ps.length)
    (hbody : ∀ (cdv : Value) (A : Around) (outer : List Env) (s : Shared) (H : Hp) (vs : List V) (Q : VK) (E : XK), Room k (A.deeper (envOfC qual (defScope st) s.heap.objs.size f cdv)) → sp vs H Q E →
      ∃ t, PSs (cxOf (L2N.CX P w) P w K mg base N qual (defScope st) f cdv A outer s H E) (defBody st) t ∧ t { nx := fun _ H' => Q .non H', rt := Q } (start N vs) H) : FnOk P w K mg base (L2N.CX P w) (k + 1) f fd ps sp := by
  obtain ⟨oc, od, kV, doc, pm, an, cdv, ct, osl, rfl, lk, hcd⟩ := F.ex
  exact fn_of lk hcd S len fun A outer s H vs Q E hr hsp => hbody cdv A outer s H vs Q E hr hsp
/-- t > u of two pairs of whole numbers -/
def rGtP (K : PySem.W.Frag) : R2 := fun x y H Q => ∃ (a b : Addr) (p q r s : Int), x = .ref a ∧ y = .ref b ∧ SqT K H a [.int p, .int q] ∧ SqT K H b [.int r, .int s] ∧ Q (.bl (if p = r then decide (s < q) else decide (r < p))) H
theorem op_gtP {X : Cx} (K : PySem.W.Frag) (hu : X.A.units < cLine) (e : X.K = K := by rfl) : OpR X (compareOp .Gt) (rGtP K) := by
  subst e
  intro pins s σ H x y v u Q I rx ry h
  obtain ⟨a, b, p, q, r, t, rfl, rfl, ha, hb, qq⟩ := h
  cases rx
  cases ry
  obtain ⟨its, r1, p1, _⟩ := I.tuple ha
  obtain ⟨its2, r2, p2, _⟩ := I.tuple hb
  have i1 : IntsAre its [p, q] := Vals.ints (ns := [p, q]) r1
  have i2 : IntsAre its2 [r, t] := Vals.ints (ns := [r, t]) r2
  have e1 : its.toArray.size = 2 := by rw [List.size_toArray]; exact i1.length
  have e2 : its2.toArray.size = 2 := by rw [List.size_toArray]; exact i2.length
  have at1 : ∀ j (h1 : j < its.toArray.size), ∃ t, its.toArray[j] = .int ([p, q].getD j 0) t := fun j h1 => PyProof.Rows.IntsAre.int_at i1 _ _ (by simp at h1; simp [h1])
  have at2 : ∀ j (h1 : j < its2.toArray.size), ∃ u, its2.toArray[j] = .int ([r, t].getD j 0) u := fun j h1 => PyProof.Rows.IntsAre.int_at i2 _ _ (by simp at h1; simp [h1])
  have R := Ob.RcOp.tuples_gt (A := X.A) (s := s) (e := fun j => decide ([p, q].getD j 0 = [r, t].getD j 0)) (r := fun j => decide ([r, t].getD j 0 < [p, q].getD j 0)) p1 p2 hu (fun j h1 h2 => by
    obtain ⟨x, et⟩ := at1 j h1
    obtain ⟨y, et'⟩ := at2 j h2
    rw [et, et']
    have z : ([p, q].getD j 0 == [r, t].getD j 0) = decide ([p, q].getD j 0 = [r, t].getD j 0) := by
      by_cases q' : [p, q].getD j 0 = [r, t].getD j 0
      · rw [decide_eq_true q']; exact beq_iff_eq.mpr q'
      · rw [decide_eq_false q']; exact beq_eq_false_iff_ne.mpr q'
    rw [← z]
    exact SeqAt.EqAt.int_int _ _ _ _) (fun j h1 h2 _ => by
    obtain ⟨x, et⟩ := at1 j h1
    obtain ⟨y, et'⟩ := at2 j h2
    rw [et, et']
    exact Ob.RcOp.gt_int _ _ _ _)
  rw [e1, e2] at R
  have er : Ob.lexAt (fun j => decide ([p, q].getD j 0 = [r, t].getD j 0)) (fun j => decide ([r, t].getD j 0 < [p, q].getD j 0)) (decide (2 > 2)) 0 (min 2 2) = (if p = r then decide (t < q) else decide (r < p)) := by
    show (if decide (p = r) = true then (if decide (q = t) = true then decide (2 > 2) else decide (t < q)) else decide (r < p)) = _
    by_cases c1 : p = r
    · rw [if_pos (decide_eq_true c1), if_pos c1]
      by_cases c2 : q = t
      · rw [if_pos (decide_eq_true c2), decide_eq_false (show ¬ t < q by omega)]
        rfl
      · rw [if_neg (by simpa using c2)]
    · rw [if_neg (by simpa using c1), if_neg c1]
  rw [er] at R
  have z : wpAny (model X.prog X.w) X.A (compareOp .Gt (.ref a) (.ref b)) (EP X pins σ Q) X.xe s := R X.prog X.w X.xe (EP X pins σ Q) ⟨.bl _, H, I, rfl, qq⟩
  exact z
end Pg
namespace Pg
open PySem PySem.Spec PyProof.Rows L2 TL
/-! ### the law's own reading of a text -/
/-- the pair that a word writes, -1 for a half that is no number -/
def pairM (l : List Nat) : Option Pr := (cutH l).map fun x => (numI x.1, numI x.2)
theorem pairM_cut {l a b : List Nat} (h : cutH l = some (a, b)) : pairM l = some (numI a, numI b) := by
  unfold pairM
  rw [h]
  rfl
theorem pairM_none {l : List Nat} (h : cutH l = none) : pairM l = none := by
  unfold pairM
  rw [h]
  rfl
theorem pairM_of {l : List Nat} {p : Pr} (h : pairL l = some p) : pairM l = some p := by
  obtain ⟨a, b, m, n, h1, h2, h3, rfl⟩ := pairL_inv h
  rw [pairM_cut h1, numI_some h2, numI_some h3]
theorem pairM_back {l : List Nat} {p : Pr} (h : pairM l = some p) (h1 : 0 ≤ p.1) (h2 : 0 ≤ p.2) : pairL l = some p := by
  cases c : cutH l with
  | none =>
    rw [pairM_none c] at h
    cases h
  | some x =>
    obtain ⟨a, b⟩ := x
    rw [pairM_cut c] at h
    have e := Option.some.inj h
    subst e
    obtain ⟨m, hm, em⟩ := numI_nn h1
    obtain ⟨n, hn, en⟩ := numI_nn h2
    rw [pairL_of c hm hn]
    show some ((m : Int), (n : Int)) = some (numI a, numI b)
    rw [em, en]
abbrev ReadM (r : List Str) (ps : List Pr) : Prop := Paired (fun (u : Str) (p : Pr) => pairM (tl u) = some p) r ps
theorem readM_of {r : List Str} {ps : List Pr} (h : Paired (fun (u : Str) (p : Pr) => pairL (tl u) = some p) r ps) : ReadM r ps := paired_mono (fun h => pairM_of h) h
theorem readM_back : ∀ {r : List Str} {ps : List Pr}, ReadM r ps → (∀ p ∈ ps, 0 ≤ p.1 ∧ 0 ≤ p.2) → Paired (fun (u : Str) (p : Pr) => pairL (tl u) = some p) r ps
  | _, _, .nil, _ => .nil
  | _, _, .cons a h, hp => .cons (pairM_back a (hp _ List.mem_cons_self).1 (hp _ List.mem_cons_self).2) (readM_back h fun p m => hp p (List.mem_cons_of_mem _ m))
theorem readM_fun {r : List Str} {ps qs : List Pr} (h : ReadM r ps) (k : ReadM r qs) : ps = qs := paired_fun (f := fun u : Str => pairM (tl u)) h k
theorem reads_inv {t w : Str} {r : List Str} {n : Int} {ps : List Pr} (h : Reads t n ps) (hw : wordsT t = w :: r) :
    (tl w).drop ((tl w).length - 1) = [58] ∧ numI ((tl w).take ((tl w).length - 1)) = n ∧ ReadM r ps ∧ Good n ps := by
  obtain ⟨w', r', k, h1, h2, h3, h4, h5, h6⟩ := h
  rw [hw] at h1
  cases h1
  exact ⟨h2, by rw [numI_some h3, h4], readM_of h5, h6⟩
theorem good_srp {n : Int} {ps : List Pr} (g : Good n ps) : SrP ps := by
  have := sortP_sorted ps
  rw [g.srt] at this
  exact this
/-- a text that is read so far as qs -/
theorem reads_pre {t w : Str} {r : List Str} {n : Int} {ps qs : List Pr} {i : Nat} (h : Reads t n ps) (hw : wordsT t = w :: r) (hq : ReadM (r.take i) qs) : qs = ps.take i :=
  readM_fun hq (paired_take i (reads_inv h hw).2.2.1)
theorem reads_hy {t w u : Str} {r : List Str} {n : Int} {ps : List Pr} {i : Nat} (h : Reads t n ps) (hw : wordsT t = w :: r) (hu : r[i]? = some u) (hc : cutH (tl u) = none) : False := by
  obtain ⟨_, _, h3, _⟩ := reads_inv h hw
  obtain ⟨p, _, hp⟩ := paired_get' h3 hu
  rw [pairM_none hc] at hp
  cases hp
theorem reads_nxt {t w u : Str} {r : List Str} {n : Int} {ps : List Pr} {i : Nat} {p : Pr} (h : Reads t n ps) (hw : wordsT t = w :: r) (hu : r[i]? = some u) (hp : pairM (tl u) = some p) : ps[i]? = some p := by
  obtain ⟨_, _, h3, _⟩ := reads_inv h hw
  obtain ⟨q, hq, hqp⟩ := paired_get' h3 hu
  rw [hp] at hqp
  rw [hq, hqp]
theorem srp_snoc {qs : List Pr} {p : Pr} : SrP (qs ++ [p]) ↔ SrP qs ∧ ∀ q ∈ qs, SrtO.lexB p q = false := by
  unfold SrP
  rw [List.pairwise_append]
  constructor
  · rintro ⟨h1, _, h3⟩
    exact ⟨h1, fun q m => h3 q m p List.mem_cons_self⟩
  · rintro ⟨h1, h2⟩
    refine ⟨h1, List.pairwise_singleton _ _, fun q m x mx => ?_⟩
    rw [List.mem_singleton.mp mx]
    exact h2 q m
/-- the last one tells of all -/
theorem srp_last {qs : List Pr} {q p : Pr} (h : SrP (qs ++ [q])) (hl : SrtO.lexB p q = false) : SrP (qs ++ [q] ++ [p]) := by
  refine srp_snoc.mpr ⟨h, fun x m => ?_⟩
  rcases List.mem_append.mp m with m | m
  · have a := SrtO.lexB_no.mp ((srp_snoc.mp h).2 x m)
    have b := SrtO.lexB_no.mp hl
    exact SrtO.lexB_no.mpr (by omega)
  · rw [List.mem_singleton.mp m]
    exact hl
theorem reads_srt {t w u : Str} {r : List Str} {n : Int} {ps qs : List Pr} {i : Nat} {p q : Pr} (h : Reads t n ps) (hw : wordsT t = w :: r) (hq : ReadM (r.take i) qs) (hu : r[i]? = some u) (hp : pairM (tl u) = some p) (hm : q ∈ qs) (hl : SrtO.lexB p q = true) : False := by
  have e1 := reads_pre h hw hq
  have e2 := reads_nxt h hw hu hp
  have s := good_srp (reads_inv h hw).2.2.2
  have s2 : SrP (qs ++ [p]) := by
    rw [e1, ← take_succ e2]
    exact s.sublist (List.take_sublist _ _)
  have := (srp_snoc.mp s2).2 q hm
  rw [hl] at this
  cases this
theorem reads_of {t w : Str} {r : List Str} {ps : List Pr} (hw : wordsT t = w :: r) (hc : (tl w).drop ((tl w).length - 1) = [58]) (hr : ReadM r ps) (n0 : 0 ≤ numI ((tl w).take ((tl w).length - 1))) (n1 : numI ((tl w).take ((tl w).length - 1)) ≤ 60)
    (lt : ∀ p ∈ ps, p.1 < p.2) (nd : (pts ps).Nodup) (rg : ∀ x ∈ pts ps, 0 ≤ x ∧ x < numI ((tl w).take ((tl w).length - 1))) (sr : SrP ps) : Reads t (numI ((tl w).take ((tl w).length - 1))) ps := by
  obtain ⟨k, hk, ek⟩ := numI_nn n0
  refine ⟨w, r, k, hw, hc, hk, ek, readM_back hr fun p m => ?_, ⟨n0, n1, fun p m => ?_, nd, sortP_id sr⟩⟩
  · exact ⟨(rg _ (mem_pts.mpr ⟨p, m, .inl rfl⟩)).1, (rg _ (mem_pts.mpr ⟨p, m, .inr rfl⟩)).1⟩
  · exact ⟨(rg _ (mem_pts.mpr ⟨p, m, .inl rfl⟩)).1, lt p m, (rg _ (mem_pts.mpr ⟨p, m, .inr rfl⟩)).2⟩
/-- lists of whole numbers as data -/
theorem intL_dp {K : PySem.W.Frag} {H : Hp} : ∀ ns : List Int, DpAll K H (ns.map V.int) (ns.map PyData.int)
  | [] => .nil
  | n :: r => .cons (.int n) (intL_dp r)
theorem shp_intL (ns : List Int) : Shp 1 (.list (ns.map PyData.int)) := shp_lst fun x m => by
  obtain ⟨p, _, e⟩ := List.mem_map.mp m
  rw [← e]
  exact shp_int _
theorem intL_nil (ns : List Int) : PyData.eqv (.list (ns.map PyData.int)) (.list []) = decide (ns = []) := by
  cases ns with
  | nil => simp [PyData.eqv, PyData.eqvAll]
  | cons n r => simp [PyData.eqv, PyData.eqvAll]
theorem prL_nil (ps : List Pr) : PyData.eqv (.list (ps.map prD)) (.list []) = decide (ps = []) := by
  cases ps with
  | nil => simp [PyData.eqv, PyData.eqvAll]
  | cons n r => simp [PyData.eqv, PyData.eqvAll]
end Pg
/-! x not in a tuple of data; max of whole numbers with default= -/
namespace Pg
open PySem PySem.Spec PyProof.Rows L2
theorem Room.u65 {k : Nat} {A : Around} (r : Room k A) : A.units + 65 < cLine := by
  have := r.un
  omega
def rNinT (K : PySem.W.Frag) : R2 := fun x y H Q => ∃ (d : PyData) (ds : List PyData), Dp K H x d ∧ Dp K H y (.tuple ds) ∧ SeqAt.shaped d = true ∧ SeqAt.shaped (.tuple ds) = true ∧ Q (.bl (!ds.any fun z => PyData.eqv z d)) H
theorem ninTupD {X : Cx} (K : PySem.W.Frag) (hu : X.A.units + 65 < cLine) (e : X.K = K := by rfl) : OpR X (compareOp .NotIn) (rNinT K) := by
  subst e
  intro pins s σ H x y v u Q I rx ry ⟨d, ds, hd, he, sd, se, q⟩
  obtain ⟨_, r1⟩ := Dp.reads I d x v hd rx
  obtain ⟨_, r2⟩ := Dp.reads I (.tuple ds) y u he ry
  exact SeqAt.notIn_tuple_reads r2 r1 (SeqAt.canLay_of_shaped se) (SeqAt.canLay_of_shaped sd) (room_in_shaped sd hu)
    ⟨.bl _, H, I, rfl, q⟩
def rInLD (K : PySem.W.Frag) : R2 := rInD K
theorem inLD {X : Cx} (K : PySem.W.Frag) (hu : X.A.units + 65 < cLine) (e : X.K = K := by rfl) : OpR X (compareOp .In) (rInD K) := e ▸ op_inD hu
theorem ninLD {X : Cx} (K : PySem.W.Frag) (hu : X.A.units + 65 < cLine) (e : X.K = K := by rfl) : OpR X (compareOp .NotIn) (rNotInD K) := e ▸ op_notInD hu
theorem ints_dp {K : PySem.W.Frag} {H : Hp} : ∀ ns : List Int, DpAll K H (ns.map V.int) (ns.map PyData.int)
  | [] => .nil
  | n :: r => .cons (.int n) (ints_dp r)
theorem crMax {X : Cx} (K : PySem.W.Frag) (hc : X.calm = true := by rfl) (e : X.K = K := by rfl) : CallR X (.builtin "max") (rMax K) := e ▸ cr_max hc
def rMaxDf (K : PySem.W.Frag) : List V → List V → Hp → VK → Prop := fun vs zs H Q => ∃ (a : Addr) (ns : List Int) (d : Int), vs = [V.ref a] ∧ zs = [V.int d] ∧ SqL K H a (ns.map V.int) ∧
  (ns = [] → Q (.int d) H) ∧ ∀ m, m ∈ ns → (∀ x ∈ ns, x ≤ m) → Q (.int m) H
theorem ckw {r : List V → List V → Hp → VK → Prop} {t tk : TA} {σ : L2.St} {H : Hp} {Q : VK} (h : t σ H fun vs H1 => tk σ H1 fun zs H2 => r vs zs H2 Q) : tCKw r t tk σ H Q := h
theorem fold_max (n : Int) : ∀ (r : List Int), (r.foldl max n = n ∨ r.foldl max n ∈ r) ∧ n ≤ r.foldl max n ∧ ∀ x ∈ r, x ≤ r.foldl max n
  | [] => ⟨.inl rfl, Int.le_refl _, fun x m => absurd m List.not_mem_nil⟩
  | y :: r => by
    obtain ⟨h1, h2, h3⟩ := fold_max (max n y) r
    show (r.foldl max (max n y) = n ∨ r.foldl max (max n y) ∈ y :: r) ∧ n ≤ r.foldl max (max n y) ∧ ∀ x ∈ y :: r, x ≤ r.foldl max (max n y)
    generalize r.foldl max (max n y) = g at h1 h2 h3
    refine ⟨?_, by omega, fun x m => ?_⟩
    · rcases h1 with h1 | h1
      · by_cases c : y ≤ n
        · exact .inl (by omega)
        · exact .inr (by rw [show g = y by omega]; exact List.mem_cons_self)
      · exact .inr (List.mem_cons_of_mem _ h1)
    · rcases List.mem_cons.mp m with e | m
      · omega
      · exact h3 x m
theorem crMaxDf {X : Cx} (K : PySem.W.Frag) (hu : X.A.units + 64 < cLine) (hc : X.calm = true := by rfl) (e : X.K = K := by rfl) : CallRK X (.builtin "max") [Str.ofString "default"] (rMaxDf K) := by
  subst e
  intro pins s σ H vs zs us ws Q I r rz ⟨a, ns, d, hvs, hzs, hs, q0, q⟩
  subst hvs hzs
  obtain rfl := Vals.ref1 r
  obtain ⟨w1, rfl, t, rfl⟩ := vals1 rz
  obtain ⟨its, rv, hl, _⟩ := I.list hs
  obtain ⟨as, hr⟩ := Dp.readsAll I (ns.map .int) _ its (ints_dp ns) rv
  have hal : ∀ ns : List Int, PySem.W.AlikeAll (ns.map PyData.int) := fun ns => by
    refine ⟨fun x hx y hy => ?_, fun x hx => ?_⟩
    · obtain ⟨i, _, rfl⟩ := List.mem_map.mp hx
      obtain ⟨j, _, rfl⟩ := List.mem_map.mp hy
      simp only [PySem.W.alike]
    · obtain ⟨i, _, rfl⟩ := List.mem_map.mp hx
      intro z
      cases z
  refine PySem.W.max_list_default (I.ok.hd hc) hl.isList (xs := ns.map .int) (as := as) (by simpa using hr) (hal ns) ?_ (fun e h' tk hk => ?_) (fun y ys i v h' tk bs e hv rd hk => ?_)
  · have hd : ∀ ns : List Int, PyData.depthAll (ns.map PyData.int) = 0 := by
      intro ns
      induction ns with
      | nil => rfl
      | cons n r ih =>
        rw [List.map_cons]
        show max (PyData.depth (.int n)) (PyData.depthAll (r.map PyData.int)) = 0
        rw [ih]
        rfl
    rw [hd]
    omega
  · refine ⟨.int d, H, I.kept hk, ⟨t, rfl⟩, q0 ?_⟩
    exact List.map_eq_nil_iff.mp e
  · cases ns with
    | nil => cases e
    | cons n r =>
      rw [List.map_cons] at e
      obtain ⟨e1, e2⟩ := List.cons.inj e
      subst e1 e2
      rw [PySem.W.maxD_ints] at rd
      obtain ⟨h1, h2, h3⟩ := fold_max n r
      cases rd with
      | @int _ t' =>
        refine ⟨.int _, H, I.kept hk, ⟨t', rfl⟩, q _ ?_ fun x m => ?_⟩
        · rcases h1 with h1 | h1
          · rw [h1]
            exact List.mem_cons_self
          · exact List.mem_cons_of_mem _ h1
        · rcases List.mem_cons.mp m with e | m
          · rw [e]
            exact h2
          · exact h3 x m
theorem maxdf_of {K : PySem.W.Frag} {l : Addr} {ns : List Int} {H : Hp} {Q : VK} (P : Int → Prop) (hs : SqL K H l (ns.map V.int)) (h0 : ns = [] → P 0) (hm : ∀ m, m ∈ ns → (∀ x ∈ ns, x ≤ m) → P m) (q : ∀ m, P m → Q (.int m) H) : rMaxDf K [.ref l] [.int 0] H Q :=
  ⟨l, ns, 0, rfl, rfl, hs, fun e => q 0 (h0 e), fun m h g => q m (hm m h g)⟩
end Pg
namespace Pg
open PySem L2
def topS (i : Nat) : Stmt := PySem.Challenge.pw_pairlings_k15_texts_refused.main.body.getD i (.Pass ⟨0, 0, 0, 0⟩)
structure CA where
  PairError : Addr
  NoPairing : Addr
  NoWalk : Addr
  NoNumber : Addr
  TooMany : Addr
  BadNote : Addr
/-- what the top has left of the names that the defs read -/
structure Txt (K : PySem.W.Frag) (mg : Str → Option Value) (ca : CA) : Prop where
  z_ValueError : mg "ValueError" = none
  z_bool : mg "bool" = none
  z_int : mg "int" = none
  z_isinstance : mg "isinstance" = none
  z_len : mg "len" = none
  z_list : mg "list" = none
  z_max : mg "max" = none
  z_min : mg "min" = none
  z_range : mg "range" = none
  z_set : mg "set" = none
  z_sorted : mg "sorted" = none
  z_str : mg "str" = none
  z_tuple : mg "tuple" = none
  g_FIGURES : ∃ t, mg "FIGURES" = some (.str "0123456789" t)
  g_MOST : ∃ t, mg "MOST" = some (.int 60 t)
  g_PairError : mg "PairError" = some (.ref ca.PairError)
  g_NoPairing : mg "NoPairing" = some (.ref ca.NoPairing)
  g_NoWalk : mg "NoWalk" = some (.ref ca.NoWalk)
  g_NoNumber : mg "NoNumber" = some (.ref ca.NoNumber)
  g_TooMany : mg "TooMany" = some (.ref ca.TooMany)
  g_BadNote : mg "BadNote" = some (.ref ca.BadNote)
  x_NoPairing : PySem.W.excIn K ca.NoPairing [.type "ValueError", .type "Exception", .type "BaseException", .type "object"] "ValueError.__new__" = true
  k_NoPairing : PySem.W.keepIn K (.ref ca.NoPairing) = true
  b_NoPairing : PySem.W.subIn K (.ref ca.NoPairing) (.type "BaseException") = some true
  t_NoPairing : PySem.W.typeIn K (.ref ca.NoPairing) = some (.type "type")
  me_NoPairing : PySem.W.exmOne K (.ref ca.NoPairing) (.ref ca.NoPairing) = some true
  x_BadNote : PySem.W.excIn K ca.BadNote [.type "ValueError", .type "Exception", .type "BaseException", .type "object"] "ValueError.__new__" = true
  k_BadNote : PySem.W.keepIn K (.ref ca.BadNote) = true
  b_BadNote : PySem.W.subIn K (.ref ca.BadNote) (.type "BaseException") = some true
  t_BadNote : PySem.W.typeIn K (.ref ca.BadNote) = some (.type "type")
  me_BadNote : PySem.W.exmOne K (.ref ca.BadNote) (.ref ca.PairError) = some true
  ec_BadNote : ExcC K ca.BadNote
  i_BadNote_NoPairing : PySem.W.kitOne K (.ref ca.BadNote) (.ref ca.NoPairing) = some false
  i_BadNote_NoWalk : PySem.W.kitOne K (.ref ca.BadNote) (.ref ca.NoWalk) = some false
  i_BadNote_NoNumber : PySem.W.kitOne K (.ref ca.BadNote) (.ref ca.NoNumber) = some false
  i_BadNote_TooMany : PySem.W.kitOne K (.ref ca.BadNote) (.ref ca.TooMany) = some false
  i_BadNote_BadNote : PySem.W.kitOne K (.ref ca.BadNote) (.ref ca.BadNote) = some true
  i_BadNote_VE : PySem.W.kitOne K (.ref ca.BadNote) (.type "ValueError") = some true
end Pg

namespace Pg
open PySem L2
section
variable {P : Program} {w : World} {K : PySem.W.Frag} {mg : Str → Option Value} {base : Heap} {ca : CA}
abbrev s_law_of_walk : Stmt := topS 20
theorem sc_law_of_walk : FnScope ["walk", "open_ones", "pairs", "point", "start", "one"] ["walk"] (defScope s_law_of_walk) := ⟨rfl, rfl, rfl, by decide +kernel, rfl, by decide +kernel, by decide +kernel⟩
/-- the pairing of a walk -/
def sp_law_of_walk (K : PySem.W.Frag) : Sp := fun vs H Q _ => ∃ (a : Addr) (ws : List Stp) (h : Nat), vs = [.ref a] ∧ SqL K H a (ws.map Stp.v) ∧ run 0 ws = some h ∧ ws.length ≤ 100 ∧
  ∀ (H' : Hp) (v : V), Same H H' → PairingAt H' v (ws.length : Int) (prs ws) → Q v H'
theorem ok_law_of_walk (T : Txt K mg ca) (D : Def K mg "_law_of_walk" ["walk"] s_law_of_walk) : Known P w K mg base CX0 1 "_law_of_walk" ["walk"] (sp_law_of_walk K) := by
  refine D.known fun f fd F => F.ok sc_law_of_walk (fun vs H Q E h => ?_) (fun cdv A outer s H vs Q E hr h => ?_)
  · obtain ⟨_, _, _, rfl, _⟩ := h
    rfl
  · obtain ⟨a, ws, h, rfl, hS, hrun, hlen, q⟩ := h
    refine ⟨_, (pss_cons (ps_set (i := 1) sc_law_of_walk.nd rfl (Or.inl rfl) (pe_lst pa_nil))
      (pss_cons (ps_set (i := 2) sc_law_of_walk.nd rfl (Or.inl rfl) (pe_lst pa_nil))
      (pss_cons (ps_for PassesOwn.never rfl (pi_range1 (by rfl) T.z_range (pa_cons (pe_callB (callLen K) (by rfl) T.z_len PySem.boot_len (pa_cons (pv 0) pa_nil)) pa_nil)) (pg_name (i := 3) sc_law_of_walk.nd rfl (Or.inl rfl))
      (pss_one (ps_if (pt_cmpR op_eq (pe_ix (ixL K) (pv 0) (pv 3) (fun _ _ => rfl)) pe_str (nomark _))
      (pss_one (ps_expr (peM K PySem.F.plainAttrs_list PySem.F.slot_list_append PySem.F.type_list_append mt_append (pv 1) (pa_cons (pv 3) pa_nil))))
      (pss_one (ps_if (pt_cmpR op_ne (pe_ix (ixL K) (pv 0) (pv 3) (fun _ _ => rfl)) pe_str (nomark _))
      (pss_cons (ps_set (i := 4) sc_law_of_walk.nd rfl (Or.inr rfl) (pe_ix (ixL K) (pv 1) (pe_ix (ixL K) (pv 0) (pv 3) (fun _ _ => rfl)) (fun _ _ => rfl)))
      (pss_cons (ps_setLc (i := 1) (own := [("one", 5)]) (g := gName 5) (tt := _) rfl sc_law_of_walk.nd rfl rfl (sw_true rfl rfl rfl (by decide +kernel)) (piL K (pv 1)) (blkOk_by (N := ["walk", "open_ones", "pairs", "point", "start", "one"]) (sc := defScope s_law_of_walk) (by decide +kernel)) (fun _ _ _ _ _ => (pg_name (i := 5) sc_law_of_walk.nd rfl (Or.inl rfl))) (fun _ _ _ _ _ => (pts_one (pt_cmpR op_ne (pv 5) (pv 4) (nomark _)))) (fun _ _ _ _ _ => (pv 5)))
      (pss_one (ps_expr (peM K PySem.F.plainAttrs_list PySem.F.slot_list_append PySem.F.type_list_append mt_append (pv 2) (pa_cons (pe_tup (pa_cons (pv 4) (pa_cons (pv 3) pa_nil))) pa_nil))))))
      pss_nil)))))
      (pss_one (ps_ret (pe_tup (pa_cons (pe_callB (callLen K) (by rfl) T.z_len PySem.boot_len (pa_cons (pv 0) pa_nil)) (pa_cons (pe_callTy (callTup K) (by rfl) T.z_tuple (by decide +kernel) (pa_cons (pe_callB (cr_sortedPP K) (by rfl) T.z_sorted (by decide +kernel) (pa_cons (pv 2) pa_nil)) pa_nil)) pa_nil)))))))), ?_⟩
    refine ⟨Nat.zero_le _, fun o ho => ?_⟩
    refine ⟨Nat.zero_le _, fun r hr' => ?_⟩
    have nor : o ≠ r := ne_of_none upd_same hr'
    have hrH : H r = none := by
      rw [upd_ne (Ne.symm nor)] at hr'
      exact hr'
    have s1 := (sm_new (o := .lst []) ho).trans (sm_new (o := .lst []) hr')
    -- for point in range(len(walk))
    refine ⟨_, rfl, a, _, rfl, .inl (s1.seq hS), _, rfl, by omega, (by rw [List.length_map]; omega), ?_⟩
    refine for_range (lo := 0) (n := ((ws.map Stp.v).length : Int).toNat) (fun i σ H' => ∃ (o : Addr) (xs : List V) (x3 x4 x5 : Option V), σ = [some (.ref a), some (.ref o), some (.ref r), x3, x4, x5] ∧
      H o = none ∧ o ≠ r ∧ Same H H' ∧ H' o = some (.lst ((osAt ws i).map V.int)) ∧ H' r = some (.lst xs) ∧ PairsAt H' xs (prAt ws i)) ?_ ?_ ?_
    · exact ⟨o, [], none, none, none, rfl, ho, nor, s1, (by rw [upd_ne nor, upd_same]; rfl), upd_same, .nil⟩
    · rintro i σ H' hi ⟨o, xs, x3, x4, x5, rfl, ho, nor, hs, hO, hR, hP⟩
      have hi' : i < ws.length := by
        rw [List.length_map] at hi
        omega
      obtain ⟨st, hst, hv⟩ := step_at hi'
      have hA : SqL K H' a (ws.map Stp.v) := hs.seq hS
      have hat : atI (ws.map Stp.v) (0 + (i : Int)) = some st.v := at_of (j := i) (by omega) hv
      have e1 := os_succ hst
      have e2 := pr_succ hst
      have hos := os_le ws i
      have hpr := pr_le ws i
      refine ⟨_, rfl, _, rfl, a, _, _, _, rfl, rfl, hA, hat, ?_⟩
      cases st with
      | opn =>
        refine ⟨rfl, _, rfl, iteT ?_⟩
        refine ⟨_, rfl, .inl ⟨rfl, _, SqL.of hO⟩, _, rfl, o, _, _, rfl, rfl, hO, szl (by rw [List.length_map]; omega), ?_⟩
        refine ⟨o, xs, _, _, _, rfl, ho, nor, sm_mut hs ho, ?_, (by rw [upd_ne (Ne.symm nor)]; exact hR), ?_⟩
        · rw [upd_same, e1]
          show _ = some (HO.lst ((osAt ws i ++ [(i : Int)]).map V.int))
          rw [List.map_append, Int.zero_add]
          rfl
        · rw [e2]
          show PairsAt _ xs (prAt ws i ++ [])
          rw [List.append_nil]
          exact upd_pairs hO hP
      | lone =>
        refine ⟨rfl, _, rfl, iteF ?_⟩
        refine ⟨_, rfl, _, rfl, a, _, _, _, rfl, rfl, hA, hat, rfl, _, rfl, iteF ?_⟩
        refine ⟨o, xs, _, _, _, rfl, ho, nor, hs, ?_, hR, ?_⟩
        · rw [e1]
          exact hO
        · rw [e2]
          show PairsAt _ xs (prAt ws i ++ [])
          rw [List.append_nil]
          exact hP
      | num k =>
        refine ⟨rfl, _, rfl, iteF ?_⟩
        refine ⟨_, rfl, _, rfl, a, _, _, _, rfl, rfl, hA, hat, rfl, _, rfl, iteT ?_⟩
        -- start = open_ones[walk[point]]
        have hk := os_num hrun hst
        have hat2 : atI ((osAt ws i).map V.int) (k : Int) = some (.int ((osAt ws i).getD k 0)) := atI_nat (by
          rw [List.getElem?_map, List.getElem?_eq_getElem hk, List.getD_eq_getElem?_getD, List.getElem?_eq_getElem hk]
          rfl)
        refine ⟨_, rfl, _, rfl, _, rfl, a, _, _, _, rfl, rfl, hA, hat, o, _, _, _, rfl, rfl, SqL.of hO, hat2, ?_⟩
        -- open_ones = [one for one in open_ones if one != start]
        with_reducible refine gn (sq (asg ?_))
        refine lcL (K := K) (a := o) (xs := (osAt ws i).map V.int) (fun x => !decide (x = .int ((osAt ws i).getD k 0))) id (fun Q q => ⟨_, rfl, q⟩) (SqL.of hO) (by rw [List.length_map]; omega) (fun x => rfl) (fun x hx H1 s1 Q q => ?_) (fun x hx _ H1 s1 Q q => ⟨_, rfl, q⟩) fun p hp => ?_
        · obtain ⟨z, hz, rfl⟩ := List.mem_map.mp hx
          exact ⟨_, rfl, _, rfl, rfl, _, rfl, q⟩
        have nrp : r ≠ p := ne_of_none hR hp
        -- pairs.append((start, point))
        refine ⟨_, rfl, .inl ⟨rfl, _, SqL.of (by rw [upd_ne nrp]; exact hR)⟩, _, rfl, _, rfl, (by show 2 ≤ sizeLine; decide), fun t ht => ?_⟩
        have hpH : H p = none := hs.free hp
        have hR2 : (upd H' p (.lst (((((osAt ws i).map V.int).filter fun x => !decide (x = .int ((osAt ws i).getD k 0))).map id)))) r = some (.lst xs) := by rw [upd_ne nrp]; exact hR
        have nrt : r ≠ t := ne_of_none hR2 ht
        have npt : p ≠ t := ne_of_none upd_same ht
        have hT : H' t = none := by
          rw [upd_ne (Ne.symm npt)] at ht
          exact ht
        refine ⟨r, _, _, rfl, rfl, (by rw [upd_ne nrt]; exact hR2), szl (by rw [paired_length hP]; omega), ?_⟩
        refine ⟨p, _, _, _, _, rfl, hpH, Ne.symm nrp, ?_, ?_, upd_same, ?_⟩
        · exact sm_mut ((hs.trans (sm_new hp)).trans (sm_new ht)) hrH
        · rw [upd_ne (Ne.symm nrp), upd_ne npt, upd_same, List.map_id, e1, List.filter_map]
          show _ = some (HO.lst (((osAt ws i).eraseIdx k).map V.int))
          rw [← filter_ne_eraseIdx _ k (osAt_asc ws i).nodup hk]
          congr 3
          refine List.filter_congr fun x _ => ?_
          show (!decide (V.int x = V.int ((osAt ws i).getD k 0))) = !decide (x = (osAt ws i).getD k 0)
          congr 1
          rw [decide_eq_decide]
          exact ⟨fun z => V.int.inj z, fun z => by rw [z]⟩
        · rw [e2]
          show PairsAt _ _ (prAt ws i ++ [((osAt ws i).getD k 0, (i : Int))])
          refine paired_append (upd_pairs (o := .lst xs) (by rw [upd_ne nrt, upd_ne nrp]; exact hR) ((PairsAt.mono (sm_new hp) hP).mono (sm_new ht))) (.cons ⟨t, rfl, ?_⟩ .nil)
          rw [upd_ne (Ne.symm nrt), upd_same, Int.zero_add]
    · rintro σ H' ⟨o, xs, x3, x4, x5, rfl, ho, nor, hs, hO, hR, hP⟩
      have hA : SqL K H' a (ws.map Stp.v) := hs.seq hS
      have e : (((ws.map Stp.v).length : Int)).toNat = ws.length := by
        rw [List.length_map]
        omega
      rw [e, prAt_all] at hP
      -- return (len(walk), tuple(sorted(pairs)))
      refine ⟨_, rfl, a, _, rfl, .inl hA, _, rfl, r, xs, _, rfl, SqL.of hR, hP, fun ys p hy hperm hp => ?_⟩
      have hlen2 := paired_length hy
      refine ⟨p, ys, rfl, .inl ⟨SqL.of upd_same, fun t ht => ?_⟩⟩
      refine ⟨(by show 2 ≤ sizeLine; decide), fun u hu => ?_⟩
      refine q _ _ (((hs.trans (sm_new hp)).trans (sm_new ht)).trans (sm_new hu)) ⟨u, t, ys, rfl, ?_, ?_, ?_⟩
      · rw [upd_same, List.length_map]
      · rw [upd_ne (ne_of_none upd_same hu), upd_same]
      · exact ((hy.mono (sm_new hp)).mono (sm_new ht)).mono (sm_new hu)
end
end Pg

namespace Pg
open PySem L2
section
variable {P : Program} {w : World} {K : PySem.W.Frag} {mg : Str → Option Value} {base : Heap} {ca : CA}
abbrev s_law_cell_at : Stmt := topS 16
theorem sc_law_cell_at : FnScope ["script", "k"] ["script", "k"] (defScope s_law_cell_at) := ⟨rfl, rfl, rfl, by decide +kernel, rfl, by decide +kernel, by decide +kernel⟩
def cellAt (ns : List Int) (k : Int) : Int := ns.getD k.toNat 0
def sp_law_cell_at (K : PySem.W.Frag) : Sp := fun vs H Q _ => ∃ (a : Addr) (ns : List Int) (k : Int), vs = [.ref a, .int k] ∧ SqL K H a (ns.map V.int) ∧ 0 ≤ k ∧ Q (.int (cellAt ns k)) H
theorem ok_law_cell_at (T : Txt K mg ca) (D : Def K mg "_law_cell_at" ["script", "k"] s_law_cell_at) : Known P w K mg base CX0 1 "_law_cell_at" ["script", "k"] (sp_law_cell_at K) := by
  refine D.known fun f fd F => F.ok sc_law_cell_at (fun vs H Q E h => ?_) (fun cdv A outer s H vs Q E hr h => ?_)
  · obtain ⟨_, _, _, rfl, _⟩ := h
    rfl
  · obtain ⟨a, ns, k, rfl, hS, hk, q⟩ := h
    refine ⟨_, (pss_cons (ps_if (pt_cmpR op_lt (pv 1) (pe_callB (callLen K) (by rfl) T.z_len PySem.boot_len (pa_cons (pv 0) pa_nil)) (nomark _))
      (pss_one (ps_ret (pe_ix (ixL K) (pv 0) (pv 1) (fun _ _ => rfl))))
      pss_nil)
      (pss_one (ps_ret pe_int))), ?_⟩
    refine ⟨_, rfl, _, rfl, a, _, rfl, .inl hS, _, _, rfl, rfl, _, rfl, ?_⟩
    refine ite2 (fun e => ?_) (fun e => ?_)
    · have e1 := of_decide_eq_true e
      rw [List.length_map] at e1
      have g : (ns.map V.int)[k.toNat]? = some (.int (cellAt ns k)) := by
        have hl : k.toNat < ns.length := by omega
        rw [List.getElem?_map, List.getElem?_eq_getElem hl]
        show some (V.int ns[k.toNat]) = _
        rw [cellAt, List.getD_eq_getElem?_getD, List.getElem?_eq_getElem hl]
        rfl
      exact ⟨_, rfl, _, rfl, a, _, k, _, rfl, rfl, hS, at_of (j := k.toNat) (by omega) g, q⟩
    · have e1 : ¬ k < (ns.map V.int).length := fun z => e (decide_eq_true z)
      rw [List.length_map] at e1
      have g : cellAt ns k = 0 := by
        rw [cellAt, List.getD_eq_getElem?_getD, List.getElem?_eq_none (by omega)]
        rfl
      rw [g] at q
      exact q
end
end Pg

namespace Pg
open PySem L2
section
variable {P : Program} {w : World} {K : PySem.W.Frag} {mg : Str → Option Value} {base : Heap} {ca : CA}
abbrev s_law_choice : Stmt := topS 18
theorem sc_law_choice : FnScope ["state", "many", "found", "mixed"] ["state", "many"] (defScope s_law_choice) := ⟨rfl, rfl, rfl, by decide +kernel, rfl, by decide +kernel, by decide +kernel⟩
/-- some number below many, whatever the state; the state is changed -/
def sp_law_choice (K : PySem.W.Frag) : Sp := fun vs H Q _ => ∃ (a : Addr) (c m : Int) (b : Bool), vs = [.ref a, .int m] ∧ H a = some (.lst [.int c, .bl b]) ∧ 0 < m ∧ m < 1000 ∧
  ∀ c' r : Int, 0 ≤ r → r < m → Q (.int r) (upd H a (.lst [.int c', .bl b]))
theorem ok_law_choice (T : Txt K mg ca) (D : Def K mg "_law_choice" ["state", "many"] s_law_choice) : Known P w K mg base CX0 1 "_law_choice" ["state", "many"] (sp_law_choice K) := by
  refine D.known fun f fd F => F.ok sc_law_choice (fun vs H Q E h => ?_) (fun cdv A outer s H vs Q E hr h => ?_)
  · obtain ⟨_, _, _, _, rfl, _⟩ := h
    rfl
  · obtain ⟨a, c, m, b, rfl, hS, h0, h1, q⟩ := h
    have g0 : atI [V.int c, V.bl b] 0 = some (.int c) := atI_nat (j := 0) rfl
    have g1 : atI [V.int c, V.bl b] 1 = some (.bl b) := atI_nat (j := 1) rfl
    have hL : SqL K H a [V.int c, V.bl b] := SqL.of hS
    refine ⟨_, (pss_cons (ps_if (pt_val (pe_ix (ixL K) (pv 0) pe_int (fun _ _ => rfl)))
      (pss_cons (ps_set (i := 2) sc_law_choice.nd rfl (Or.inl rfl) (pe_op op_mod (pe_ix (ixL K) (pv 0) pe_int (fun _ _ => rfl)) (pv 1)))
      (pss_cons (ps_asg (pe_op op_fdiv (pe_ix (ixL K) (pv 0) pe_int (fun _ _ => rfl)) (pv 1)) (pg_sub (pv 0) pe_int set_list))
      (pss_one (ps_ret (pv 2)))))
      pss_nil)
      (pss_cons (ps_asg (pe_op op_mod (pe_op op_add (pe_op op_mul (pe_ix (ixL K) (pv 0) pe_int (fun _ _ => rfl)) pe_int) pe_int) pe_int) (pg_sub (pv 0) pe_int set_list))
      (pss_cons (ps_set (i := 3) sc_law_choice.nd rfl (Or.inl rfl) (pe_op op_mod (pe_op op_add (pe_op op_add (pe_op op_mul (pe_ix (ixL K) (pv 0) pe_int (fun _ _ => rfl)) (pe_ix (ixL K) (pv 0) pe_int (fun _ _ => rfl))) (pe_op op_mul pe_int (pe_ix (ixL K) (pv 0) pe_int (fun _ _ => rfl)))) pe_int) pe_int))
      (pss_one (ps_ret (pe_op op_mod (pe_op op_fdiv (pv 3) pe_int) (pv 1))))))), ?_⟩
    refine ⟨_, rfl, a, _, 1, _, rfl, rfl, hL, g1, _, rfl, ?_⟩
    cases b with
    | true =>
      refine iteT ?_
      refine ⟨_, rfl, a, _, 0, _, rfl, rfl, hL, g0, _, rfl, _, _, rfl, rfl, h0, ?_⟩
      refine ⟨_, rfl, a, _, 0, _, rfl, rfl, hL, g0, _, rfl, _, _, rfl, rfl, ⟨h0, by omega⟩, ?_⟩
      refine ⟨_, rfl, a, _, 0, 0, rfl, rfl, hS, rfl, ?_⟩
      exact ⟨_, rfl, q _ _ (Int.emod_nonneg _ (by omega)) (Int.emod_lt_of_pos _ h0)⟩
    | false =>
      refine iteF ?_
      have k1 : (-(2 ^ 64) : Int) < 48271 ∧ (48271 : Int) < 2 ^ 64 := by decide
      refine ⟨_, rfl, a, _, 0, _, rfl, rfl, hL, g0, _, _, rfl, rfl, .inr k1, _, _, rfl, rfl, _, _, rfl, rfl, (by decide : (0 : Int) < 2147483647), ?_⟩
      refine ⟨_, rfl, a, _, 0, 0, rfl, rfl, hS, rfl, ?_⟩
      have z0 : 0 ≤ (c * 48271 + 29) % 2147483647 := Int.emod_nonneg _ (by decide)
      have z1 : (c * 48271 + 29) % 2147483647 < 2147483647 := Int.emod_lt_of_pos _ (by decide)
      have hL' : SqL K (upd H a (.lst [V.int ((c * 48271 + 29) % 2147483647), V.bl false])) a [V.int ((c * 48271 + 29) % 2147483647), V.bl false] := SqL.of upd_same
      have g0' : atI [V.int ((c * 48271 + 29) % 2147483647), V.bl false] 0 = some (.int ((c * 48271 + 29) % 2147483647)) := atI_nat (j := 0) rfl
      have k2 : (-(2 ^ 64) : Int) < (c * 48271 + 29) % 2147483647 ∧ (c * 48271 + 29) % 2147483647 < 2 ^ 64 := ⟨by omega, by omega⟩
      refine ⟨_, rfl, a, _, 0, _, rfl, rfl, hL', g0', _, rfl, a, _, 0, _, rfl, rfl, hL', g0', _, _, rfl, rfl, .inl k2, ?_⟩
      refine ⟨_, rfl, a, _, 0, _, rfl, rfl, hL', g0', _, _, rfl, rfl, .inr k2, _, _, rfl, rfl, _, _, rfl, rfl, _, _, rfl, rfl, (by decide : (0 : Int) < 2147483629), ?_⟩
      refine ⟨_, rfl, _, _, rfl, rfl, ⟨by decide, by decide⟩, _, rfl, _, _, rfl, rfl, h0, ?_⟩
      exact q _ _ (Int.emod_nonneg _ (by omega)) (Int.emod_lt_of_pos _ h0)
end
end Pg

namespace Pg
open PySem L2
section
variable {P : Program} {w : World} {K : PySem.W.Frag} {mg : Str → Option Value} {base : Heap} {ca : CA}
abbrev s_law_walk : Stmt := topS 19
theorem sc_law_walk : FnScope ["cell", "points", "plain", "state", "walk", "height", "left", "some", "step"] ["cell", "points", "plain"] (defScope s_law_walk) := ⟨rfl, rfl, rfl, by decide +kernel, rfl, by decide +kernel, by decide +kernel⟩
/-- some walk of so many points -/
def sp_law_walk (K : PySem.W.Frag) : Sp := fun vs H Q _ => ∃ (c n : Int) (b : Bool), vs = [.int c, .int n, .bl b] ∧ 0 ≤ n ∧ n ≤ 60 ∧
  ∀ (ws : List Stp) (H' : Hp) (q : Addr), run 0 ws = some 0 → (ws.length : Int) = n → Same H H' → H q = none → H' q = some (.lst (ws.map Stp.v)) → Q (.ref q) H'
theorem ok_law_walk (T : Txt K mg ca) (D : Def K mg "_law_walk" ["cell", "points", "plain"] s_law_walk) (G_law_choice : Known P w K mg base CX0 1 "_law_choice" ["state", "many"] (sp_law_choice K)) : Known P w K mg base CX0 2 "_law_walk" ["cell", "points", "plain"] (sp_law_walk K) := by
  refine D.known fun f fd F => F.ok sc_law_walk (fun vs H Q E h => ?_) (fun cdv A outer s H vs Q E hr h => ?_)
  · obtain ⟨_, _, _, rfl, _⟩ := h
    rfl
  · obtain ⟨c, n, b, rfl, h0, h1, q⟩ := h
    refine ⟨_, (pss_cons (ps_set (i := 3) sc_law_walk.nd rfl (Or.inl rfl) (pe_lst (pa_cons (pv 0) (pa_cons (pv 2) pa_nil))))
      (Evl.pss_cut (ps_if (pt_not (pt_val (pv 2)))
      (pss_one (ps_asg (pe_op op_mod (pv 0) pe_int) (pg_sub (pv 3) pe_int set_list)))
      pss_nil)
      (pss_cons (ps_set (i := 4) sc_law_walk.nd rfl (Or.inl rfl) (pe_lst pa_nil))
      (pss_cons (ps_set (i := 5) sc_law_walk.nd rfl (Or.inl rfl) pe_int)
      (pss_cons (ps_for PassesOwn.never rfl (pi_range3 (by rfl) T.z_range (pa_cons (pe_op op_sub (pv 1) pe_int) (pa_cons (pe_un un_neg pe_int) (pa_cons (pe_un un_neg pe_int) pa_nil)))) (pg_name (i := 6) sc_law_walk.nd rfl (Or.inl rfl))
      (pss_cons (ps_set (i := 7) sc_law_walk.nd rfl (Or.inl rfl) (pe_listRg rfl (by rfl) T.z_list (prg_1 (by rfl) T.z_range (pv 5))))
      (Evl.pss_cut (ps_if (pt_cmpR op_le (pv 5) (pv 6) (nomark _))
      (pss_one (ps_expr (peM K PySem.F.plainAttrs_list PySem.F.slot_list_append PySem.F.type_list_append mt_append (pv 7) (pa_cons pe_str pa_nil))))
      pss_nil)
      (Evl.pss_cut (ps_if (pt_cmpR op_lt (pv 5) (pv 6) (nomark _))
      (pss_one (ps_expr (peM K PySem.F.plainAttrs_list PySem.F.slot_list_append PySem.F.type_list_append mt_append (pv 7) (pa_cons pe_str pa_nil))))
      pss_nil)
      (pss_cons (ps_set (i := 8) sc_law_walk.nd rfl (Or.inl rfl) (pe_ix (ixL K) (pv 7) (pe_kc G_law_choice (hr.mono (by decide)) (by rfl) pass0 (pa_cons (pv 3) (pa_cons (pe_callB (callLen K) (by rfl) T.z_len PySem.boot_len (pa_cons (pv 7) pa_nil)) pa_nil))) (fun _ _ => rfl)))
      (pss_cons (ps_expr (peM K PySem.F.plainAttrs_list PySem.F.slot_list_append PySem.F.type_list_append mt_append (pv 4) (pa_cons (pv 8) pa_nil)))
      (pss_one (ps_if (pt_cmpR op_eq (pv 8) pe_str (nomark _))
      (pss_one (ps_set (i := 5) sc_law_walk.nd rfl (Or.inl rfl) (pe_op op_add (pv 5) pe_int)))
      (pss_one (ps_if (pt_cmpR op_ne (pv 8) pe_str (nomark _))
      (pss_one (ps_set (i := 5) sc_law_walk.nd rfl (Or.inl rfl) (pe_op op_sub (pv 5) pe_int)))
      pss_nil))))))))))
      (pss_one (ps_ret (pv 4)))))))), ?_⟩
    -- state = [cell, plain]
    refine ⟨_, rfl, _, rfl, (by show 2 ≤ sizeLine; decide), fun a ha => ?_⟩
    -- if not plain
    refine ⟨fun σ' H' => ∃ c', σ' = [some (.int c), some (.int n), some (.bl b), some (.ref a), none, none, none, none, none] ∧ H' = upd H a (.lst [.int c', .bl b]), ?_, ?_⟩
    · refine ⟨_, rfl, _, rfl, ?_⟩
      cases b with
      | true => exact iteF ⟨c, rfl, rfl⟩
      | false =>
        refine iteT ?_
        refine ⟨_, rfl, _, _, rfl, rfl, (by decide : (0 : Int) < 2147483647), _, rfl, a, _, 0, 0, rfl, rfl, upd_same, rfl, ?_⟩
        exact ⟨c % 2147483647, rfl, upd_upd⟩
    rintro σ' H' ⟨c1, rfl, rfl⟩
    -- walk = []; height = 0
    refine ⟨Nat.zero_le _, fun w hw => ?_⟩
    have naw : a ≠ w := ne_of_none upd_same hw
    have hwH : H w = none := by
      rw [upd_ne (Ne.symm naw)] at hw
      exact hw
    -- for left in range(points - 1, -1, -1)
    refine ⟨_, rfl, _, _, rfl, rfl, _, rfl, _, rfl, n - 1, -1, -1, (n - 1 - -1).toNat, rfl, RgC.neg (by omega) (by omega) (by decide) (by decide), ?_⟩
    refine for_rangeC (fun i σ H' => ∃ (ws : List Stp) (h : Nat) (c' : Int) (x6 x7 x8 : Option V), σ = [some (.int c), some (.int n), some (.bl b), some (.ref a), some (.ref w), some (.int (h : Int)), x6, x7, x8] ∧ run 0 ws = some h ∧ (h : Int) + i ≤ n ∧ ws.length = i ∧
      Same H H' ∧ H' a = some (.lst [.int c', .bl b]) ∧ H' w = some (.lst (ws.map Stp.v))) ?_ ?_ ?_
    · refine ⟨[], 0, c1, none, none, none, rfl, rfl, by simpa using h0, rfl, ?_, ?_, upd_same⟩
      · exact (sm_new ha).trans (sm_new hw)
      · rw [upd_ne naw, upd_same]
    · rintro i σ H' hi ⟨ws, h, c', x6, x7, x8, rfl, hrun, hle, hlen, hs, hA, hW⟩
      have hi' : (i : Int) < n := by omega
      -- some = list(range(height))
      refine ⟨_, rfl, _, rfl, ⟨by decide, by decide, by omega, by omega, by omega⟩, fun o ho => ?_⟩
      have nao : a ≠ o := ne_of_none hA ho
      have nwo : w ≠ o := ne_of_none hW ho
      let opts : List Stp := (List.range h).map Stp.num ++ ((if (h : Int) ≤ n - 1 + i * -1 then [.lone] else []) ++ (if (h : Int) < n - 1 + i * -1 then [.opn] else []))
      refine ⟨fun σ' H2 => σ' = [some (.int c), some (.int n), some (.bl b), some (.ref a), some (.ref w), some (.int (h : Int)), some (.int (n - 1 + i * -1)), some (.ref o), x8] ∧
        H2 = upd H' o (.lst (((List.range h).map Stp.num ++ (if (h : Int) ≤ n - 1 + i * -1 then [Stp.lone] else [])).map Stp.v)), ?_, ?_⟩
      · have e0 : rgV 0 (h : Int) = ((List.range h).map Stp.num).map Stp.v := by
          unfold rgV
          rw [List.map_map]
          have : ((h : Int) - 0).toNat = h := by omega
          rw [this]
          refine List.map_congr_left fun j _ => ?_
          show V.int (0 + (j : Int)) = V.int (j : Int)
          rw [Int.zero_add]
        refine ⟨_, rfl, _, rfl, _, _, rfl, rfl, _, rfl, ite2 (fun e => ?_) (fun e => ?_)⟩
        · have e1 := of_decide_eq_true e
          refine ⟨_, rfl, .inl ⟨rfl, _, SqL.of upd_same⟩, o, _, _, rfl, rfl, upd_same, szl (by rw [rgV_length]; omega), rfl, ?_⟩
          rw [upd_upd, if_pos e1, List.map_append, ← e0]
          rfl
        · have e1 : ¬ (h : Int) ≤ n - 1 + i * -1 := fun z => e (decide_eq_true z)
          refine ⟨rfl, ?_⟩
          rw [if_neg e1, List.append_nil, ← e0]
      rintro σ' H2 ⟨rfl, rfl⟩
      refine ⟨fun σ' H2 => σ' = [some (.int c), some (.int n), some (.bl b), some (.ref a), some (.ref w), some (.int (h : Int)), some (.int (n - 1 + i * -1)), some (.ref o), x8] ∧
        H2 = upd H' o (.lst (opts.map Stp.v)), ?_, ?_⟩
      · refine ⟨_, rfl, _, rfl, _, _, rfl, rfl, _, rfl, ite2 (fun e => ?_) (fun e => ?_)⟩
        · have e1 := of_decide_eq_true e
          refine ⟨_, rfl, .inl ⟨rfl, _, SqL.of upd_same⟩, o, _, _, rfl, rfl, upd_same, szl ?_, rfl, ?_⟩
          · rw [List.length_map, List.length_append, List.length_map, List.length_range]
            split <;> simp <;> omega
          · rw [upd_upd]
            show _ = upd H' o (.lst (List.map Stp.v ((List.range h).map Stp.num ++ (_ ++ _))))
            rw [if_pos e1, ← List.append_assoc, List.map_append (l₂ := [Stp.opn])]
            rfl
        · have e1 : ¬ (h : Int) < n - 1 + i * -1 := fun z => e (decide_eq_true z)
          refine ⟨rfl, ?_⟩
          show _ = upd H' o (.lst (List.map Stp.v ((List.range h).map Stp.num ++ (_ ++ _))))
          rw [if_neg e1, List.append_nil]
      rintro σ' H2 ⟨rfl, rfl⟩
      have hno : 0 < opts.length := by
        show 0 < ((List.range h).map Stp.num ++ (_ ++ _)).length
        by_cases z : h = 0
        · rw [if_pos (by omega)]
          simp
          omega
        · rw [List.length_append, List.length_map, List.length_range]
          omega
      have hno2 : opts.length ≤ 62 := by
        show ((List.range h).map Stp.num ++ (_ ++ _)).length ≤ 62
        rw [List.length_append, List.length_map, List.length_range, List.length_append]
        split <;> split <;> simp <;> omega
      -- step = some[_law_choice(state, len(some))]
      refine ⟨_, rfl, _, rfl, _, rfl, o, _, rfl, .inl (SqL.of upd_same), a, c', _, b, rfl, by rw [upd_ne nao]; exact hA, ?_, ?_, fun c2 r hr0 hr1 => ?_⟩
      · rw [List.length_map]; omega
      · rw [List.length_map]; omega
      rw [List.length_map] at hr1
      have hr2 : r.toNat < opts.length := by omega
      have hat : (opts.map Stp.v)[r.toNat]? = some (opts[r.toNat]).v := by rw [List.getElem?_map, List.getElem?_eq_getElem hr2]; rfl
      have ho2 : (upd (upd H' o (.lst (opts.map Stp.v))) a (.lst [.int c2, .bl b])) o = some (.lst (opts.map Stp.v)) := by rw [upd_ne (Ne.symm nao), upd_same]
      refine ⟨o, _, r, _, rfl, rfl, SqL.of ho2, at_of (j := r.toNat) (by omega) hat, ?_⟩
      have hW2 : (upd (upd H' o (.lst (opts.map Stp.v))) a (.lst [.int c2, .bl b])) w = some (.lst (ws.map Stp.v)) := by rw [upd_ne (Ne.symm naw), upd_ne nwo]; exact hW
      -- walk.append(step)
      refine ⟨_, rfl, .inl ⟨rfl, _, SqL.of hW2⟩, _, rfl, w, _, _, rfl, rfl, hW2, szl (by rw [List.length_map, hlen]; omega), ?_⟩
      have hmem : opts[r.toNat] ∈ opts := List.getElem_mem hr2
      have fin : ∀ (h2 : Nat) x6 x7 x8, run 0 (ws ++ [opts[r.toNat]]) = some h2 → (h2 : Int) + ((i + 1 : Nat) : Int) ≤ n → ∃ (ws2 : List Stp) (h : Nat) (c' : Int) (y6 y7 y8 : Option V), [some (V.int c), some (.int n), some (.bl b), some (.ref a), some (.ref w), some (.int (h2 : Int)), x6, x7, x8] =
          [some (V.int c), some (.int n), some (.bl b), some (.ref a), some (.ref w), some (.int (h : Int)), y6, y7, y8] ∧ run 0 ws2 = some h ∧ (h : Int) + ((i + 1 : Nat) : Int) ≤ n ∧ ws2.length = i + 1 ∧
          Same H (upd (upd (upd H' o (.lst (opts.map Stp.v))) a (.lst [.int c2, .bl b])) w (.lst (ws.map Stp.v ++ [(opts[r.toNat]).v]))) ∧
          (upd (upd (upd H' o (.lst (opts.map Stp.v))) a (.lst [.int c2, .bl b])) w (.lst (ws.map Stp.v ++ [(opts[r.toNat]).v]))) a = some (.lst [.int c', .bl b]) ∧
          (upd (upd (upd H' o (.lst (opts.map Stp.v))) a (.lst [.int c2, .bl b])) w (.lst (ws.map Stp.v ++ [(opts[r.toNat]).v]))) w = some (.lst (ws2.map Stp.v)) := fun h2 x6 x7 x8 r1 r2 =>
        ⟨ws ++ [opts[r.toNat]], h2, c2, x6, x7, x8, rfl, r1, r2, by rw [List.length_append, hlen]; rfl, sm_mut (sm_mut (hs.trans (sm_new ho)) ha) hwH, by rw [upd_ne naw, upd_same], by rw [upd_same, List.map_append]; rfl⟩
      revert fin
      generalize opts[r.toNat] = st at hmem ⊢
      intro fin
      cases st with
      | lone =>
        refine ⟨_, rfl, rfl, _, rfl, iteF ?_⟩
        refine ⟨_, rfl, rfl, _, rfl, iteF ?_⟩
        have hc : (h : Int) ≤ n - 1 + i * -1 := by
          rcases List.mem_append.mp hmem with m | m
          · obtain ⟨_, _, z⟩ := List.mem_map.mp m
            cases z
          · by_cases z : (h : Int) ≤ n - 1 + i * -1
            · exact z
            · rw [if_neg z, if_neg (by omega)] at m
              cases m
        exact fin h _ _ _ (run_lone hrun) (by omega)
      | opn =>
        refine ⟨_, rfl, rfl, _, rfl, iteT ?_⟩
        have hc : (h : Int) < n - 1 + i * -1 := by
          rcases List.mem_append.mp hmem with m | m
          · obtain ⟨_, _, z⟩ := List.mem_map.mp m
            cases z
          · by_cases z : (h : Int) < n - 1 + i * -1
            · exact z
            · rw [if_neg z] at m
              split at m <;> simp at m
        refine ⟨_, rfl, _, _, rfl, rfl, ?_⟩
        exact fin (h + 1) _ _ _ (run_opn hrun) (by omega)
      | num k =>
        refine ⟨_, rfl, rfl, _, rfl, iteF ?_⟩
        refine ⟨_, rfl, rfl, _, rfl, iteT ?_⟩
        have hk : k < h := by
          rcases List.mem_append.mp hmem with m | m
          · obtain ⟨j, hj, z⟩ := List.mem_map.mp m
            cases z
            exact List.mem_range.mp hj
          · exfalso
            split at m <;> split at m <;> simp at m
        refine ⟨_, rfl, _, _, rfl, rfl, ?_⟩
        have e : (h : Int) - 1 = ((h - 1 : Nat) : Int) := by omega
        have g := fin (h - 1) (some (.int (n - 1 + i * -1))) (some (.ref o)) (some (.int (k : Int))) (run_num hrun hk) (by omega)
        rw [← e] at g
        exact g
    · rintro σ H' ⟨ws, h, c', x6, x7, x8, rfl, hrun, hle, hlen, hs, hA, hW⟩
      have hz : h = 0 := by omega
      subst hz
      exact ⟨_, rfl, q ws H' w hrun (by omega) hs hwH hW⟩
end
end Pg

namespace Pg
open PySem L2
section
variable {P : Program} {w : World} {K : PySem.W.Frag} {mg : Str → Option Value} {base : Heap} {ca : CA}
abbrev s_law_points : Stmt := topS 21
theorem sc_law_points : FnScope ["cell", "most"] ["cell", "most"] (defScope s_law_points) := ⟨rfl, rfl, rfl, by decide +kernel, rfl, by decide +kernel, by decide +kernel⟩
def sp_law_points (K : PySem.W.Frag) : Sp := fun vs H Q _ => ∃ (c m : Int), vs = [.int c, .int m] ∧ 0 ≤ m ∧ m ≤ 60 ∧ ∀ n : Int, 0 ≤ n → n ≤ 60 → Q (.int n) H
theorem ok_law_points (T : Txt K mg ca) (D : Def K mg "_law_points" ["cell", "most"] s_law_points) : Known P w K mg base CX0 1 "_law_points" ["cell", "most"] (sp_law_points K) := by
  refine D.known fun f fd F => F.ok sc_law_points (fun vs H Q E h => ?_) (fun cdv A outer s H vs Q E hr h => ?_)
  · obtain ⟨_, _, rfl, _⟩ := h
    rfl
  · obtain ⟨c, m, rfl, h0, h1, q⟩ := h
    refine ⟨_, (pss_cons (ps_if (pt_cmpR op_eq (pe_op op_mod (pe_op op_fdiv (pv 0) pe_int) pe_int) pe_int (nomark _))
      (pss_one (ps_ret (pe_op op_mod (pe_op op_fdiv (pv 0) pe_int) pe_int)))
      pss_nil)
      (pss_one (ps_ret (pe_op op_mod (pv 0) (pe_op op_add (pv 1) pe_int))))), ?_⟩
    refine ⟨_, rfl, _, _, rfl, rfl, ⟨by decide, by decide⟩, _, _, rfl, rfl, (by decide : (0 : Int) < 8), rfl, _, rfl, ite2 (fun _ => ?_) (fun _ => ?_)⟩
    · refine ⟨_, rfl, _, _, rfl, rfl, ⟨by decide, by decide⟩, _, _, rfl, rfl, (by decide : (0 : Int) < 61), ?_⟩
      have a1 := Int.emod_nonneg (c / 512) (by decide : (61 : Int) ≠ 0)
      have a2 := Int.emod_lt_of_pos (c / 512) (by decide : (0 : Int) < 61)
      exact q _ a1 (by omega)
    · have hm : (0 : Int) < m + 1 := by omega
      refine ⟨_, rfl, _, rfl, _, _, rfl, rfl, _, _, rfl, rfl, hm, ?_⟩
      have a1 := Int.emod_nonneg c (by omega : (m + 1 : Int) ≠ 0)
      have a2 := Int.emod_lt_of_pos c hm
      exact q _ a1 (by omega)
end
end Pg

namespace Pg
open PySem L2
section
variable {P : Program} {w : World} {K : PySem.W.Frag} {mg : Str → Option Value} {base : Heap} {ca : CA}
abbrev s_law_drawn : Stmt := topS 22
theorem sc_law_drawn : FnScope ["script", "start", "most", "cell"] ["script", "start", "most"] (defScope s_law_drawn) := ⟨rfl, rfl, rfl, by decide +kernel, rfl, by decide +kernel, by decide +kernel⟩
/-- some walk -/
def sp_law_drawn (K : PySem.W.Frag) : Sp := fun vs H Q _ => ∃ (a : Addr) (ns : List Int) (k m : Int), vs = [.ref a, .int k, .int m] ∧ SqL K H a (ns.map V.int) ∧ 0 ≤ k ∧ 0 ≤ m ∧ m ≤ 60 ∧
  ∀ (ws : List Stp) (H' : Hp) (q : Addr), run 0 ws = some 0 → ws.length ≤ 60 → Same H H' → H q = none → H' q = some (.lst (ws.map Stp.v)) → Q (.ref q) H'
theorem ok_law_drawn (T : Txt K mg ca) (D : Def K mg "_law_drawn" ["script", "start", "most"] s_law_drawn) (G_law_cell_at : Known P w K mg base CX0 1 "_law_cell_at" ["script", "k"] (sp_law_cell_at K)) (G_law_walk : Known P w K mg base CX0 2 "_law_walk" ["cell", "points", "plain"] (sp_law_walk K)) (G_law_points : Known P w K mg base CX0 1 "_law_points" ["cell", "most"] (sp_law_points K)) : Known P w K mg base CX0 3 "_law_drawn" ["script", "start", "most"] (sp_law_drawn K) := by
  refine D.known fun f fd F => F.ok sc_law_drawn (fun vs H Q E h => ?_) (fun cdv A outer s H vs Q E hr h => ?_)
  · obtain ⟨_, _, _, _, rfl, _⟩ := h
    rfl
  · obtain ⟨a, ns, k, m, rfl, hS, hk, h0, h1, q⟩ := h
    refine ⟨_, (pss_cons (ps_set (i := 3) sc_law_drawn.nd rfl (Or.inl rfl) (pe_kc G_law_cell_at (hr.mono (by decide)) (by rfl) pass0 (pa_cons (pv 0) (pa_cons (pv 1) pa_nil))))
      (pss_one (ps_ret (pe_kc G_law_walk (hr.mono (by decide)) (by rfl) pass0 (pa_cons (pe_kc G_law_cell_at (hr.mono (by decide)) (by rfl) pass0 (pa_cons (pv 0) (pa_cons (pe_op op_add (pv 1) pe_int) pa_nil))) (pa_cons (pe_kc G_law_points (hr.mono (by decide)) (by rfl) pass0 (pa_cons (pv 3) (pa_cons (pv 2) pa_nil))) (pa_cons (pe_cmpR op_eq (pe_op op_mod (pe_op op_fdiv (pv 3) pe_int) pe_int) pe_int (nomark _)) pa_nil))))))), ?_⟩
    refine ⟨_, rfl, _, rfl, a, ns, k, rfl, hS, hk, ?_⟩
    refine ⟨_, rfl, _, rfl, _, _, rfl, rfl, a, ns, k + 1, rfl, hS, by omega, ?_⟩
    refine ⟨_, rfl, _, rfl, _, m, rfl, h0, h1, fun n n0 n1 => ?_⟩
    refine ⟨_, rfl, _, _, rfl, rfl, ⟨by decide, by decide⟩, _, _, rfl, rfl, (by decide : (0 : Int) < 2), rfl, ?_⟩
    exact ⟨_, n, _, rfl, n0, n1, fun ws H' p r1 r2 r3 r4 r5 => q ws H' p r1 (by omega) r3 r4 r5⟩
end
end Pg

namespace Pg
open PySem L2
section
variable {P : Program} {w : World} {K : PySem.W.Frag} {mg : Str → Option Value} {base : Heap} {ca : CA}
abbrev s_law_odd : Stmt := topS 27
theorem sc_law_odd : FnScope ["cell", "some"] ["cell"] (defScope s_law_odd) := ⟨rfl, rfl, rfl, by decide +kernel, rfl, by decide +kernel, by decide +kernel⟩
def oddA : List Str := [Str.ofString "", Str.ofString ":", Str.ofString "0:", Str.ofString "0", Str.ofString "61:", Str.ofString "60:", Str.ofString "00:", Str.ofString "03:", Str.ofString "-1:", Str.ofString "2:0-1", Str.ofString "2: 0-1", Str.ofString "2: 0-1 "]
def oddB : List Str := [Str.ofString " 2: 0-1", Str.ofString "2:  0-1", Str.ofString "2: 1-0", Str.ofString "2: 0-0", Str.ofString "2: 0-2", Str.ofString "2 : 0-1", Str.ofString "2: 0 1", Str.ofString "2: 0-1-1"]
def oddC : List Str := [Str.ofString "2: 0--1", Str.ofString "2: -0-1", Str.ofString "4: 2-3 0-1", Str.ofString "4: 0-1 1-2", Str.ofString "4: 0-1 0-1", Str.ofString "4: 00-1", Str.ofString "4: 0-01"]
def oddD : List Str := [Str.ofString "4: +0-1", Str.ofString "4: 0-1_", Str.ofString "4:\t0-1", Str.ofString "4: 0-1\n", Str.ofString "1: :"]
def oddL : List Str := ((oddA ++ oddB) ++ oddC) ++ oddD
theorem oddL_small : oddL.length = 32 ∧ ∀ t ∈ oddL, t.length ≤ 40 := by decide +kernel
/-- some short text -/
def sp_law_odd (K : PySem.W.Frag) : Sp := fun vs H Q _ => ∃ (c : Int), vs = [.int c] ∧ ∀ (t : Str) (H' : Hp), Same H H' → t.length ≤ 40 → Q (.str t) H'
theorem ok_law_odd (T : Txt K mg ca) (D : Def K mg "_law_odd" ["cell"] s_law_odd) : Known P w K mg base CX0 1 "_law_odd" ["cell"] (sp_law_odd K) := by
  refine D.known fun f fd F => F.ok sc_law_odd (fun vs H Q E h => ?_) (fun cdv A outer s H vs Q E hr h => ?_)
  · obtain ⟨_, rfl, _⟩ := h
    rfl
  · obtain ⟨c, rfl, q⟩ := h
    refine ⟨_, (pss_cons (ps_set (i := 1) sc_law_odd.nd rfl (Or.inl rfl) (pe_lst (pa_cons pe_str (pa_cons pe_str (pa_cons pe_str (pa_cons pe_str (pa_cons pe_str (pa_cons pe_str (pa_cons pe_str (pa_cons pe_str (pa_cons pe_str (pa_cons pe_str (pa_cons pe_str (pa_cons pe_str pa_nil))))))))))))))
      (pss_cons (ps_set (i := 1) sc_law_odd.nd rfl (Or.inl rfl) (pe_op op_cat (pv 1) (pe_lst (pa_cons pe_str (pa_cons pe_str (pa_cons pe_str (pa_cons pe_str (pa_cons pe_str (pa_cons pe_str (pa_cons pe_str (pa_cons pe_str pa_nil)))))))))))
      (pss_cons (ps_set (i := 1) sc_law_odd.nd rfl (Or.inl rfl) (pe_op op_cat (pv 1) (pe_lst (pa_cons pe_str (pa_cons pe_str (pa_cons pe_str (pa_cons pe_str (pa_cons pe_str (pa_cons pe_str (pa_cons pe_str pa_nil))))))))))
      (pss_cons (ps_set (i := 1) sc_law_odd.nd rfl (Or.inl rfl) (pe_op op_cat (pv 1) (pe_lst (pa_cons pe_str (pa_cons pe_str (pa_cons pe_str (pa_cons pe_str (pa_cons pe_str pa_nil))))))))
      (pss_one (ps_ret (pe_ix (ixL K) (pv 1) (pe_op op_mod (pv 0) (pe_callB (callLen K) (by rfl) T.z_len PySem.boot_len (pa_cons (pv 1) pa_nil))) (fun _ _ => rfl)))))))), ?_⟩
    refine ⟨by show 12 ≤ sizeLine; decide, fun l1 h1 => ?_⟩
    show gName 1 (V.ref l1) _ (upd H l1 (.lst (oddA.map V.str))) _
    have e1 : (upd H l1 (.lst (oddA.map V.str))) l1 = some (.lst (oddA.map V.str)) := upd_same
    have s1 := sm_new (o := .lst (oddA.map V.str)) h1
    generalize upd H l1 (.lst (oddA.map V.str)) = H1 at *
    -- the second row
    refine ⟨_, rfl, by show 8 ≤ sizeLine; decide, fun m2 k2 => ?_⟩
    have n2 := ne_of_none e1 k2
    refine ⟨l1, m2, oddA.map V.str, oddB.map V.str, rfl, rfl, by rw [upd_ne n2]; exact e1, upd_same, by show 20 ≤ sizeLine; decide, fun l2 h2 => ?_⟩
    rw [← List.map_append]
    show gName 1 (V.ref l2) _ (upd (upd H1 m2 (.lst (oddB.map V.str))) l2 (.lst ((oddA ++ oddB).map V.str))) _
    have e2 : (upd (upd H1 m2 (.lst (oddB.map V.str))) l2 (.lst ((oddA ++ oddB).map V.str))) l2 = some (.lst ((oddA ++ oddB).map V.str)) := upd_same
    have s2 := (s1.trans (sm_new (o := .lst (oddB.map V.str)) k2)).trans (sm_new (o := .lst ((oddA ++ oddB).map V.str)) h2)
    generalize hH2 : upd (upd H1 m2 (.lst (oddB.map V.str))) l2 (.lst ((oddA ++ oddB).map V.str)) = H2 at *
    -- the third
    refine ⟨_, rfl, by show 7 ≤ sizeLine; decide, fun m3 k3 => ?_⟩
    have n3 := ne_of_none e2 k3
    refine ⟨l2, m3, (oddA ++ oddB).map V.str, oddC.map V.str, rfl, rfl, by rw [upd_ne n3]; exact e2, upd_same, by show 27 ≤ sizeLine; decide, fun l3 h3 => ?_⟩
    rw [← List.map_append]
    show gName 1 (V.ref l3) _ (upd (upd H2 m3 (.lst (oddC.map V.str))) l3 (.lst ((oddA ++ oddB ++ oddC).map V.str))) _
    have e3 : (upd (upd H2 m3 (.lst (oddC.map V.str))) l3 (.lst ((oddA ++ oddB ++ oddC).map V.str))) l3 = some (.lst ((oddA ++ oddB ++ oddC).map V.str)) := upd_same
    have s3 := (s2.trans (sm_new (o := .lst (oddC.map V.str)) k3)).trans (sm_new (o := .lst ((oddA ++ oddB ++ oddC).map V.str)) h3)
    generalize hH3 : upd (upd H2 m3 (.lst (oddC.map V.str))) l3 (.lst ((oddA ++ oddB ++ oddC).map V.str)) = H3 at *
    -- the fourth
    refine ⟨_, rfl, by show 5 ≤ sizeLine; decide, fun m4 k4 => ?_⟩
    have n4 := ne_of_none e3 k4
    refine ⟨l3, m4, (oddA ++ oddB ++ oddC).map V.str, oddD.map V.str, rfl, rfl, by rw [upd_ne n4]; exact e3, upd_same, by show 32 ≤ sizeLine; decide, fun l4 h4 => ?_⟩
    rw [← List.map_append]
    have e4 : (upd (upd H3 m4 (.lst (oddD.map V.str))) l4 (.lst (oddL.map V.str))) l4 = some (.lst (oddL.map V.str)) := upd_same
    have s4 := (s3.trans (sm_new (o := .lst (oddD.map V.str)) k4)).trans (sm_new (o := .lst (oddL.map V.str)) h4)
    -- some[cell % len(some)]
    obtain ⟨o1, o2⟩ := oddL_small
    have hj : ∃ j : Nat, c % 32 = (j : Int) ∧ j < oddL.length := ⟨(c % 32).toNat, by omega, by rw [o1]; omega⟩
    obtain ⟨j, hj, hjl⟩ := hj
    refine ⟨_, rfl, _, rfl, _, rfl, l4, _, rfl, .inl (SqL.of e4), _, _, rfl, rfl, by show (0 : Int) < 32; decide, ?_⟩
    refine ⟨l4, _, _, .str oddL[j], rfl, rfl, SqL.of e4, ?_, q _ _ s4 (o2 _ (List.getElem_mem hjl))⟩
    show atI (oddL.map V.str) (c % 32) = _
    rw [hj]
    refine atI_nat ?_
    rw [List.getElem?_map, List.getElem?_eq_getElem hjl]
    rfl
end
end Pg

namespace Pg
open PySem L2
section
variable {P : Program} {w : World} {K : PySem.W.Frag} {mg : Str → Option Value} {base : Heap} {ca : CA}
abbrev s_law_spoiled : Stmt := topS 29
theorem sc_law_spoiled : FnScope ["text", "cell", "at", "sign", "way"] ["text", "cell"] (defScope s_law_spoiled) := ⟨rfl, rfl, rfl, by decide +kernel, rfl, by decide +kernel, by decide +kernel⟩
/-- some text that is not much longer -/
def sp_law_spoiled (K : PySem.W.Frag) : Sp := fun vs H Q _ => ∃ (t : Str) (c : Int), vs = [.str t, .int c] ∧ t.length ≤ 400 ∧ ∀ (u : Str) (H' : Hp), Same H H' → u.length ≤ 900 → Q (.str u) H'
theorem signs_small : (Str.ofString "0123456789 -:,+_ ").length = 17 := by decide +kernel
theorem ok_law_spoiled (T : Txt K mg ca) (D : Def K mg "_law_spoiled" ["text", "cell"] s_law_spoiled) (G_law_odd : Known P w K mg base CX0 1 "_law_odd" ["cell"] (sp_law_odd K)) : Known P w K mg base CX0 2 "_law_spoiled" ["text", "cell"] (sp_law_spoiled K) := by
  refine D.known fun f fd F => F.ok sc_law_spoiled (fun vs H Q E h => ?_) (fun cdv A outer s H vs Q E hr h => ?_)
  · obtain ⟨_, _, rfl, _⟩ := h
    rfl
  · obtain ⟨t, c, rfl, hl, q⟩ := h
    refine ⟨_, (pss_cons (ps_set (i := 2) sc_law_spoiled.nd rfl (Or.inl rfl) (pe_op op_mod (pe_op op_fdiv (pv 1) pe_int) (pe_op op_add (pe_callB call_len_str (by rfl) T.z_len PySem.boot_len (pa_cons (pv 0) pa_nil)) pe_int)))
      (pss_cons (ps_set (i := 3) sc_law_spoiled.nd rfl (Or.inl rfl) (pe_ix ix_str pe_str (pe_op op_mod (pe_op op_fdiv (pv 1) pe_int) pe_int) (fun _ _ => rfl)))
      (pss_cons (ps_set (i := 4) sc_law_spoiled.nd rfl (Or.inl rfl) (pe_op op_mod (pv 1) pe_int))
      (pss_cons (ps_if (pt_cmpR op_lt (pv 4) pe_int (nomark _))
      (pss_one (ps_ret (pe_op op_add_str (pe_op op_add_str (pe_slice sl_str (pv 0) po_none (po_some (pv 2))) (pv 3)) (pe_slice sl_str (pv 0) (po_some (pv 2)) po_none))))
      pss_nil)
      (pss_cons (ps_if (pt_cmpR op_eq (pv 4) pe_int (nomark _))
      (pss_one (ps_ret (pe_op op_add_str (pe_op op_add_str (pe_slice sl_str (pv 0) po_none (po_some (pv 2))) (pv 3)) (pe_slice sl_str (pv 0) (po_some (pe_op op_add (pv 2) pe_int)) po_none))))
      pss_nil)
      (pss_cons (ps_if (pt_cmpR op_eq (pv 4) pe_int (nomark _))
      (pss_one (ps_ret (pe_op op_add_str (pe_slice sl_str (pv 0) po_none (po_some (pv 2))) (pe_slice sl_str (pv 0) (po_some (pe_op op_add (pv 2) pe_int)) po_none))))
      pss_nil)
      (pss_one (ps_ret (pe_kc G_law_odd (hr.mono (by decide)) (by rfl) pass0 (pa_cons (pe_op op_fdiv (pv 1) pe_int) pa_nil)))))))))), ?_⟩
    have szt : t.length ≤ sizeLine := by
      have := sz (n := t.length) (by omega)
      exact this
    have lp : (0 : Int) < ((t.length : Nat) : Int) + 1 := by omega
    -- at
    refine ⟨_, rfl, _, _, rfl, rfl, ⟨by decide, by decide⟩, _, rfl, t, rfl, szt, _, _, rfl, rfl, _, _, rfl, rfl, lp, ?_⟩
    -- sign
    have lw : (TL.tl (Str.ofString "0123456789 -:,+_ ")).length = 17 := by
      have := signs_small
      rw [TL.len_tl] at this
      exact this
    have hj : ∃ j : Nat, c / 2000 % 17 = (j : Int) ∧ j < 17 := ⟨(c / 2000 % 17).toNat, by omega, by omega⟩
    obtain ⟨j, hj, hjl⟩ := hj
    obtain ⟨d, hd⟩ : ∃ d, (TL.tl (Str.ofString "0123456789 -:,+_ "))[j]? = some d := ⟨_, List.getElem?_eq_getElem (by omega)⟩
    refine ⟨_, rfl, _, _, rfl, rfl, ⟨by decide, by decide⟩, _, _, rfl, rfl, (by decide : (0 : Int) < 17), _, _, d, rfl, rfl, (by rw [signs_small]; decide), ?_, ?_⟩
    · rw [hj]
      exact atI_nat hd
    -- way
    refine ⟨_, rfl, _, _, rfl, rfl, (by decide : (0 : Int) < 5), ?_⟩
    have addl : ∀ x y : Str, (x ++ y).length = x.length + y.length := fun x y => by rw [TL.len_tl, TL.len_tl, TL.len_tl, TL.tl_append, List.length_append]
    have cl := cutS_length t
    have l1 : (⟨#[d]⟩ : Str).length = 1 := rfl
    have m1 := cl none (some (c / 5 % (((t.length : Nat) : Int) + 1)))
    have m2 := cl (some (c / 5 % (((t.length : Nat) : Int) + 1))) none
    have m3 := cl (some (c / 5 % (((t.length : Nat) : Int) + 1) + 1)) none
    refine ⟨_, rfl, _, _, rfl, rfl, _, rfl, ite2 (fun _ => ?_) (fun _ => ?_)⟩
    · refine ⟨_, rfl, _, rfl, _, rfl, t, rfl, szt, _, rfl, _, _, rfl, rfl, sz (by rw [l1]; omega), ?_⟩
      refine ⟨_, rfl, _, rfl, _, rfl, t, rfl, szt, _, _, rfl, rfl, sz (by rw [addl, l1]; omega), ?_⟩
      exact q _ _ (Same.refl _) (by rw [addl, addl, l1]; omega)
    refine ⟨_, rfl, rfl, _, rfl, ite2 (fun _ => ?_) (fun _ => ?_)⟩
    · refine ⟨_, rfl, _, rfl, _, rfl, t, rfl, szt, _, rfl, _, _, rfl, rfl, sz (by rw [l1]; omega), ?_⟩
      refine ⟨_, rfl, _, rfl, _, _, rfl, rfl, _, rfl, t, rfl, szt, _, _, rfl, rfl, sz (by rw [addl, l1]; omega), ?_⟩
      exact q _ _ (Same.refl _) (by rw [addl, addl, l1]; omega)
    refine ⟨_, rfl, rfl, _, rfl, ite2 (fun _ => ?_) (fun _ => ?_)⟩
    · refine ⟨_, rfl, _, rfl, _, rfl, t, rfl, szt, ?_⟩
      refine ⟨_, rfl, _, rfl, _, _, rfl, rfl, _, rfl, t, rfl, szt, _, _, rfl, rfl, sz (by omega), ?_⟩
      exact q _ _ (Same.refl _) (by rw [addl]; omega)
    · exact ⟨_, rfl, _, _, rfl, rfl, ⟨by decide, by decide⟩, _, rfl, fun u H' s' hu => q u H' s' (by omega)⟩
end
end Pg

namespace Pg
open PySem L2
section
variable {P : Program} {w : World} {K : PySem.W.Frag} {mg : Str → Option Value} {base : Heap} {ca : CA}
abbrev s_law_number : Stmt := topS 25
theorem sc_law_number : FnScope ["word", "sign"] ["word"] (defScope s_law_number) := ⟨rfl, rfl, rfl, by decide +kernel, rfl, by decide +kernel, by decide +kernel⟩
/-- the number that a word writes, or -1 -/
def sp_law_number (K : PySem.W.Frag) : Sp := fun vs H Q _ => ∃ (w : Str), vs = [.str w] ∧ w.length ≤ 1000 ∧ ∀ H', Same H H' → Q (.int (numI (TL.tl w))) H'
theorem ok_law_number (T : Txt K mg ca) (D : Def K mg "_law_number" ["word"] s_law_number) : Known P w K mg base CX0 1 "_law_number" ["word"] (sp_law_number K) := by
  refine D.known fun f fd F => F.ok sc_law_number (fun vs H Q E h => ?_) (fun cdv A outer s H vs Q E hr h => ?_)
  · obtain ⟨_, rfl, _⟩ := h
    rfl
  · obtain ⟨w, rfl, hl, q⟩ := h
    have hwl : w.length = (TL.tl w).length := TL.len_tl w
    have kn : (∀ n, numW (TL.tl w) ≠ some n) → ∀ H', Same H H' → Q (.int (-1)) H' := fun h H' s => by
      have e : numW (TL.tl w) = none := by
        cases e : numW (TL.tl w) with
        | none => rfl
        | some n => exact absurd e (h n)
      have := q H' s
      rw [numI_none e] at this
      exact this
    refine ⟨_, (Evl.pss_cut (ps_if (PW.pt (pw_or (pt_not (pt_chain op_le op_le pe_int (pe_callB call_len_str (by rfl) T.z_len PySem.boot_len (pa_cons (pv 0) pa_nil)) pe_int)) (pw_or1 (PW.pt (pw_and (pt_cmpR op_eq (pe_callB call_len_str (by rfl) T.z_len PySem.boot_len (pa_cons (pv 0) pa_nil)) pe_int (nomark _)) (pw_and1 (pt_cmpR op_eq (pe_ix ix_str (pv 0) pe_int (fun _ _ => rfl)) pe_str (nomark _))))))))
      (pss_one (ps_ret (pe_un un_neg pe_int)))
      pss_nil)
      (pss_cons (ps_if (pt_cmpR op_gt (pe_callB (callLen K) (by rfl) T.z_len PySem.boot_len (pa_cons (pe_lc (own := [("sign", 1)]) (g := gName 1) (tt := _) rfl sc_law_number.nd (pi_str (pv 0)) (blkOk_by (N := ["word", "sign"]) (sc := defScope s_law_number) (by decide +kernel)) (fun _ _ _ _ _ => (pg_name (i := 1) sc_law_number.nd rfl (Or.inl rfl))) (fun _ _ _ _ _ => (pts_one (pt_cmpR op_notIn_sign (pv 1) pe_str rfl))) (fun _ _ _ _ _ => (pv 1))) pa_nil)) pe_int (nomark _))
      (pss_one (ps_ret (pe_un un_neg pe_int)))
      pss_nil)
      (pss_one (ps_ret (pe_callTy call_int_str (by rfl) T.z_int (by decide +kernel) (pa_cons (pv 0) pa_nil)))))), ?_⟩
    have szw : w.length ≤ sizeLine := by
      have := sz (n := w.length) (by omega)
      exact this
    refine ⟨fun σ' H' => σ' = [some (.str w), none] ∧ H' = H ∧ ((∃ c, TL.tl w = [c]) ∨ ∃ c d, TL.tl w = [c, d] ∧ c ≠ 48), ?_, ?_⟩
    · -- not 1 <= len(word) <= 2
      refine ⟨_, rfl, w, rfl, szw, _, _, rfl, rfl, _, rfl, ?_⟩
      by_cases e1 : 1 ≤ w.length
      rotate_left
      · rw [decide_eq_false (by omega)]
        refine iteF ⟨_, rfl, iteT (iteT ⟨_, rfl, kn (fun n h => ?_) _ (Same.refl _)⟩)⟩
        have := numW_len h
        omega
      rw [decide_eq_true (by omega)]
      refine iteT ⟨_, _, rfl, rfl, _, rfl, ?_⟩
      by_cases e2 : w.length ≤ 2
      rotate_left
      · rw [decide_eq_false (by omega)]
        refine iteT (iteT ⟨_, rfl, kn (fun n h => ?_) _ (Same.refl _)⟩)
        have := numW_len h
        omega
      rw [decide_eq_true (by omega)]
      refine iteF ?_
      -- len(word) == 2 and word[0] == "0"
      refine ⟨_, rfl, w, rfl, szw, rfl, _, rfl, ?_⟩
      rw [dint]
      by_cases e3 : w.length = 2
      · rw [decide_eq_true (by omega)]
        obtain ⟨c, d, ecd⟩ : ∃ c d, TL.tl w = [c, d] := by
          rw [hwl] at e3
          match q : TL.tl w, e3 with
          | [c, d], _ => exact ⟨c, d, rfl⟩
        have h0 : atI (TL.tl w) 0 = some c := by
          rw [ecd]
          exact atI_nat (j := 0) rfl
        refine iteT ⟨_, rfl, w, 0, c, rfl, rfl, szw, h0, rfl, _, rfl, ?_⟩
        rw [dstr]
        have ez : decide ((⟨#[c]⟩ : Str) = Str.ofString "0") = decide (c = 48) := by
          rw [zero_sgn, decide_eq_decide]
          exact sgn_eq
        rw [ez]
        by_cases c0 : c = 48
        · rw [decide_eq_true c0]
          refine iteT ⟨_, rfl, kn (fun n h => ?_) _ (Same.refl _)⟩
          rw [ecd, c0] at h
          have := numW_zero h
          cases this
        · rw [decide_eq_false c0]
          exact iteF ⟨rfl, rfl, .inr ⟨c, d, ecd, c0⟩⟩
      · rw [decide_eq_false (by omega)]
        refine iteF (iteF ⟨rfl, rfl, .inl ?_⟩)
        have e4 : (TL.tl w).length = 1 := by omega
        match q : TL.tl w, e4 with
        | [c], _ => exact ⟨c, rfl⟩
    rintro σ' H' ⟨rfl, rfl, hsh⟩
    -- len([sign for sign in word if sign not in "0123456789"]) > 0
    refine ⟨_, rfl, w, rfl, fun D hD => lc_sgn (x := w) (fun i H2 => H2 = upd H' D (.lst ((nofig ((TL.tl w).take i)).map fun c => V.str ⟨#[c]⟩))) rfl ?_ ?_⟩
    · rintro i c H2 hc rfl
      have ef : (TL.tl w).take (i + 1) = (TL.tl w).take i ++ [c] := take_succ hc
      have en : nofig ((TL.tl w).take (i + 1)) = nofig ((TL.tl w).take i) ++ nofig [c] := by
        rw [ef]
        exact List.filter_append _ _
      refine ⟨rfl, _, rfl, c, _, rfl, rfl, _, rfl, ?_⟩
      by_cases hm : c ∈ (Str.ofString "0123456789").cps.toList
      · rw [decide_eq_true hm]
        refine iteF ?_
        have e0 : nofig [c] = [] := by
          unfold nofig
          rw [List.filter_cons, decide_eq_true hm]
          rfl
        rw [en, e0, List.append_nil]
      · rw [decide_eq_false hm]
        have e0 : nofig [c] = [c] := by
          unfold nofig
          rw [List.filter_cons, decide_eq_false hm]
          rfl
        refine iteT ⟨_, rfl, _, upd_same, szl ?_, ?_⟩
        · rw [List.length_map]
          have : (nofig ((TL.tl w).take i)).length ≤ ((TL.tl w).take i).length := List.length_filter_le _ _
          rw [List.length_take] at this
          omega
        · rw [upd_upd, en, e0, List.map_append]
          rfl
    · rintro H2 rfl
      rw [List.take_length]
      refine ⟨D, _, rfl, .inl (SqL.of upd_same), _, _, rfl, rfl, _, rfl, ?_⟩
      rw [List.length_map]
      have hf := fun c (m : c ∈ TL.tl w) => m
      by_cases e5 : (nofig (TL.tl w)).length = 0
      · rw [decide_eq_false (by omega)]
        refine iteF ?_
        have hf := nofig_nil e5
        have hw : ∃ n, numW (TL.tl w) = some n := by
          rcases hsh with ⟨c, e⟩ | ⟨c, d, e, hc⟩
          · rw [e] at hf ⊢
            exact ⟨_, numW_of1 (hf c List.mem_cons_self)⟩
          · rw [e] at hf ⊢
            exact ⟨_, numW_of2 (hf c List.mem_cons_self) hc (hf d (List.mem_cons_of_mem _ List.mem_cons_self))⟩
        obtain ⟨n, hw⟩ := hw
        have hq := q _ (sm_new (o := .lst ((nofig (TL.tl w)).map fun c => V.str ⟨#[c]⟩)) hD)
        rw [numI_some hw] at hq
        exact ⟨_, rfl, w, n, rfl, numW_int hw, by have := numW_len hw; omega, hq⟩
      · rw [decide_eq_true (by omega)]
        exact iteT ⟨_, rfl, kn (fun n h => e5 (nofig_of (numW_fig h))) _ (sm_new hD)⟩
end
end Pg

namespace Pg
open PySem L2
section
variable {P : Program} {w : World} {K : PySem.W.Frag} {mg : Str → Option Value} {base : Heap} {ca : CA}
abbrev s_law_due : Stmt := topS 26
theorem sc_law_due : FnScope ["text", "words", "points", "pairs", "used", "word", "at", "pair"] ["text"] (defScope s_law_due) := ⟨rfl, rfl, rfl, by decide +kernel, rfl, by decide +kernel, by decide +kernel⟩
/-- the pairing that a text writes, a new tuple, or None -/
def sp_law_due (K : PySem.W.Frag) : Sp := fun vs H Q _ => ∃ (t : Str), vs = [.str t] ∧ t.length ≤ 900 ∧ (∀ n ps, Reads t n ps → ∀ (H' : Hp) (v : V), Same H H' → PairingAt H' v n ps → Q v H') ∧ ((¬ ∃ n ps, Reads t n ps) → ∀ H', Same H H' → Q .non H')
theorem ok_law_due (T : Txt K mg ca) (D : Def K mg "_law_due" ["text"] s_law_due) (G_law_number : Known P w K mg base CX0 1 "_law_number" ["word"] (sp_law_number K)) : Known P w K mg base CX0 2 "_law_due" ["text"] (sp_law_due K) := by
  refine D.known fun f fd F => F.ok sc_law_due (fun vs H Q E h => ?_) (fun cdv A outer s H vs Q E hr h => ?_)
  · obtain ⟨_, rfl, _⟩ := h
    rfl
  · obtain ⟨t, rfl, hl, q, ke⟩ := h
    obtain ⟨w, r, hwr⟩ := wordsT_ne t
    obtain ⟨hw1, hw2⟩ := wordsT_len t
    have hw0 : w.length ≤ 900 := by
      have := hw2 w (by rw [hwr]; exact List.mem_cons_self)
      omega
    have hrl : r.length ≤ 901 := by
      rw [hwr, List.length_cons] at hw1
      omega
    refine ⟨_, (pss_cons (ps_set (i := 1) sc_law_due.nd rfl (Or.inl rfl) (pe_split (pv 0) pe_str))
      (pss_cons (ps_if (pt_cmpR op_ne (pe_slice sl_str (pe_ix (ixL K) (pv 1) pe_int (fun _ _ => rfl)) (po_some (pe_un un_neg pe_int)) po_none) pe_str (nomark _))
      (pss_one (ps_ret pe_non))
      pss_nil)
      (pss_cons (ps_set (i := 2) sc_law_due.nd rfl (Or.inl rfl) (pe_kc G_law_number (hr.mono (by decide)) (by rfl) pass0 (pa_cons (pe_slice sl_str (pe_ix (ixL K) (pv 1) pe_int (fun _ _ => rfl)) po_none (po_some (pe_un un_neg pe_int))) pa_nil)))
      (pss_cons (ps_set (i := 3) sc_law_due.nd rfl (Or.inl rfl) (pe_lst pa_nil))
      (pss_cons (ps_set (i := 4) sc_law_due.nd rfl (Or.inl rfl) (pe_lst pa_nil))
      (pss_cons (ps_for PassesOwn.never rfl (piL K (pe_slice (slL K) (pv 1) (po_some pe_int) po_none)) (pg_name (i := 5) sc_law_due.nd rfl (Or.inl rfl))
      (pss_cons (ps_set (i := 6) sc_law_due.nd rfl (Or.inl rfl) (pe_m1 PySem.F.slot_str_find PySem.F.type_str_find mt_find (pv 5) pe_str))
      (pss_cons (ps_if (pt_cmpR op_lt (pv 6) pe_int (nomark _))
      (pss_one (ps_ret pe_non))
      pss_nil)
      (pss_cons (ps_set (i := 7) sc_law_due.nd rfl (Or.inl rfl) (pe_tup (pa_cons (pe_kc G_law_number (hr.mono (by decide)) (by rfl) pass0 (pa_cons (pe_slice sl_str (pv 5) po_none (po_some (pv 6))) pa_nil)) (pa_cons (pe_kc G_law_number (hr.mono (by decide)) (by rfl) pass0 (pa_cons (pe_slice sl_str (pv 5) (po_some (pe_op op_add (pv 6) pe_int)) po_none) pa_nil)) pa_nil))))
      (pss_cons (ps_set (i := 4) sc_law_due.nd rfl (Or.inl rfl) (pe_op op_cat (pv 4) (pe_lst (pa_cons (pe_ix (ixT K) (pv 7) pe_int (fun _ _ => rfl)) (pa_cons (pe_ix (ixT K) (pv 7) pe_int (fun _ _ => rfl)) pa_nil)))))
      (Evl.pss_cut (ps_if (PW.pt (pw_or (pt_cmpR op_ge (pe_ix (ixT K) (pv 7) pe_int (fun _ _ => rfl)) (pe_ix (ixT K) (pv 7) pe_int (fun _ _ => rfl)) (nomark _)) (pw_or1 (PW.pt (pw_and (pt_cmpR (neD K hr.units) (pv 3) (pe_lst pa_nil) (nomark _)) (pw_and1 (pt_cmpR (op_gtP K (Nat.lt_of_le_of_lt (Nat.le_add_right _ _) hr.units)) (pe_ix (ixL K) (pv 3) (pe_un un_neg pe_int) (fun _ _ => rfl)) (pv 7) (nomark _))))))))
      (pss_one (ps_ret pe_non))
      pss_nil)
      (pss_one (ps_expr (peM K PySem.F.plainAttrs_list PySem.F.slot_list_append PySem.F.type_list_append mt_append (pv 3) (pa_cons (pv 7) pa_nil))))))))))
      (pss_cons (ps_if (PW.pt (pw_or (pt_not (pt_chain op_le op_le pe_int (pv 2) pe_int)) (pw_or1 (pt_cmpR op_lt (pe_lenSet K T.z_len T.z_set (pv 4)) (pe_callB (callLen K) (by rfl) T.z_len PySem.boot_len (pa_cons (pv 4) pa_nil)) (nomark _)))))
      (pss_one (ps_ret pe_non))
      pss_nil)
      (Evl.pss_cut (ps_if (PW.pt (pw_and (pt_cmpR (neD K hr.units) (pv 4) (pe_lst pa_nil) (nomark _)) (pw_and1 (PW.pt (pw_or (pt_cmpR op_lt (pe_callB (cr_min rfl) (by rfl) T.z_min (by decide +kernel) (pa_cons (pv 4) pa_nil)) pe_int (nomark _)) (pw_or1 (pt_cmpR op_ge (pe_callB (crMax K) (by rfl) T.z_max (by decide +kernel) (pa_cons (pv 4) pa_nil)) (pv 2) (nomark _))))))))
      (pss_one (ps_ret pe_non))
      pss_nil)
      (pss_one (ps_ret (pe_tup (pa_cons (pv 2) (pa_cons (pe_callTy (callTup K) (by rfl) T.z_tuple (by decide +kernel) (pa_cons (pv 3) pa_nil)) pa_nil))))))))))))), ?_⟩
    -- words = text.split(" ")
    refine ⟨_, rfl, ⟨_, rfl⟩, _, _, rfl, rfl, by decide +kernel, sz (by omega), fun wl hwl => ?_⟩
    have eW : (Txt.split t (Str.ofString " ")).map V.str = .str w :: r.map V.str := by
      show (wordsT t).map V.str = _
      rw [hwr]
      rfl
    rw [eW]
    have hW : (upd H wl (.lst (.str w :: r.map V.str))) wl = some (.lst (.str w :: r.map V.str)) := upd_same
    have sw := sm_new (o := .lst (.str w :: r.map V.str)) hwl
    -- words[0][-1:] != ":"
    refine ⟨_, rfl, wl, _, 0, _, rfl, rfl, SqL.of hW, atI_nat (j := 0) rfl, _, rfl, _, rfl, w, rfl, sz (by omega), rfl, _, rfl, ?_⟩
    obtain ⟨hc1, hc2⟩ := cut_last w
    have hcol : decide (V.str (cutS w (some (-1)) none) = V.str (Str.ofString ":")) = decide ((TL.tl w).drop ((TL.tl w).length - 1) = [58]) := by
      rw [dstr, decide_eq_decide, ← hc1, ← tl_colon]
      exact ⟨fun e => by rw [e], TL.ext_tl⟩
    rw [hcol]
    by_cases c1' : (TL.tl w).drop ((TL.tl w).length - 1) = [58]
    rotate_left
    · rw [decide_eq_false c1']
      exact iteT (ke (fun ⟨n, ps, h⟩ => c1' (reads_inv h hwr).1) _ sw)
    rw [decide_eq_true c1']
    refine iteF ?_
    -- points = _law_number(words[0][:-1])
    refine ⟨_, rfl, wl, _, 0, _, rfl, rfl, SqL.of hW, atI_nat (j := 0) rfl, _, rfl, _, rfl, w, rfl, sz (by omega), _, rfl, ?_, fun H1 s1 => ?_⟩
    · have := cutS_length w none (some (-1))
      omega
    rw [hc2]
    obtain ⟨n, en⟩ : ∃ n : Int, numI ((TL.tl w).take ((TL.tl w).length - 1)) = n := ⟨_, rfl⟩
    rw [en]
    have s01 := sw.trans s1
    have hW1 := s1 _ _ hW
    -- pairs = []; used = []
    refine ⟨Nat.zero_le _, fun pa hpa => ⟨Nat.zero_le _, fun uu huu => ?_⟩⟩
    have s2 := s01.trans (sm_new (o := .lst []) hpa)
    have s3 := s2.trans (sm_new (o := .lst []) huu)
    have hpaH : H pa = none := s01.free hpa
    have npu := ne_of_none upd_same huu
    -- for word in words[1:]
    have hW3 : (upd (upd H1 pa (.lst [])) uu (.lst [])) wl = some (.lst (.str w :: r.map V.str)) := sm_new huu _ _ (sm_new hpa _ _ hW1)
    refine ⟨_, rfl, _, rfl, wl, _, rfl, SqL.of hW3, fun wi hwi => ?_⟩
    have e : cutV (V.str w :: r.map V.str) (some 1) none = r.map V.str := by
      rw [cut_from _ _ (by decide)]
      rfl
    rw [e]
    have hP3 : (upd (upd H1 pa (.lst [])) uu (.lst [])) pa = some (.lst []) := by rw [upd_ne npu]; exact upd_same
    have npw := ne_of_none hP3 hwi
    have nuw := ne_of_none (upd_same (H := upd H1 pa (.lst [])) (a := uu) (o := .lst [])) hwi
    have s4 := s3.trans (sm_new (o := .lst (r.map V.str)) hwi)
    refine ⟨wi, rfl, ⟨_, SqL.of upd_same⟩, ?_⟩
    refine for_list (K := K) (a := wi) (xs := r.map V.str) (fun i σ H' => ∃ (uu : Addr) (ps : List Pr) (ys : List V) (x5 x6 x7 : Option V), σ = [some (.str t), some (.ref wl), some (.int n), some (.ref pa), some (.ref uu), x5, x6, x7] ∧ Same H H' ∧
      H' wi = some (.lst (r.map V.str)) ∧ H' pa = some (.lst ys) ∧ H' uu = some (.lst ((pts ps).map V.int)) ∧ PairsAt H' ys ps ∧ ReadM (r.take i) ps ∧ (∀ p ∈ ps, p.1 < p.2) ∧ SrP ps) ?_ (fun i σ H' _ ⟨_, _, _, _, _, _, _, _, h, _⟩ => SqL.of h) ?_ ?_
    · exact ⟨uu, [], [], none, none, none, rfl, s4, upd_same, by rw [upd_ne npw]; exact hP3, by rw [upd_ne nuw]; exact upd_same, .nil, .nil, fun p m => absurd m List.not_mem_nil, List.Pairwise.nil⟩
    · rintro i x σ H' hx ⟨uu, ps, ys, x5, x6, x7, rfl, hs, hWi, hPa, hUu, hPs, hRd, hLt, hSr⟩
      rw [List.getElem?_map] at hx
      cases hu : r[i]? with
      | none => rw [hu] at hx; cases hx
      | some u =>
      rw [hu] at hx
      have ex := (Option.some.inj hx).symm
      subst ex
      have hil := (List.getElem?_eq_some_iff.mp hu).1
      have hm := List.mem_of_getElem? hu
      have hul : u.length ≤ 900 := by
        have := hw2 u (by rw [hwr]; exact List.mem_cons_of_mem _ hm)
        omega
      have hutl : u.length = (TL.tl u).length := TL.len_tl u
      have hpl : ps.length ≤ 901 := by
        have := paired_length hRd
        rw [List.length_take] at this
        omega
      have hyl := paired_length hPs
      -- at = word.find("-")
      refine ⟨_, rfl, ⟨_, rfl⟩, _, _, rfl, rfl, ?_⟩
      refine ⟨_, rfl, _, _, rfl, rfl, _, rfl, ?_⟩
      rcases find_hy u with ⟨hc, ef⟩ | ⟨a, b, hc, ef⟩
      · rw [ef, decide_eq_true (by decide)]
        exact iteT (ke (fun ⟨n, ps, h⟩ => reads_hy h hwr hu hc) _ hs)
      rw [ef, decide_eq_false (by omega)]
      refine iteF ?_
      have hpm := pairM_cut hc
      obtain ⟨ecut, _⟩ := cutH_some hc
      have hla : a.length + 1 + b.length = u.length := by
        rw [hutl, ecut, List.length_append, List.length_cons]
        omega
      -- pair = (_law_number(word[:at]), _law_number(word[at + 1:]))
      refine ⟨_, rfl, _, rfl, _, rfl, u, rfl, sz (by omega), _, rfl, ?_, fun H5 s5 => ?_⟩
      · have := cutS_length u none (some (a.length : Int))
        omega
      have ea : TL.tl (cutS u none (some (a.length : Int))) = a := by
        rw [cutS_to u _ (by omega), ecut, List.take_left]
      rw [ea]
      refine ⟨_, rfl, _, rfl, _, _, rfl, rfl, _, rfl, u, rfl, sz (by omega), _, rfl, ?_, fun H6 s6 => ?_⟩
      · have := cutS_length u (some ((a.length : Int) + 1)) none
        omega
      have eb : TL.tl (cutS u (some ((a.length : Int) + 1)) none) = b := by
        have := cutS_on u (a.length + 1) (by omega)
        rw [Int.natCast_add] at this
        rw [show ((a.length : Int) + 1) = (a.length : Int) + ((1 : Nat) : Int) from rfl, this, ecut]
        have : a ++ 45 :: b = (a ++ [45]) ++ b := by simp
        rw [this, List.drop_left' (by rw [List.length_append]; rfl)]
      rw [eb]
      have hpm2 : pairM (TL.tl u) = some (numI a, numI b) := hpm
      obtain ⟨p1, ep1⟩ : ∃ z : Int, numI a = z := ⟨_, rfl⟩
      obtain ⟨p2, ep2⟩ : ∃ z : Int, numI b = z := ⟨_, rfl⟩
      rw [ep1, ep2] at hpm2
      rw [ep1, ep2]
      have s06 := (hs.trans s5).trans s6
      have s56 := s5.trans s6
      have hPa := s56 _ _ hPa
      have hUu := s56 _ _ hUu
      have hWi := s56 _ _ hWi
      have hPs := PairsAt.mono s56 hPs
      refine ⟨(by show 2 ≤ sizeLine; decide), fun pr hpr => ?_⟩
      -- used = used + [pair[0], pair[1]]
      have s7 := sm_new (H := H6) (o := .tup [.int p1, .int p2]) hpr
      have hPr : (upd H6 pr (.tup [.int p1, .int p2])) pr = some (.tup [.int p1, .int p2]) := upd_same
      have t0 : atI [V.int p1, V.int p2] 0 = some (.int p1) := atI_nat (j := 0) rfl
      have t1 : atI [V.int p1, V.int p2] 1 = some (.int p2) := atI_nat (j := 1) rfl
      refine ⟨_, rfl, _, rfl, pr, _, 0, _, rfl, rfl, SqT.of hPr, t0, _, rfl, pr, _, 1, _, rfl, rfl, SqT.of hPr, t1, (by show 2 ≤ sizeLine; decide), fun u2 hu2 => ?_⟩
      have s8 := s7.trans (sm_new (o := .lst [.int p1, .int p2]) hu2)
      have hU8 := s8 _ _ hUu
      refine ⟨uu, u2, _, _, rfl, rfl, hU8, upd_same, sz (by rw [List.length_map, pts_len]; show _ + 2 ≤ _; omega), fun u3 hu3 => ?_⟩
      have s9 := s8.trans (sm_new (o := .lst ((pts ps).map V.int ++ [.int p1, .int p2])) hu3)
      have eU : (pts ps).map V.int ++ [.int p1, .int p2] = (pts (ps ++ [(p1, p2)])).map V.int := by
        rw [pts_append, List.map_append]
        rfl
      rw [eU]
      rw [eU] at s9
      obtain ⟨H9, eH9⟩ : ∃ H9, upd (upd (upd H6 pr (.tup [.int p1, .int p2])) u2 (.lst [.int p1, .int p2])) u3 (.lst ((pts (ps ++ [(p1, p2)])).map V.int)) = H9 := ⟨_, rfl⟩
      have hU9 : H9 u3 = some (.lst ((pts (ps ++ [(p1, p2)])).map V.int)) := by rw [← eH9]; exact upd_same
      rw [eH9]
      rw [eH9] at s9
      have s09 := s06.trans s9
      have hPa := s9 _ _ hPa
      have hWi := s9 _ _ hWi
      have hPs := PairsAt.mono s9 hPs
      have hPr : H9 pr = some (.tup [.int p1, .int p2]) := by
        rw [← eH9]
        exact sm_new hu3 _ _ (sm_new hu2 _ _ upd_same)
      have nPU : pa ≠ u3 := ne_of_none (s8 _ _ (s56 _ _ ‹H' pa = some (.lst ys)›)) hu3
      -- the pair stands right
      refine ⟨fun σ' H2 => σ' = [some (.str t), some (.ref wl), some (.int n), some (.ref pa), some (.ref u3), some (.str u), some (.int (a.length : Int)), some (.ref pr)] ∧ Same H9 H2 ∧ p1 < p2 ∧ SrP (ps ++ [(p1, p2)]), ?_, ?_⟩
      · refine ⟨_, rfl, pr, _, 0, _, rfl, rfl, SqT.of hPr, t0, _, rfl, pr, _, 1, _, rfl, rfl, SqT.of hPr, t1, _, _, rfl, rfl, _, rfl, ?_⟩
        by_cases c2 : p2 ≤ p1
        · rw [decide_eq_true c2]
          refine iteT (iteT (ke (fun ⟨m, qs, h⟩ => ?_) _ s09))
          have := ((reads_inv h hwr).2.2.2.fine _ (List.mem_of_getElem? (reads_nxt h hwr hu hpm2))).2.1
          have : p1 < p2 := this
          omega
        rw [decide_eq_false c2]
        refine iteF ⟨_, rfl, (by show 0 ≤ sizeLine; decide), fun em hem => ?_⟩
        have s10 := sm_new (o := .lst []) hem
        refine ⟨.list (ps.map prD), .list [], .lst (SqL.of (s10 _ _ hPa)) ((PairsAt.mono s10 hPs).dp), .lst (SqL.of upd_same) .nil, (shp_prl _).shaped, (shp_lst (d := 0) fun x m => absurd m List.not_mem_nil).shaped, _, rfl, ?_⟩
        rw [prL_nil]
        by_cases c3 : ps = []
        · rw [decide_eq_true c3]
          refine iteF (iteF ⟨rfl, s10, by omega, ?_⟩)
          rw [c3]
          exact List.pairwise_singleton _ _
        rw [decide_eq_false c3]
        -- pairs[-1] > pair
        obtain ⟨qs, ql, eql⟩ : ∃ qs ql, ps = qs ++ [ql] := ⟨_, _, (List.dropLast_concat_getLast c3).symm⟩
        have hyl2 : ys.length = qs.length + 1 := by rw [hyl, eql, List.length_append]; rfl
        have hyi : ys[qs.length]? = some ys[qs.length] := List.getElem?_eq_getElem (by omega)
        obtain ⟨pq, hpq, tq, etq, htq⟩ := paired_get' hPs hyi
        have epq : pq = ql := by
          rw [eql, List.getElem?_append_right (Nat.le_refl _), Nat.sub_self] at hpq
          exact (Option.some.inj hpq).symm
        subst epq
        have hat : atI ys (-1) = some (.ref tq) := by
          have : ixN ys.length (-1) = some qs.length := by
            unfold ixN
            rw [if_neg (by omega), if_pos (by omega)]
            congr 1
            omega
          unfold atI
          rw [this]
          show ys[qs.length]? = _
          rw [hyi, etq]
        refine iteT ⟨_, rfl, _, rfl, pa, ys, -1, _, rfl, rfl, SqL.of (s10 _ _ hPa), hat, _, rfl, tq, pr, pq.1, pq.2, p1, p2, rfl, rfl, SqT.of (s10 _ _ htq), SqT.of (s10 _ _ hPr), _, rfl, ?_⟩
        have egt : (if pq.1 = p1 then decide (p2 < pq.2) else decide (p1 < pq.1)) = SrtO.lexB (p1, p2) pq := by
          unfold SrtO.lexB
          by_cases c : pq.1 = p1
          · rw [if_pos c, if_pos c.symm]
          · rw [if_neg c, if_neg (fun z => c z.symm)]
        rw [egt]
        cases c4 : SrtO.lexB (p1, p2) pq with
        | true => exact iteT (ke (fun ⟨m, qs', h⟩ => reads_srt h hwr hRd hu hpm2 (by rw [eql]; exact List.mem_append_right _ List.mem_cons_self) c4) _ (s09.trans s10))
        | false =>
          refine iteF ⟨rfl, s10, by omega, ?_⟩
          rw [eql] at hSr ⊢
          exact srp_last hSr c4
      · rintro σ' H2 ⟨rfl, sH2, hlt, hsr⟩
        -- pairs.append(pair)
        have hPa2 := sH2 _ _ hPa
        refine ⟨_, rfl, .inl ⟨rfl, _, SqL.of hPa2⟩, _, rfl, pa, _, _, rfl, rfl, hPa2, szl (by omega), ?_⟩
        refine ⟨u3, ps ++ [(p1, p2)], _, _, _, _, rfl, sm_mut (s09.trans sH2) hpaH, ?_, upd_same, ?_, ?_, ?_, fun p m => ?_, hsr⟩
        · by_cases c : wi = pa
          · exact absurd c.symm npw
          · rw [upd_ne c]
            exact sH2 _ _ hWi
        · rw [upd_ne (Ne.symm nPU)]
          exact sH2 _ _ hU9
        · exact upd_pairs (o := .lst ys) hPa2 (paired_push (PairsAt.mono sH2 hPs) ⟨pr, rfl, sH2 _ _ hPr⟩)
        · rw [take_succ hu]
          exact paired_push hRd hpm2
        · rcases List.mem_append.mp m with m | m
          · exact hLt p m
          · rw [List.mem_singleton.mp m]
            exact hlt
    · rintro σ H' ⟨uu, ps, ys, x5, x6, x7, rfl, hs, hWi, hPa, hUu, hPs, hRd, hLt, hSr⟩
      rw [List.length_map, List.take_length] at hRd
      have hpl : ps.length ≤ 901 := by
        have := paired_length hRd
        omega
      have hyl := paired_length hPs
      have same : ∀ {m qs}, Reads t m qs → m = n ∧ qs = ps ∧ Good n ps := fun {m qs} h => by
        obtain ⟨_, h2, h3, h4⟩ := reads_inv h hwr
        have e1 := readM_fun h3 hRd
        rw [en] at h2
        exact ⟨h2.symm, e1, by rw [h2, ← e1]; exact h4⟩
      -- not 0 <= points <= 60
      refine ⟨_, rfl, _, _, rfl, rfl, _, rfl, ?_⟩
      by_cases c0 : 0 ≤ n
      rotate_left
      · rw [decide_eq_false c0]
        refine iteF ⟨_, rfl, iteT (iteT (ke (fun ⟨m, qs, h⟩ => ?_) _ hs))⟩
        exact c0 (same h).2.2.n0
      rw [decide_eq_true c0]
      refine iteT ⟨_, _, rfl, rfl, _, rfl, ?_⟩
      by_cases c1 : n ≤ 60
      rotate_left
      · rw [decide_eq_false c1]
        refine iteT (iteT (ke (fun ⟨m, qs, h⟩ => ?_) _ hs))
        exact c1 (same h).2.2.n1
      rw [decide_eq_true c1]
      refine iteF ?_
      -- len(set(used)) < len(used)
      refine ⟨_, rfl, uu, pts ps, rfl, SqL.of hUu, by rw [pts_len]; omega, fun m m1 m2 => ?_⟩
      refine ⟨_, rfl, uu, _, rfl, .inl (SqL.of hUu), _, _, rfl, rfl, _, rfl, ?_⟩
      rw [List.length_map]
      by_cases c2 : (pts ps).Nodup
      rotate_left
      · rw [decide_eq_true (by have := m2 c2; omega)]
        exact iteT (ke (fun ⟨m, qs, h⟩ => c2 (same h).2.2.nd) _ hs)
      rw [m1 c2, decide_eq_false (by omega)]
      refine iteF ?_
      refine ⟨fun σ' H2 => σ' = [some (.str t), some (.ref wl), some (.int n), some (.ref pa), some (.ref uu), x5, x6, x7] ∧ Same H' H2 ∧ ∀ x ∈ pts ps, 0 ≤ x ∧ x < n, ?_, ?_⟩
      · refine ⟨_, rfl, (by show 0 ≤ sizeLine; decide), fun em hem => ?_⟩
        have s10 := sm_new (o := .lst []) hem
        have hU10 := s10 _ _ hUu
        refine ⟨.list ((pts ps).map PyData.int), .list [], .lst (SqL.of hU10) (intL_dp _), .lst (SqL.of upd_same) .nil, (shp_intL _).shaped, (shp_lst (d := 0) fun x m => absurd m List.not_mem_nil).shaped, _, rfl, ?_⟩
        rw [intL_nil]
        by_cases c3 : pts ps = []
        · rw [decide_eq_true c3]
          refine iteF (iteF ⟨rfl, s10, fun x m => ?_⟩)
          rw [c3] at m
          cases m
        rw [decide_eq_false c3]
        have hpos : 0 < (pts ps).length := List.length_pos_iff.mpr c3
        refine iteT ⟨_, rfl, uu, pts ps, rfl, SqL.of hU10, hpos, fun lo hlo hlo2 => ?_⟩
        refine ⟨_, _, rfl, rfl, _, rfl, ?_⟩
        have bad : ∀ {x : Int}, x ∈ pts ps → (x < 0 ∨ n ≤ x) → ¬ ∃ n ps, Reads t n ps := fun {x} hx hb ⟨m, qs, h⟩ => by
          obtain ⟨p, hp, hpx⟩ := mem_pts.mp hx
          have := (same h).2.2.fine p hp
          have : 0 ≤ p.1 ∧ p.1 < p.2 ∧ p.2 < n := this
          rcases hpx with hpx | hpx <;> omega
        by_cases c4 : lo < 0
        · rw [decide_eq_true c4]
          exact iteT (iteT (ke (bad hlo (.inl c4)) _ (hs.trans s10)))
        rw [decide_eq_false c4]
        refine iteF ⟨_, rfl, uu, pts ps, rfl, SqL.of hU10, hpos, fun hi hhi hhi2 => ?_⟩
        refine ⟨_, rfl, _, _, rfl, rfl, _, rfl, ?_⟩
        by_cases c5 : n ≤ hi
        · rw [decide_eq_true c5]
          exact iteT (ke (bad hhi (.inr c5)) _ (hs.trans s10))
        rw [decide_eq_false c5]
        refine iteF ⟨rfl, s10, fun x m => ?_⟩
        have := hlo2 x m
        have := hhi2 x m
        omega
      · rintro σ' H2 ⟨rfl, s10, hrg⟩
        -- return (points, tuple(pairs))
        refine ⟨_, rfl, _, rfl, pa, ys, rfl, .inl ⟨SqL.of (s10 _ _ hPa), fun z hz => ⟨(by show 2 ≤ sizeLine; decide), fun v hv => ?_⟩⟩⟩
        have hpg : PairingAt (upd (upd H2 z (.tup ys)) v (.tup [.int n, .ref z])) (.ref v) n ps :=
          ⟨v, z, ys, rfl, upd_same, by rw [upd_ne (ne_of_none upd_same hv), upd_same], (((PairsAt.mono s10 hPs).mono (sm_new hz)).mono (sm_new hv))⟩
        have hrd := reads_of (t := t) hwr c1' hRd (by rw [en]; exact c0) (by rw [en]; exact c1) hLt c2 (by rw [en]; exact hrg) hSr
        rw [en] at hrd
        exact q n ps hrd _ _ (((hs.trans s10).trans (sm_new hz)).trans (sm_new hv)) hpg
end
end Pg

namespace Pg
open PySem L2
section
variable {P : Program} {w : World} {K : PySem.W.Frag} {mg : Str → Option Value} {base : Heap} {ca : CA}
abbrev s_number_of : Stmt := topS 12
theorem sc_number_of : FnScope ["word", "sign"] ["word"] (defScope s_number_of) := ⟨rfl, rfl, rfl, by decide +kernel, rfl, by decide +kernel, by decide +kernel⟩
/-- the number of a word, or BadNote -/
def sp_number_of (K : PySem.W.Frag) (ca : CA) : Sp := fun vs H Q E => ∃ (w : Str), vs = [.str w] ∧ w.length ≤ 1000 ∧ (∀ n : Nat, numW (TL.tl w) = some n → Q (.int (n : Int)) H) ∧ (numW (TL.tl w) = none → E (.ref ca.BadNote) none H)
theorem ok_number_of (T : Txt K mg ca) (D : Def K mg "number_of" ["word"] s_number_of) : Known P w K mg base (L2.CX P w) 1 "number_of" ["word"] (sp_number_of K ca) := by
  refine D.known fun f fd F => F.okX sc_number_of (fun vs H Q E h => ?_) (fun cdv A outer s H vs Q E hr h => ?_)
  · obtain ⟨_, rfl, _⟩ := h
    rfl
  · obtain ⟨w, rfl, hl, q, ke⟩ := h
    have hwl : w.length = (TL.tl w).length := TL.len_tl w
    have kn : (∀ n, numW (TL.tl w) ≠ some n) → E (.ref ca.BadNote) none H := fun h => ke (by
      cases e : numW (TL.tl w) with
      | none => rfl
      | some n => exact absurd e (h n))
    refine ⟨_, (Evl.pss_cut (ps_if (PW.pt (pw_or (pt_cmpR op_eq (pv 0) pe_str (nomark _)) (pw_or (pt_cmpR op_gt (pe_callB call_len_str (by rfl) T.z_len PySem.boot_len (pa_cons (pv 0) pa_nil)) pe_int (nomark _)) (pw_or1 (PW.pt (pw_and (pt_cmpR op_eq (pe_ix ix_str (pv 0) pe_int (fun _ _ => rfl)) pe_str (nomark _)) (pw_and1 (pt_cmpR op_ne (pv 0) pe_str (nomark _)))))))))
      (pss_one (ps_raise rfl (takes_of rfl rfl rfl rfl) (pmk_own PySem.F.excBase_ValueError T.x_BadNote T.g_BadNote T.k_BadNote (raises_own T.b_BadNote T.t_BadNote) (by exact rfl))))
      pss_nil)
      (pss_cons (ps_for (passes_of rfl) rfl (pi_str (pv 0)) (pg_name (i := 1) sc_number_of.nd rfl (Or.inl rfl))
      (pss_one (ps_if (pt_cmpR op_notIn_sign (pv 1) (pe_gs T.g_FIGURES) rfl)
      (pss_one (ps_raise rfl (takes_of rfl rfl rfl rfl) (pmk_own PySem.F.excBase_ValueError T.x_BadNote T.g_BadNote T.k_BadNote (raises_own T.b_BadNote T.t_BadNote) (by exact rfl))))
      pss_nil)))
      (pss_one (ps_ret (pe_callTy call_int_str (by rfl) T.z_int (by decide +kernel) (pa_cons (pv 0) pa_nil)))))), ?_⟩
    refine ⟨fun σ' H' => σ' = [some (.str w), none] ∧ H' = H ∧ ((∃ c, TL.tl w = [c]) ∨ ∃ c d, TL.tl w = [c, d] ∧ c ≠ 48), ?_, ?_⟩
    · -- word == ""
      refine ⟨_, rfl, rfl, _, rfl, ?_⟩
      by_cases e0 : w = Str.ofString ""
      · rw [dstr, decide_eq_true e0]
        refine iteT (iteT (kn fun n h => ?_))
        have := numW_len h
        rw [e0, tlS] at this
        exact absurd this.1 (by decide)
      rw [dstr, decide_eq_false e0]
      refine iteF ?_
      -- len(word) > 2
      refine ⟨_, rfl, w, rfl, by have := sz (n := w.length) (by omega); exact this, _, _, rfl, rfl, _, rfl, ?_⟩
      by_cases e2 : 2 < w.length
      · rw [decide_eq_true (by omega)]
        refine iteT (iteT (kn fun n h => ?_))
        have := numW_len h
        omega
      rw [decide_eq_false (by omega)]
      refine iteF ?_
      -- word[0] == "0" and word != "0"
      obtain ⟨c, r, ecr⟩ : ∃ c r, TL.tl w = c :: r := by
        cases e : TL.tl w with
        | nil => exact absurd (TL.ext_tl (by rw [e, tlS]; rfl)) e0
        | cons c r => exact ⟨c, r, rfl⟩
      have h0 : atI (TL.tl w) 0 = some c := by
        rw [ecr]
        exact atI_nat (j := 0) rfl
      refine ⟨_, rfl, w, 0, c, rfl, rfl, by have := sz (n := w.length) (by omega); exact this, h0, rfl, _, rfl, ?_⟩
      rw [dstr]
      have ez : decide ((⟨#[c]⟩ : Str) = Str.ofString "0") = decide (c = 48) := by
        rw [zero_sgn, decide_eq_decide]
        exact sgn_eq
      rw [ez]
      have shape : (c = 48 → r = []) → ((∃ c, TL.tl w = [c]) ∨ ∃ c d, TL.tl w = [c, d] ∧ c ≠ 48) := fun hz => by
        cases r with
        | nil => exact .inl ⟨c, ecr⟩
        | cons d u =>
          have : u = [] := by
            cases u with
            | nil => rfl
            | cons _ _ => rw [hwl, ecr] at e2; simp at e2
          subst this
          exact .inr ⟨c, d, ecr, fun z => by cases hz z⟩
      by_cases c0 : c = 48
      · rw [decide_eq_true c0]
        refine iteT ⟨_, rfl, rfl, _, rfl, ?_⟩
        by_cases ew : w = Str.ofString "0"
        · rw [dstr, decide_eq_true ew]
          refine iteF ⟨rfl, rfl, shape fun _ => ?_⟩
          rw [ew, tl_zero] at ecr
          cases ecr
          rfl
        · rw [dstr, decide_eq_false ew]
          refine iteT (kn fun n h => ?_)
          rw [ecr, c0] at h
          have := numW_zero h
          subst this
          exact ew (TL.ext_tl (by rw [ecr, c0, tl_zero]))
      · rw [decide_eq_false c0]
        exact iteF (iteF ⟨rfl, rfl, shape fun z => absurd z c0⟩)
    rintro σ' H' ⟨rfl, rfl, hsh⟩
    -- for sign in word
    refine ⟨_, rfl, w, rfl, ?_⟩
    refine for_sgn (fun i σ H2 => ∃ x1, σ = [some (.str w), x1] ∧ H2 = H' ∧ ∀ j c, j < i → (TL.tl w)[j]? = some c → 48 ≤ c ∧ c ≤ 57) ⟨none, rfl, rfl, fun _ _ h => absurd h (Nat.not_lt_zero _)⟩ ?_ ?_
    · rintro i c σ H2 hc ⟨x1, rfl, rfl, hf⟩
      refine ⟨_, rfl, c, _, rfl, rfl, _, rfl, ?_⟩
      by_cases hm : c ∈ (Str.ofString "0123456789").cps.toList
      · rw [decide_eq_true hm]
        refine iteF ⟨_, rfl, rfl, fun j d hj hd => ?_⟩
        by_cases e : j = i
        · subst e
          rw [hc] at hd
          cases hd
          exact mem_fig hm
        · exact hf j d (by omega) hd
      · rw [decide_eq_false hm]
        exact iteT (kn fun n h => hm (fig_mem (numW_fig h c (List.mem_of_getElem? hc))))
    · rintro σ H2 ⟨x1, rfl, rfl, hf⟩
      have hw : ∃ n, numW (TL.tl w) = some n := by
        rcases hsh with ⟨c, e⟩ | ⟨c, d, e, hc⟩
        · rw [e] at hf ⊢
          exact ⟨_, numW_of1 (hf 0 c (by show 0 < 1; decide) rfl)⟩
        · rw [e] at hf ⊢
          exact ⟨_, numW_of2 (hf 0 c (by show 0 < 2; decide) rfl) hc (hf 1 d (by show 1 < 2; decide) rfl)⟩
      obtain ⟨n, hw⟩ := hw
      exact ⟨_, rfl, w, n, rfl, numW_int hw, by have := numW_len hw; omega, q n hw⟩
end
end Pg

namespace Pg
open PySem L2
section
variable {P : Program} {w : World} {K : PySem.W.Frag} {mg : Str → Option Value} {base : Heap} {ca : CA}
abbrev s_looked : Stmt := topS 9
theorem sc_looked : FnScope ["pairing", "points", "pairs", "used", "a", "b"] ["pairing"] (defScope s_looked) := ⟨rfl, rfl, rfl, by decide +kernel, rfl, by decide +kernel, by decide +kernel⟩
/-- how many pairs, or NoPairing -/
def sp_looked (K : PySem.W.Frag) (ca : CA) : Sp := fun vs H Q E => ∃ (v : V) (n : Int) (ps : List Pr), vs = [v] ∧ PairingAt H v n ps ∧ ps.length ≤ 1000 ∧
  (Good n ps → ∀ H', Same H H' → Q (.int (ps.length : Int)) H') ∧ (¬ Good n ps → ∀ H', Same H H' → E (.ref ca.NoPairing) none H')
theorem ok_looked (T : Txt K mg ca) (D : Def K mg "looked" ["pairing"] s_looked) : Known P w K mg base (L2N.CX P w) 1 "looked" ["pairing"] (sp_looked K ca) := by
  refine D.known fun f fd F => okN F sc_looked (fun vs H Q E h => ?_) (fun cdv A outer s H vs Q E hr h => ?_)
  · obtain ⟨_, _, _, rfl, _⟩ := h
    rfl
  · obtain ⟨v, n, ps, rfl, ⟨a, b, xs, rfl, h1, h2, h3⟩, hl, kq, ke⟩ := h
    have hlen := paired_length h3
    refine ⟨_, (pss_cons (ps_asg (pv 0) (pgT K rfl (pgs_cons (pg_name (i := 1) sc_looked.nd rfl (Or.inl rfl)) (pgs_cons (pg_name (i := 2) sc_looked.nd rfl (Or.inl rfl)) pgs_nil))))
      (pss_cons (ps_if (PW.pt (pw_or (pt_cmpR op_lt (pv 1) pe_int (nomark _)) (pw_or1 (pt_cmpR op_gt (pv 1) (pe_gi T.g_MOST) (nomark _)))))
      (pss_one (L2N.ps_raise rfl (L2N.takes_of rfl rfl rfl rfl) (L2N.pmk_own PySem.F.excBase_ValueError T.x_NoPairing T.g_NoPairing T.k_NoPairing (raises_own T.b_NoPairing T.t_NoPairing) (by exact rfl))))
      pss_nil)
      (pss_cons (ps_set (i := 3) sc_looked.nd rfl (Or.inl rfl) (pe_lst pa_nil))
      (pss_cons (ps_for (passes_of rfl) rfl (piT K (pv 2)) (pgT K rfl (pgs_cons (pg_name (i := 4) sc_looked.nd rfl (Or.inl rfl)) (pgs_cons (pg_name (i := 5) sc_looked.nd rfl (Or.inl rfl)) pgs_nil)))
      (pss_cons (ps_if (PW.pt (pw_or (pt_cmpR op_lt (pv 4) pe_int (nomark _)) (pw_or (pt_cmpR op_ge (pv 4) (pv 5) (nomark _)) (pw_or1 (pt_cmpR op_ge (pv 5) (pv 1) (nomark _))))))
      (pss_one (L2N.ps_raise rfl (L2N.takes_of rfl rfl rfl rfl) (L2N.pmk_own PySem.F.excBase_ValueError T.x_NoPairing T.g_NoPairing T.k_NoPairing (raises_own T.b_NoPairing T.t_NoPairing) (by exact rfl))))
      pss_nil)
      (pss_one (ps_expr (peM K PySem.F.plainAttrs_list PySem.F.slot_list_extend PySem.F.type_list_extend mt_extend (pv 3) (pa_cons (pe_lst (pa_cons (pv 4) (pa_cons (pv 5) pa_nil))) pa_nil))))))
      (pss_cons (ps_if (pt_cmpR op_lt (pe_lenSet K T.z_len T.z_set (pv 3)) (pe_callB (callLen K) (by rfl) T.z_len PySem.boot_len (pa_cons (pv 3) pa_nil)) (nomark _))
      (pss_one (L2N.ps_raise rfl (L2N.takes_of rfl rfl rfl rfl) (L2N.pmk_own PySem.F.excBase_ValueError T.x_NoPairing T.g_NoPairing T.k_NoPairing (raises_own T.b_NoPairing T.t_NoPairing) (by exact rfl))))
      pss_nil)
      (pss_cons (ps_if (pt_cmpR (neD K hr.units) (pe_callTy (callLst K) (by rfl) T.z_list (by decide +kernel) (pa_cons (pv 2) pa_nil)) (pe_callB (cr_sortedPT K) (by rfl) T.z_sorted (by decide +kernel) (pa_cons (pv 2) pa_nil)) (nomark _))
      (pss_one (L2N.ps_raise rfl (L2N.takes_of rfl rfl rfl rfl) (L2N.pmk_own PySem.F.excBase_ValueError T.x_NoPairing T.g_NoPairing T.k_NoPairing (raises_own T.b_NoPairing T.t_NoPairing) (by exact rfl))))
      pss_nil)
      (pss_one (ps_ret (pe_callB (callLen K) (by rfl) T.z_len PySem.boot_len (pa_cons (pv 2) pa_nil)))))))))), ?_⟩
    -- points, pairs = pairing
    refine ⟨_, rfl, a, _, rfl, SqT.of h1, rfl, _, _, rfl, _, _, rfl, rfl, ?_⟩
    -- points < 0 or points > MOST
    refine ⟨_, rfl, _, _, rfl, rfl, _, rfl, ?_⟩
    by_cases c0 : n < 0
    · rw [decide_eq_true c0]
      exact iteT (iteT (ke (fun g => by have := g.n0; omega) H (Same.refl _)))
    rw [decide_eq_false c0]
    refine iteF ⟨_, rfl, _, _, rfl, rfl, _, rfl, ?_⟩
    by_cases c1 : 60 < n
    · rw [decide_eq_true c1]
      exact iteT (ke (fun g => by have := g.n1; omega) H (Same.refl _))
    rw [decide_eq_false c1]
    refine iteF ?_
    -- used = []
    refine ⟨Nat.zero_le _, fun u hu => ?_⟩
    have s1 := sm_new (o := .lst []) hu
    -- for a, b in pairs
    refine ⟨_, rfl, b, rfl, ⟨_, SqT.of (s1 _ _ h2)⟩, ?_⟩
    refine for_tup (K := K) (a := b) (xs := xs) (fun i σ H' => ∃ (x4 x5 : Option V), σ = [some (.ref a), some (.int n), some (.ref b), some (.ref u), x4, x5] ∧ Same H H' ∧ H' u = some (.lst ((pts (ps.take i)).map V.int)) ∧ ∀ p ∈ ps.take i, Fine n p)
      ?_ (fun i σ H' _ ⟨_, _, _, hs, _⟩ => SqT.of (hs _ _ h2)) ?_ ?_
    · exact ⟨none, none, rfl, s1, upd_same, fun p m => absurd m (by simp)⟩
    · rintro i x σ H' hx ⟨x4, x5, rfl, hs, hU, hF⟩
      obtain ⟨p, hp, t, rfl, ht⟩ := paired_get' h3 hx
      have hmem := List.mem_of_getElem? hp
      refine ⟨t, _, rfl, SqT.of (hs _ _ ht), rfl, _, _, rfl, _, _, rfl, rfl, ?_⟩
      refine ⟨_, rfl, _, _, rfl, rfl, _, rfl, ?_⟩
      by_cases d0 : p.1 < 0
      · rw [decide_eq_true d0]
        exact iteT (iteT (ke (fun g => by have := (g.fine p hmem).1; omega) H' hs))
      rw [decide_eq_false d0]
      refine iteF ⟨_, rfl, _, rfl, _, _, rfl, rfl, _, rfl, ?_⟩
      by_cases d1 : p.2 ≤ p.1
      · rw [decide_eq_true d1]
        exact iteT (iteT (ke (fun g => by have := (g.fine p hmem).2.1; omega) H' hs))
      rw [decide_eq_false d1]
      refine iteF ⟨_, rfl, _, rfl, _, _, rfl, rfl, _, rfl, ?_⟩
      by_cases d2 : n ≤ p.2
      · rw [decide_eq_true d2]
        exact iteT (ke (fun g => by have := (g.fine p hmem).2.2; omega) H' hs)
      rw [decide_eq_false d2]
      refine iteF ?_
      -- used.extend([a, b])
      have hsz : (pts (ps.take i)).length ≤ 2000 := by
        rw [pts_len, List.length_take]
        omega
      refine ⟨_, rfl, .inl ⟨rfl, _, SqL.of hU⟩, _, rfl, _, rfl, (by show 2 ≤ sizeLine; decide), fun l hl2 => ?_⟩
      have nul : u ≠ l := ne_of_none hU hl2
      refine ⟨u, l, _, _, rfl, rfl, by rw [upd_ne nul]; exact hU, upd_same, sz (by rw [List.length_map]; simp; omega), ?_⟩
      refine ⟨_, _, rfl, sm_mut (hs.trans (sm_new hl2)) hu, ?_, fun q m => ?_⟩
      · rw [upd_same, take_succ hp, pts_append, List.map_append]
        rfl
      · rw [take_succ hp] at m
        rcases List.mem_append.mp m with m | m
        · exact hF q m
        · rw [List.mem_singleton.mp m]
          exact ⟨by omega, by omega, by omega⟩
    · rintro σ H' ⟨x4, x5, rfl, hs, hU, hF⟩
      rw [hlen, List.take_length] at hU hF
      -- len(set(used)) < len(used)
      refine ⟨_, rfl, u, pts ps, rfl, SqL.of hU, by rw [pts_len]; omega, fun m m1 m2 => ?_⟩
      refine ⟨_, rfl, u, _, rfl, .inl (SqL.of hU), _, _, rfl, rfl, _, rfl, ?_⟩
      rw [List.length_map]
      by_cases c2 : (pts ps).Nodup
      · rw [m1 c2, decide_eq_false (by omega)]
        refine iteF ?_
        -- list(pairs) != sorted(pairs)
        have hb := hs _ _ h2
        refine ⟨_, rfl, b, xs, rfl, .inr (SqT.of hb), fun l hl2 => ?_⟩
        have sl := sm_new (o := .lst xs) hl2
        refine ⟨_, rfl, b, xs, ps, rfl, SqT.of (sl _ _ hb), (PairsAt.mono hs h3).mono sl, fun ys q hy _ hq => ?_⟩
        have sq := sm_new (o := .lst ys) hq
        have d1 : DpAll K (upd (upd H' l (.lst xs)) q (.lst ys)) xs (ps.map prD) := (((PairsAt.mono hs h3).mono sl).mono sq).dp
        have d2 : DpAll K (upd (upd H' l (.lst xs)) q (.lst ys)) ys ((sortP ps).map prD) := (hy.mono sq).dp
        refine ⟨.list (ps.map prD), .list ((sortP ps).map prD), .lst (SqL.of (sq _ _ upd_same)) d1, .lst (SqL.of upd_same) d2, (shp_prl _).shaped, (shp_prl _).shaped, _, rfl, ?_⟩
        rw [prl_eqv]
        have hse := (hs.trans sl).trans sq
        by_cases c3 : ps = sortP ps
        · rw [decide_eq_true c3]
          refine iteF ⟨_, rfl, b, xs, rfl, .inr (SqT.of (sq _ _ (sl _ _ hb))), ?_⟩
          rw [hlen]
          exact kq ⟨by omega, by omega, hF, c2, c3.symm⟩ _ hse
        · rw [decide_eq_false c3]
          exact iteT (ke (fun g => c3 g.srt.symm) _ hse)
      · rw [decide_eq_true (by have := m2 c2; omega)]
        exact iteT (ke (fun g => c2 g.nd) _ hs)
end
end Pg

namespace Pg
open PySem L2
section
variable {P : Program} {w : World} {K : PySem.W.Frag} {mg : Str → Option Value} {base : Heap} {ca : CA}
abbrev s_pair_of : Stmt := topS 13
theorem sc_pair_of : FnScope ["word", "halves"] ["word"] (defScope s_pair_of) := ⟨rfl, rfl, rfl, by decide +kernel, rfl, by decide +kernel, by decide +kernel⟩
/-- the pair that a word writes, a new tuple, or BadNote -/
def sp_pair_of (K : PySem.W.Frag) (ca : CA) : Sp := fun vs H Q E => ∃ (w : Str), vs = [.str w] ∧ w.length ≤ 1000 ∧ (∀ p : Pr, pairL (TL.tl w) = some p → ∀ (H' : Hp) (v : V), Same H H' → PairAt H' v p → Q v H') ∧ (pairL (TL.tl w) = none → ∀ H', Same H H' → E (.ref ca.BadNote) none H')
theorem ok_pair_of (T : Txt K mg ca) (D : Def K mg "pair_of" ["word"] s_pair_of) (G_number_of : Known P w K mg base (L2.CX P w) 1 "number_of" ["word"] (sp_number_of K ca)) : Known P w K mg base (L2.CX P w) 2 "pair_of" ["word"] (sp_pair_of K ca) := by
  refine D.known fun f fd F => F.okX sc_pair_of (fun vs H Q E h => ?_) (fun cdv A outer s H vs Q E hr h => ?_)
  · obtain ⟨_, rfl, _⟩ := h
    rfl
  · obtain ⟨w, rfl, hl, q, ke⟩ := h
    have hwl : w.length = (TL.tl w).length := TL.len_tl w
    refine ⟨_, (pss_cons (ps_set (i := 1) sc_pair_of.nd rfl (Or.inl rfl) (pe_split (pv 0) pe_str))
      (pss_cons (ps_if (pt_cmpR op_ne (pe_callB (callLen K) (by rfl) T.z_len PySem.boot_len (pa_cons (pv 1) pa_nil)) pe_int (nomark _))
      (pss_one (ps_raise rfl (takes_of rfl rfl rfl rfl) (pmk_own PySem.F.excBase_ValueError T.x_BadNote T.g_BadNote T.k_BadNote (raises_own T.b_BadNote T.t_BadNote) (by exact rfl))))
      pss_nil)
      (pss_one (ps_ret (pe_tup (pa_cons (pe_kc G_number_of (hr.mono (by decide)) (by rfl) (passes_call (takes_of rfl rfl rfl rfl) (fun _ _ _ _ h => h)) (pa_cons (pe_ix (ixL K) (pv 1) pe_int (fun _ _ => rfl)) pa_nil)) (pa_cons (pe_kc G_number_of (hr.mono (by decide)) (by rfl) (passes_call (takes_of rfl rfl rfl rfl) (fun _ _ _ _ h => h)) (pa_cons (pe_ix (ixL K) (pv 1) pe_int (fun _ _ => rfl)) pa_nil)) pa_nil))))))), ?_⟩
    refine ⟨_, rfl, ⟨_, rfl⟩, _, _, rfl, rfl, by decide +kernel, sz (by omega), fun h hh => ?_⟩
    have hH : (upd H h (.lst ((Txt.split w (Str.ofString "-")).map V.str))) h = some (.lst ((Txt.split w (Str.ofString "-")).map V.str)) := upd_same
    have sh := sm_new (o := .lst ((Txt.split w (Str.ofString "-")).map V.str)) hh
    refine ⟨_, rfl, h, _, rfl, .inl (SqL.of hH), rfl, _, rfl, ?_⟩
    rcases halves w with ⟨a, b, e, hc⟩ | ⟨e, hn⟩
    · rw [List.length_map, e]
      refine iteF ?_
      rw [e] at hH sh
      obtain ⟨hc1, _⟩ := cutH_some hc
      have la : a.length ≤ 1000 := by
        have := congrArg List.length hc1
        rw [List.length_append, List.length_cons] at this
        rw [TL.len_tl]
        omega
      have lb : b.length ≤ 1000 := by
        have := congrArg List.length hc1
        rw [List.length_append, List.length_cons] at this
        rw [TL.len_tl]
        omega
      have hno : ∀ {P : Prop}, (numW (TL.tl a) = none ∨ numW (TL.tl b) = none) → pairL (TL.tl w) = none := fun {P} z => by
        cases qq : pairL (TL.tl w) with
        | none => rfl
        | some p =>
          obtain ⟨a', b', m', n', k1, k2, k3, _⟩ := pairL_inv qq
          rw [hc] at k1
          cases k1
          rcases z with z | z
          · rw [z] at k2; cases k2
          · rw [z] at k3; cases k3
      refine ⟨_, rfl, h, _, 0, _, rfl, rfl, SqL.of hH, atI_nat (j := 0) rfl, a, rfl, la, fun m hm => ?_, fun hm => ke (hno (P := True) (.inl hm)) _ sh⟩
      refine ⟨_, rfl, h, _, 1, _, rfl, rfl, SqL.of hH, atI_nat (j := 1) rfl, b, rfl, lb, fun n hn => ?_, fun hn => ke (hno (P := True) (.inr hn)) _ sh⟩
      refine ⟨(by show 2 ≤ sizeLine; decide), fun t ht => ?_⟩
      exact q _ (pairL_of hc hm hn) _ _ (sh.trans (sm_new ht)) ⟨t, rfl, upd_same⟩
    · have ne : decide (V.int ((((Txt.split w (Str.ofString "-")).map V.str).length : Nat) : Int) = V.int 2) = false := by
        rw [dint, List.length_map, decide_eq_false (by omega)]
      rw [ne]
      exact iteT (ke hn _ sh)
end
end Pg

namespace Pg
open PySem L2
section
variable {P : Program} {w : World} {K : PySem.W.Frag} {mg : Str → Option Value} {base : Heap} {ca : CA}
abbrev s_read : Stmt := topS 14
theorem sc_read : FnScope ["text", "words", "pairing", "word"] ["text"] (defScope s_read) := ⟨rfl, rfl, rfl, by decide +kernel, rfl, by decide +kernel, by decide +kernel⟩
/-- the pairing that a text writes, or BadNote -/
def sp_read (K : PySem.W.Frag) (ca : CA) : Sp := fun vs H Q E => ∃ (t : Str), vs = [.str t] ∧ t.length ≤ 900 ∧ (∀ n ps, Reads t n ps → ∀ (H' : Hp) (v : V), Same H H' → PairingAt H' v n ps → Q v H') ∧ ((¬ ∃ n ps, Reads t n ps) → ∀ H', Same H H' → E (.ref ca.BadNote) none H')
theorem ok_read (T : Txt K mg ca) (D : Def K mg "read" ["text"] s_read) (G_number_of : Known P w K mg base (L2.CX P w) 1 "number_of" ["word"] (sp_number_of K ca)) (G_looked : Known P w K mg base (L2N.CX P w) 1 "looked" ["pairing"] (sp_looked K ca)) (G_pair_of : Known P w K mg base (L2.CX P w) 2 "pair_of" ["word"] (sp_pair_of K ca)) : Known P w K mg base (L2.CX P w) 3 "read" ["text"] (sp_read K ca) := by
  refine D.known fun f fd F => F.okX sc_read (fun vs H Q E h => ?_) (fun cdv A outer s H vs Q E hr h => ?_)
  · obtain ⟨_, rfl, _⟩ := h
    rfl
  · obtain ⟨t, rfl, hl, q, ke⟩ := h
    obtain ⟨w, r, hwr⟩ := wordsT_ne t
    obtain ⟨hw1, hw2⟩ := wordsT_len t
    have hw0 : w.length ≤ 900 := by
      have := hw2 w (by rw [hwr]; exact List.mem_cons_self)
      omega
    have hrl : r.length ≤ 901 := by
      rw [hwr, List.length_cons] at hw1
      omega
    refine ⟨_, (pss_cons (ps_set (i := 1) sc_read.nd rfl (Or.inl rfl) (pe_split (pv 0) pe_str))
      (pss_cons (ps_if (pt_cmpR op_ne (pe_slice sl_str (pe_ix (ixL K) (pv 1) pe_int (fun _ _ => rfl)) (po_some (pe_un un_neg pe_int)) po_none) pe_str (nomark _))
      (pss_one (ps_raise rfl (takes_of rfl rfl rfl rfl) (pmk_own PySem.F.excBase_ValueError T.x_BadNote T.g_BadNote T.k_BadNote (raises_own T.b_BadNote T.t_BadNote) (by exact rfl))))
      pss_nil)
      (pss_cons (ps_set (i := 2) sc_read.nd rfl (Or.inl rfl) (pe_tup (pa_cons (pe_kc G_number_of (hr.mono (by decide)) (by rfl) (passes_call (takes_of rfl rfl rfl rfl) (fun _ _ _ _ h => h)) (pa_cons (pe_slice sl_str (pe_ix (ixL K) (pv 1) pe_int (fun _ _ => rfl)) po_none (po_some (pe_un un_neg pe_int))) pa_nil)) (pa_cons (pe_callTy (callTup K) (by rfl) T.z_tuple (by decide +kernel) (pa_cons (pe_lcX (own := [("word", 3)]) (g := gName 3) rfl rfl (takes_of rfl rfl rfl rfl) sc_read.nd (piL K (pe_slice (slL K) (pv 1) (po_some pe_int) po_none)) (blkOk_by (N := ["text", "words", "pairing", "word"]) (sc := defScope s_read) (by decide +kernel)) rfl (fun _ _ _ _ _ _ => (pg_name (i := 3) sc_read.nd rfl (Or.inl rfl))) (fun _ _ _ _ _ _ hx => (pe_kc G_pair_of (hr.mono (by decide)) (by rfl) hx (pa_cons (pv 3) pa_nil)))) pa_nil)) pa_nil))))
      (pss_cons (L2H.ps_try_onlyX (Wout := fun cls d _ H => E cls d H) rfl rfl ⟨rfl, by decide, Or.inl T.g_NoPairing⟩ (L2H.passesAt_of rfl) (takes_of rfl rfl rfl rfl)
      (fun W pn xe tk _ _ => (pss_one (ps_expr (pe_kcS G_looked (hr.mono (by decide)) (by rfl) (fun σ => L2N.passAt tk σ) (pa_cons (pv 2) pa_nil)))))
      (fun a oe cls d pn hz hf tk hot => (pss_one (L2H.ps_raiseH hot tk (L2N.pmk_own PySem.F.excBase_ValueError T.x_BadNote T.g_BadNote T.k_BadNote (raises_own T.b_BadNote T.t_BadNote) (by exact rfl))))))
      (pss_one (ps_ret (pv 2))))))), ?_⟩
    -- words = text.split(" ")
    refine ⟨_, rfl, ⟨_, rfl⟩, _, _, rfl, rfl, by decide +kernel, sz (by omega), fun wl hwl => ?_⟩
    have eW : (Txt.split t (Str.ofString " ")).map V.str = .str w :: r.map V.str := by
      show (wordsT t).map V.str = _
      rw [hwr]
      rfl
    rw [eW]
    have hW : (upd H wl (.lst (.str w :: r.map V.str))) wl = some (.lst (.str w :: r.map V.str)) := upd_same
    have sw := sm_new (o := .lst (.str w :: r.map V.str)) hwl
    -- words[0][-1:] != ":"
    refine ⟨_, rfl, wl, _, 0, _, rfl, rfl, SqL.of hW, atI_nat (j := 0) rfl, _, rfl, _, rfl, w, rfl, sz (by omega), rfl, _, rfl, ?_⟩
    obtain ⟨hc1, hc2⟩ := cut_last w
    have hcol : decide (V.str (cutS w (some (-1)) none) = V.str (Str.ofString ":")) = decide ((TL.tl w).drop ((TL.tl w).length - 1) = [58]) := by
      rw [dstr, decide_eq_decide, ← hc1, ← tl_colon]
      exact ⟨fun e => by rw [e], TL.ext_tl⟩
    rw [hcol]
    by_cases c1 : (TL.tl w).drop ((TL.tl w).length - 1) = [58]
    · rw [decide_eq_true c1]
      refine iteF ?_
      have hwi : (cutS w none (some (-1))).length ≤ 1000 := by
        have := cutS_length w none (some (-1))
        omega
      have noNum : numW ((TL.tl w).take ((TL.tl w).length - 1)) = none → ¬ ∃ n ps, Reads t n ps := fun e ⟨n, ps, w', r', k, e1, e2, e3, _⟩ => by
        rw [hwr] at e1
        cases e1
        rw [e] at e3
        cases e3
      -- pairing = (number_of(words[0][:-1]), tuple([..]))
      refine ⟨_, rfl, wl, _, 0, _, rfl, rfl, SqL.of hW, atI_nat (j := 0) rfl, _, rfl, _, rfl, w, rfl, sz (by omega), _, rfl, hwi, fun k hk => ?_, fun hk => ke (noNum (by rw [← hc2]; exact hk)) _ sw⟩
      rw [hc2] at hk
      with_reducible refine cns (cb (cns ?_))
      refine lcLX (K := K) PairAt (fun u : Str => pairL (TL.tl u)) V.str r (fun e h => h.mono e) (fun Q q => ?_) (by omega) (fun i u hu H1 D acc s1 hD Q Z kk => ?_) (fun ps hps H1 l ys s1 hl1 hys hP => ?_)
      · refine ⟨_, rfl, _, rfl, wl, _, rfl, SqL.of hW, fun u hu => ?_⟩
        have e : cutV (V.str w :: r.map V.str) (some 1) none = r.map V.str := by
          rw [cut_from _ _ (by decide)]
          rfl
        rw [e]
        exact q u _ (sm_new hu) (SqL.of upd_same)
      · have hm := List.mem_of_getElem? hu
        have hul : u.length ≤ 1000 := by
          have := hw2 u (by rw [hwr]; exact List.mem_cons_of_mem _ hm)
          omega
        refine ⟨rfl, yesI ⟨_, rfl, u, rfl, hul, fun p hp H2 v s2 hv => kk p hp H2 v s2 ?_, fun hn H2 s2 => ke (fun ⟨n, ps, w', r', k', e1, _, _, _, e5, _⟩ => ?_) _ ((sw.trans s1).trans s2)⟩⟩
        · obtain ⟨z, rfl, hz⟩ := hv
          exact ⟨z, rfl, by rw [del_ne (ne_of hz (s2 _ _ hD) (by intro z; cases z))]; exact hz⟩
        · rw [hwr] at e1
          cases e1
          obtain ⟨b, _, hb⟩ := paired_get' e5 hu
          rw [hn] at hb
          cases hb
      · refine ⟨l, ys, rfl, .inl ⟨SqL.of hys, fun z hz => ⟨(by show 2 ≤ sizeLine; decide), fun u hu => ?_⟩⟩⟩
        have hpg : PairingAt (upd (upd H1 z (.tup ys)) u (.tup [.int (k : Int), .ref z])) (.ref u) (k : Int) ps :=
          ⟨u, z, ys, rfl, upd_same, by rw [upd_ne (ne_of_none upd_same hu), upd_same], ((PairsAt.mono (sm_new hz) (paired_mono (fun q => q.mono del_sub) hP)).mono (sm_new hu))⟩
        have sF := ((sw.trans s1).trans (sm_new (o := .tup ys) hz)).trans (sm_new (o := .tup [.int (k : Int), .ref z]) hu)
        have hpl := paired_length hps
        refine ⟨_, rfl, .ref u, (k : Int), ps, rfl, hpg, by omega, fun hg H5 s5 => ?_, fun hg H5 s5 => ?_⟩
        · exact ⟨_, rfl, q _ _ ⟨w, r, k, hwr, c1, hk, rfl, hps, hg⟩ H5 _ (sF.trans s5) (hpg.mono s5)⟩
        · refine ⟨true, T.me_NoPairing, fun _ a ha => ke (fun ⟨n', ps', w', r', k', e1, e2, e3, e4, e5, e6⟩ => ?_) _ (sF.trans s5), fun z => Bool.noConfusion z⟩
          rw [hwr] at e1
          cases e1
          rw [hk] at e3
          cases e3
          have e7 := paired_fun e5 hps
          subst e7
          rw [e4] at e6
          exact hg e6
    · rw [decide_eq_false c1]
      refine iteT (ke (fun ⟨n, ps, w', r', k, e1, e2, _⟩ => ?_) _ sw)
      rw [hwr] at e1
      cases e1
      exact c1 e2
end
end Pg

namespace Pg
open PySem L2
section
variable {P : Program} {w : World} {K : PySem.W.Frag} {mg : Str → Option Value} {base : Heap} {ca : CA}
abbrev s_law_told : Stmt := topS 28
theorem sc_law_told : FnScope ["text", "found", "e"] ["text"] (defScope s_law_told) := ⟨rfl, rfl, rfl, by decide +kernel, rfl, by decide +kernel, by decide +kernel⟩
/-- what the program tells of a text: the pairing, or what was raised -/
def sp_law_told (K : PySem.W.Frag) : Sp := fun vs H Q _ => ∃ (t : Str), vs = [.str t] ∧ t.length ≤ 900 ∧ (∀ n ps, Reads t n ps → ∀ (H' : Hp) (v : V), Same H H' → PairingAt H' v n ps → Q v H') ∧
  ((¬ ∃ n ps, Reads t n ps) → ∀ (H' : Hp) (l : Addr), Same H H' → H' l = some (.lst ([true, false, false, false, false, true].map V.bl)) → Q (.ref l) H')
theorem ok_law_told (T : Txt K mg ca) (D : Def K mg "_law_told" ["text"] s_law_told) (G_read : Known P w K mg base (L2.CX P w) 3 "read" ["text"] (sp_read K ca)) : Known P w K mg base CX0 4 "_law_told" ["text"] (sp_law_told K) := by
  refine D.known fun f fd F => F.ok sc_law_told (fun vs H Q E h => ?_) (fun cdv A outer s H vs Q E hr h => ?_)
  · obtain ⟨_, rfl, _⟩ := h
    rfl
  · obtain ⟨t, rfl, hl, q, ke⟩ := h
    refine ⟨_, (pss_cons (ps_set (i := 1) sc_law_told.nd rfl (Or.inl rfl) pe_non)
      (pss_cons (ps_try_as (i := 2) (Wout := fun _ _ _ _ => False) rfl rfl sc_law_told.nd rfl rfl ⟨rfl, by decide, Or.inl T.g_PairError⟩ takes0
      (fun W pn xe tk _ => (pss_one (ps_set (i := 1) sc_law_told.nd rfl (Or.inl rfl) (pe_kcS G_read (hr.mono (by decide)) (by rfl) (fun σ => passAt tk σ) (pa_cons (pv 0) pa_nil)))))
      (fun a oe cls d pn hz hf => (pss_cons (ps_set (i := 1) sc_law_told.nd rfl (Or.inl rfl) (pe_lst (pa_cons (pe_callB (call_isE2 K T.ec_BadNote hz hf) (by rfl) T.z_isinstance (by decide +kernel) (pa_cons (pv 2) (pa_cons (pe_glob (v := .ref ca.BadNote) rfl T.g_BadNote rfl) pa_nil))) (pa_cons (pe_callB (call_isE2 K T.ec_BadNote hz hf) (by rfl) T.z_isinstance (by decide +kernel) (pa_cons (pv 2) (pa_cons (pe_glob (v := .ref ca.NoPairing) rfl T.g_NoPairing rfl) pa_nil))) (pa_cons (pe_callB (call_isE2 K T.ec_BadNote hz hf) (by rfl) T.z_isinstance (by decide +kernel) (pa_cons (pv 2) (pa_cons (pe_glob (v := .ref ca.NoWalk) rfl T.g_NoWalk rfl) pa_nil))) (pa_cons (pe_callB (call_isE2 K T.ec_BadNote hz hf) (by rfl) T.z_isinstance (by decide +kernel) (pa_cons (pv 2) (pa_cons (pe_glob (v := .ref ca.NoNumber) rfl T.g_NoNumber rfl) pa_nil))) pa_nil))))))
      (pss_one (ps_set (i := 1) sc_law_told.nd rfl (Or.inl rfl) (pe_op op_cat (pv 1) (pe_lst (pa_cons (pe_callB (call_isE2 K T.ec_BadNote hz hf) (by rfl) T.z_isinstance (by decide +kernel) (pa_cons (pv 2) (pa_cons (pe_glob (v := .ref ca.TooMany) rfl T.g_TooMany rfl) pa_nil))) (pa_cons (pe_callB (call_isE2 K T.ec_BadNote hz hf) (by rfl) T.z_isinstance (by decide +kernel) (pa_cons (pv 2) (pa_cons (pe_bltn (v := .ty "ValueError") (by rfl) T.z_ValueError (by decide +kernel) rfl) pa_nil))) pa_nil)))))))))
      (pss_one (ps_ret (pv 1))))), ?_⟩
    refine ⟨_, rfl, t, rfl, hl, fun n ps hr H2 v s2 hv => ?_, fun hno H2 s2 => ?_⟩
    · exact ⟨_, rfl, q n ps hr H2 v s2 hv⟩
    · refine ⟨true, T.me_BadNote, fun _ a ha => ?_, fun z => Bool.noConfusion z⟩
      refine ⟨_, rfl, rfl, rfl, _, _, true, rfl, fun u r => r, T.i_BadNote_BadNote, _, rfl, rfl, rfl, _, _, false, rfl, fun u r => r, T.i_BadNote_NoPairing, ?_⟩
      refine ⟨_, rfl, rfl, rfl, _, _, false, rfl, fun u r => r, T.i_BadNote_NoWalk, _, rfl, rfl, rfl, _, _, false, rfl, fun u r => r, T.i_BadNote_NoNumber, ?_⟩
      refine ⟨by show 4 ≤ sizeLine; decide, fun l1 h1 => ?_⟩
      refine ⟨_, rfl, _, rfl, rfl, rfl, _, _, false, rfl, fun u r => r, T.i_BadNote_TooMany, _, rfl, rfl, rfl, _, _, true, rfl, fun u r => r, T.i_BadNote_VE, ?_⟩
      refine ⟨by show 2 ≤ sizeLine; decide, fun l2 h2 => ?_⟩
      have hl1 : (upd H2 l1 (.lst [.bl true, .bl false, .bl false, .bl false])) l1 = some (.lst [.bl true, .bl false, .bl false, .bl false]) := upd_same
      have n12 := ne_of_none hl1 h2
      refine ⟨l1, l2, _, _, rfl, rfl, by rw [upd_ne n12]; exact hl1, upd_same, by show 6 ≤ sizeLine; decide, fun l3 h3 => ?_⟩
      exact ⟨_, rfl, ke hno _ l3 (((s2.trans (sm_new h1)).trans (sm_new h2)).trans (sm_new h3)) upd_same⟩
end
end Pg

namespace Pg
open PySem L2
section
variable {P : Program} {w : World} {K : PySem.W.Frag} {mg : Str → Option Value} {base : Heap} {ca : CA}
abbrev s_law_whole : Stmt := topS 17
theorem sc_law_whole : FnScope ["found"] ["found"] (defScope s_law_whole) := ⟨rfl, rfl, rfl, by decide +kernel, rfl, by decide +kernel, by decide +kernel⟩
def sp_law_whole (K : PySem.W.Frag) : Sp := fun vs H Q _ => ∃ (i : Int), vs = [.int i] ∧ Q (.bl true) H
theorem ok_law_whole (T : Txt K mg ca) (D : Def K mg "_law_whole" ["found"] s_law_whole) : Known P w K mg base CX0 1 "_law_whole" ["found"] (sp_law_whole K) := by
  refine D.known fun f fd F => F.ok sc_law_whole (fun vs H Q E h => ?_) (fun cdv A outer s H vs Q E hr h => ?_)
  · obtain ⟨_, rfl, _⟩ := h
    rfl
  · obtain ⟨i, rfl, q⟩ := h
    refine ⟨_, (pss_one (ps_ret (pe_and (pe_callB (callIsi K) (by rfl) T.z_isinstance (by decide +kernel) (pa_cons (pv 0) (pa_cons (pe_bltn (v := .ty "int") (by rfl) T.z_int (by decide +kernel) rfl) pa_nil))) (pe_one (pe_not (pe_callB (callIsi K) (by rfl) T.z_isinstance (by decide +kernel) (pa_cons (pv 0) (pa_cons (pe_bltn (v := .ty "bool") (by rfl) T.z_bool (by decide +kernel) rfl) pa_nil)))))))), ?_⟩
    refine ⟨_, rfl, .int i, .ty "int", .type "int", .type "int", true, rfl, .ty _, .base (.int i), kit_ty (by decide +kernel), _, rfl, iteT ?_⟩
    exact ⟨_, rfl, .int i, .ty "bool", .type "int", .type "bool", false, rfl, .ty _, .base (.int i), kit_ty (by decide +kernel), _, rfl, q⟩
end
end Pg

namespace Pg
open PySem L2
section
variable {P : Program} {w : World} {K : PySem.W.Frag} {mg : Str → Option Value} {base : Heap} {ca : CA}
abbrev s_law_is_pairing : Stmt := topS 23
theorem sc_law_is_pairing : FnScope ["found", "due", "pair"] ["found", "due"] (defScope s_law_is_pairing) := ⟨rfl, rfl, rfl, by decide +kernel, rfl, by decide +kernel, by decide +kernel⟩
def sp_law_is_pairing (K : PySem.W.Frag) : Sp := fun vs H Q _ => ∃ (v u : V) (n : Int) (ps : List Pr), vs = [v, u] ∧ PairingAt H v n ps ∧ PairingAt H u n ps ∧ Q (.bl true) H
theorem ok_law_is_pairing (T : Txt K mg ca) (D : Def K mg "_law_is_pairing" ["found", "due"] s_law_is_pairing) (G_law_whole : Known P w K mg base CX0 1 "_law_whole" ["found"] (sp_law_whole K)) : Known P w K mg base CX0 2 "_law_is_pairing" ["found", "due"] (sp_law_is_pairing K) := by
  refine D.known fun f fd F => F.ok sc_law_is_pairing (fun vs H Q E h => ?_) (fun cdv A outer s H vs Q E hr h => ?_)
  · obtain ⟨_, _, _, _, rfl, _⟩ := h
    rfl
  · obtain ⟨v, u, n, ps, rfl, h1, h2, q⟩ := h
    have d1 := h1.dp (K := K)
    have d2 := h2.dp (K := K)
    obtain ⟨a, b, xs, rfl, a1, a2, a3⟩ := h1
    have g0 : atI [V.int n, V.ref b] 0 = some (.int n) := atI_nat (j := 0) rfl
    have g1 : atI [V.int n, V.ref b] 1 = some (.ref b) := atI_nat (j := 1) rfl
    refine ⟨_, (pss_cons (ps_if (PW.pt (pw_or (pt_not (pt_val (pe_callB (callIsi K) (by rfl) T.z_isinstance (by decide +kernel) (pa_cons (pv 0) (pa_cons (pe_bltn (v := .ty "tuple") (by rfl) T.z_tuple (by decide +kernel) rfl) pa_nil))))) (pw_or (pt_cmpR op_ne (pe_callB (callLen K) (by rfl) T.z_len PySem.boot_len (pa_cons (pv 0) pa_nil)) pe_int (nomark _)) (pw_or (pt_not (pt_val (pe_kc G_law_whole (hr.mono (by decide)) (by rfl) pass0 (pa_cons (pe_ix (ixT K) (pv 0) pe_int (fun _ _ => rfl)) pa_nil)))) (pw_or1 (pt_cmpR (neD K hr.units) (pv 0) (pv 1) (nomark _)))))))
      (pss_one (ps_ret pe_bl))
      pss_nil)
      (pss_cons (ps_if (pt_not (pt_val (pe_callB (callIsi K) (by rfl) T.z_isinstance (by decide +kernel) (pa_cons (pe_ix (ixT K) (pv 0) pe_int (fun _ _ => rfl)) (pa_cons (pe_bltn (v := .ty "tuple") (by rfl) T.z_tuple (by decide +kernel) rfl) pa_nil)))))
      (pss_one (ps_ret pe_bl))
      pss_nil)
      (pss_cons (ps_for PassesOwn.never rfl (piT K (pe_ix (ixT K) (pv 0) pe_int (fun _ _ => rfl))) (pg_name (i := 2) sc_law_is_pairing.nd rfl (Or.inl rfl))
      (pss_one (ps_if (PW.pt (pw_or (pt_not (pt_val (pe_callB (callIsi K) (by rfl) T.z_isinstance (by decide +kernel) (pa_cons (pv 2) (pa_cons (pe_bltn (v := .ty "tuple") (by rfl) T.z_tuple (by decide +kernel) rfl) pa_nil))))) (pw_or (pt_not (pt_val (pe_kc G_law_whole (hr.mono (by decide)) (by rfl) pass0 (pa_cons (pe_ix (ixT K) (pv 2) pe_int (fun _ _ => rfl)) pa_nil)))) (pw_or1 (pt_not (pt_val (pe_kc G_law_whole (hr.mono (by decide)) (by rfl) pass0 (pa_cons (pe_ix (ixT K) (pv 2) pe_int (fun _ _ => rfl)) pa_nil))))))))
      (pss_one (ps_ret pe_bl))
      pss_nil)))
      (pss_one (ps_ret pe_bl))))), ?_⟩
    refine ⟨_, rfl, .ref a, .ty "tuple", .type "tuple", .type "tuple", true, rfl, .ty _, .base (.tup a1), kit_ty (by decide +kernel), _, rfl, iteF ?_⟩
    refine ⟨_, rfl, a, _, rfl, .inr (SqT.of a1), rfl, _, rfl, iteF ?_⟩
    refine ⟨_, rfl, a, _, 0, _, rfl, rfl, SqT.of a1, g0, n, rfl, _, rfl, iteF ?_⟩
    refine ⟨_, rfl, _, rfl, _, _, d1, d2, (shp_pgD n ps).shaped, (shp_pgD n ps).shaped, _, rfl, ?_⟩
    rw [(shp_pgD n ps).refl]
    refine iteF ?_
    refine ⟨_, rfl, a, _, 1, _, rfl, rfl, SqT.of a1, g1, .ref b, .ty "tuple", .type "tuple", .type "tuple", true, rfl, .ty _, .base (.tup a2), kit_ty (by decide +kernel), _, rfl, iteF ?_⟩
    refine ⟨_, rfl, a, _, 1, _, rfl, rfl, SqT.of a1, g1, b, rfl, ⟨_, SqT.of a2⟩, ?_⟩
    refine for_tup (K := K) (a := b) (xs := xs) (fun i σ H' => ∃ x2, σ = [some (.ref a), some u, x2] ∧ H' = H) ⟨none, rfl, rfl⟩ (fun i σ H' _ ⟨_, _, e⟩ => by rw [e]; exact SqT.of a2) ?_ ?_
    · rintro i x σ H' hx ⟨x2, rfl, rfl⟩
      obtain ⟨p, hp, t, rfl, ht⟩ := paired_get' a3 hx
      have t0 : atI [V.int p.1, V.int p.2] 0 = some (.int p.1) := atI_nat (j := 0) rfl
      have t1 : atI [V.int p.1, V.int p.2] 1 = some (.int p.2) := atI_nat (j := 1) rfl
      refine ⟨_, rfl, .ref t, .ty "tuple", .type "tuple", .type "tuple", true, rfl, .ty _, .base (.tup ht), kit_ty (by decide +kernel), _, rfl, iteF ?_⟩
      refine ⟨_, rfl, t, _, 0, _, rfl, rfl, SqT.of ht, t0, _, rfl, _, rfl, iteF ?_⟩
      refine ⟨_, rfl, t, _, 1, _, rfl, rfl, SqT.of ht, t1, _, rfl, _, rfl, iteF ?_⟩
      exact ⟨_, rfl, rfl⟩
    · rintro σ H' ⟨x2, rfl, rfl⟩
      exact q
end
end Pg

namespace Pg
open PySem L2
section
variable {P : Program} {w : World} {K : PySem.W.Frag} {mg : Str → Option Value} {base : Heap} {ca : CA}
abbrev s_law : Stmt := topS 30
theorem sc_law : FnScope ["script", "pairing", "text", "k", "spoiled", "due", "found", "pair"] ["script"] (defScope s_law) := ⟨rfl, rfl, rfl, by decide +kernel, rfl, by decide +kernel, by decide +kernel⟩
def sp_law (K : PySem.W.Frag) : Sp := fun vs H Q _ => ∃ (a : Addr) (ns : List Int), vs = [.ref a] ∧ SqL K H a (ns.map V.int) ∧ ns.length ≤ 63 ∧ ∀ H', Q (.bl true) H'
theorem ok_law {f : Addr} {fd : FuncData} (T : Txt K mg ca) (F : Fun K "law" "law" s_law f fd) (G_law_of_walk : Known P w K mg base CX0 1 "_law_of_walk" ["walk"] (sp_law_of_walk K)) (G_law_drawn : Known P w K mg base CX0 3 "_law_drawn" ["script", "start", "most"] (sp_law_drawn K)) (G_law_spoiled : Known P w K mg base CX0 2 "_law_spoiled" ["text", "cell"] (sp_law_spoiled K)) (G_law_due : Known P w K mg base CX0 2 "_law_due" ["text"] (sp_law_due K)) (G_law_told : Known P w K mg base CX0 4 "_law_told" ["text"] (sp_law_told K)) (G_law_cell_at : Known P w K mg base CX0 1 "_law_cell_at" ["script", "k"] (sp_law_cell_at K)) (G_law_is_pairing : Known P w K mg base CX0 2 "_law_is_pairing" ["found", "due"] (sp_law_is_pairing K)) : FnOk P w K mg base CX0 5 f fd ["script"] (sp_law K) := by
  refine F.ok sc_law (fun vs H Q E h => ?_) (fun cdv A outer s H vs Q E hr h => ?_)
  · obtain ⟨_, _, rfl, _⟩ := h
    rfl
  · obtain ⟨a, ns, rfl, hS, hlen, q⟩ := h
    refine ⟨_, (pss_cons (ps_set (i := 1) sc_law.nd rfl (Or.inl rfl) (pe_kc G_law_of_walk (hr.mono (by decide)) (by rfl) pass0 (pa_cons (pe_kc G_law_drawn (hr.mono (by decide)) (by rfl) pass0 (pa_cons (pv 0) (pa_cons pe_int (pa_cons pe_int pa_nil)))) pa_nil)))
      (pss_cons (ps_set (i := 2) sc_law.nd rfl (Or.inl rfl) (pe_join pe_str (pe_op op_cat (pe_lst (pa_cons (pe_op op_add_str (pe_callTy call_str_int (by rfl) T.z_str (by decide +kernel) (pa_cons (pe_ix (ixT K) (pv 1) pe_int (fun _ _ => rfl)) pa_nil)) pe_str) pa_nil)) (pe_lc (own := [("pair", 7)]) (g := gName 7) (tt := tYes) rfl sc_law.nd (piT K (pe_ix (ixT K) (pv 1) pe_int (fun _ _ => rfl))) (blkOk_by (N := ["script", "pairing", "text", "k", "spoiled", "due", "found", "pair"]) (sc := defScope s_law) (by decide +kernel)) (fun _ _ _ _ _ => (pg_name (i := 7) sc_law.nd rfl (Or.inl rfl))) (fun _ _ _ _ _ => pts_nil) (fun _ _ _ _ _ => (pe_op op_add_str (pe_op op_add_str (pe_callTy call_str_int (by rfl) T.z_str (by decide +kernel) (pa_cons (pe_ix (ixT K) (pv 7) pe_int (fun _ _ => rfl)) pa_nil)) pe_str) (pe_callTy call_str_int (by rfl) T.z_str (by decide +kernel) (pa_cons (pe_ix (ixT K) (pv 7) pe_int (fun _ _ => rfl)) pa_nil))))))))
      (pss_cons (ps_for PassesOwn.never rfl (pi_range1 (by rfl) T.z_range (pa_cons pe_int pa_nil)) (pg_name (i := 3) sc_law.nd rfl (Or.inl rfl))
      (pss_cons (ps_set (i := 4) sc_law.nd rfl (Or.inl rfl) (pe_kc G_law_spoiled (hr.mono (by decide)) (by rfl) pass0 (pa_cons (pv 2) (pa_cons (pe_kc G_law_cell_at (hr.mono (by decide)) (by rfl) pass0 (pa_cons (pv 0) (pa_cons (pe_op op_add pe_int (pv 3)) pa_nil))) pa_nil))))
      (pss_cons (ps_set (i := 5) sc_law.nd rfl (Or.inl rfl) (pe_kc G_law_due (hr.mono (by decide)) (by rfl) pass0 (pa_cons (pv 4) pa_nil)))
      (pss_cons (ps_set (i := 6) sc_law.nd rfl (Or.inl rfl) (pe_kc G_law_told (hr.mono (by decide)) (by rfl) pass0 (pa_cons (pv 4) pa_nil)))
      (pss_one (ps_if (pt_cmpR op_isN (pv 5) pe_non (nomark _))
      (pss_one (ps_if (pt_cmpR (neD K hr.units) (pv 6) (pe_lst (pa_cons pe_bl (pa_cons pe_bl (pa_cons pe_bl (pa_cons pe_bl (pa_cons pe_bl (pa_cons pe_bl pa_nil))))))) (nomark _))
      (pss_one (ps_ret pe_bl))
      pss_nil))
      (pss_one (ps_if (pt_not (pt_val (pe_kc G_law_is_pairing (hr.mono (by decide)) (by rfl) pass0 (pa_cons (pv 6) (pa_cons (pv 5) pa_nil)))))
      (pss_one (ps_ret pe_bl))
      pss_nil))))))))
      (pss_one (ps_ret pe_bl))))), ?_⟩
    refine ⟨_, rfl, a, ns, 0, 12, rfl, hS, by decide, by decide, by decide, fun ws H1 w1 hrun hlw s1 _ hw1 => ?_⟩
    refine ⟨w1, ws, 0, rfl, SqL.of hw1, hrun, by omega, fun H2 v s2 hpg => ?_⟩
    have hg := good_prs hrun hlw
    have hl := prs_len ws
    obtain ⟨n, hn⟩ : ∃ n : Int, (ws.length : Int) = n := ⟨_, rfl⟩
    obtain ⟨ps, hps⟩ : ∃ ps : List Pr, prs ws = ps := ⟨_, rfl⟩
    rw [hn, hps] at hpg hg
    rw [hps] at hl
    obtain ⟨b, c, xs, rfl, h1, h2, h3⟩ := hpg
    have hlen3 := paired_length h3
    have n0 := hg.n0
    have n1 := hg.n1
    have s12 := s1.trans s2
    have hp : ∀ p ∈ ps, (0 ≤ p.1 ∧ p.1 < 100) ∧ 0 ≤ p.2 ∧ p.2 < 100 := fun p m => by
      obtain ⟨f1, f2, f3⟩ := hg.fine p m
      omega
    have g0 : atI [V.int n, V.ref c] 0 = some (.int n) := atI_nat (j := 0) rfl
    have g1 : atI [V.int n, V.ref c] 1 = some (.ref c) := atI_nat (j := 1) rfl
    have lg : ∀ i : Int, 0 ≤ i → i < 100 → i.natAbs.log2 < 1920 := fun i h0 h1 => by
      refine Nat.lt_of_le_of_lt (Nat.log2_le_self _) ?_
      omega
    have hhl := headTx_len n0 (show n < 100 by omega)
    have lc : (Str.ofString ":").length = 1 := by decide +kernel
    have lh : (Str.ofString "-").length = 1 := by decide +kernel
    have lb : (Str.ofString " ").length = 1 := by decide +kernel
    have addl : ∀ x y : Str, (x ++ y).length = x.length + y.length := fun x y => by rw [TL.len_tl, TL.len_tl, TL.len_tl, TL.tl_append, List.length_append]
    have e2 : (Str.ofString (toString n)).length ≤ 2 := numS_len n0 (show n < 100 by omega)
    -- text = " ".join([str(pairing[0]) + ":"] + [..])
    refine ⟨⟨_, rfl⟩, _, rfl, b, _, 0, _, rfl, rfl, SqT.of h1, g0, n, rfl, lg n n0 (by omega), _, _, rfl, rfl, sz (by omega), (by show 1 ≤ sizeLine; decide), fun w hw => ?_⟩
    have sw := sm_new (o := .lst [.str (headTx n)]) hw
    refine lcTD (K := K) (a := c) (xs := xs) (fun _ v (b : Str) => v = .str b) (ps.map pairTx) (fun _ h => h) (fun Q q => ⟨_, rfl, b, _, 1, _, rfl, rfl, SqT.of (sw _ _ h1), g1, q⟩) (SqT.of (sw _ _ h2)) (by rw [List.length_map]; exact hlen3.symm) (by omega) (fun i x u hx hb H1 D acc s1 hD Q Z k => ?_) (fun H3 l ys s3 hl1 hys hP => ?_)
    · obtain ⟨p, hpp, t, rfl, ht⟩ := paired_get' h3 hx
      obtain ⟨⟨p1, p2⟩, p3, p4⟩ := hp p (List.mem_of_getElem? hpp)
      rw [List.getElem?_map, hpp] at hb
      have eu := (Option.some.inj hb).symm
      subst eu
      have l1' : (Str.ofString (toString p.1)).length ≤ 2 := numS_len p1 p2
      have l2' : (Str.ofString (toString p.2)).length ≤ 2 := numS_len p3 p4
      have t0 : atI [V.int p.1, V.int p.2] 0 = some (.int p.1) := atI_nat (j := 0) rfl
      have t1 : atI [V.int p.1, V.int p.2] 1 = some (.int p.2) := atI_nat (j := 1) rfl
      have ht := s1 _ _ (sw _ _ ht)
      refine ⟨rfl, yesI ?_⟩
      refine ⟨_, rfl, t, _, 0, _, rfl, rfl, SqT.of ht, t0, p.1, rfl, lg _ p1 p2, _, _, rfl, rfl, sz (by omega), _, rfl, t, _, 1, _, rfl, rfl, SqT.of ht, t1, p.2, rfl, lg _ p3 p4, _, _, rfl, rfl, sz (by rw [addl]; omega), ?_⟩
      exact k _ _ (Same.refl _) rfl
    have eys : ys = (ps.map pairTx).map V.str := by
      clear hys
      revert hP
      generalize ps.map pairTx = us
      intro hP
      induction hP with
      | nil => rfl
      | cons e _ ih => rw [e, ih]; rfl
    have hyl : ys.length = ps.length := by rw [eys, List.length_map, List.length_map]
    have hw1 := s3 _ _ (upd_same (H := H2) (a := w) (o := .lst [.str (headTx n)]))
    refine ⟨w, l, _, _, rfl, rfl, hw1, hys, sz (by show 1 + ys.length ≤ 100000; omega), fun o ho => ?_⟩
    have e : [V.str (headTx n)] ++ ys = (wordsOf n ps).map V.str := by
      rw [eys]
      rfl
    rw [e]
    have so := (sw.trans s3).trans (sm_new (o := .lst ((wordsOf n ps).map V.str)) ho)
    refine ⟨_, o, wordsOf n ps, rfl, rfl, .inl (SqL.of upd_same), ?_, ?_⟩
    · have e1 : (Str.ofString " ").length = 1 := by decide +kernel
      have e2 : (wordsOf n ps).length = ps.length + 1 := by
        unfold wordsOf
        rw [List.length_cons, List.length_map]
      have e3 : ((wordsOf n ps).map (·.length)).sum ≤ (wordsOf n ps).length * 5 := by
        have : ∀ ws : List Str, (∀ w ∈ ws, w.length ≤ 5) → (ws.map (·.length)).sum ≤ ws.length * 5 := by
          intro ws
          induction ws with
          | nil => intro _; exact Nat.le_refl _
          | cons w r ih =>
            intro h
            have h1 := ih fun x m => h x (List.mem_cons_of_mem _ m)
            have h2 := h w List.mem_cons_self
            rw [List.map_cons, List.sum_cons, List.length_cons]
            omega
        refine this _ fun w m => ?_
        rcases List.mem_cons.mp m with e | m
        · rw [e]
          omega
        · obtain ⟨p, hpm, e⟩ := List.mem_map.mp m
          rw [← e]
          exact pairTx_len (hp p hpm).1.1 (hp p hpm).1.2 (hp p hpm).2.1 (hp p hpm).2.2
      rw [e1, e2]
      omega
    rw [TL.join_eq]
    show gName 2 (V.str (textOf n ps)) _ _ _
    obtain ⟨tx, etx⟩ : ∃ tx, textOf n ps = tx := ⟨_, rfl⟩
    have htx : tx.length ≤ 400 := by
      rw [← etx, ← grow_eq]
      have := grow_len n0 (show n < 100 by omega) ps hp
      omega
    rw [etx]
    have sO := s12.trans so
    -- for k in range(5)
    refine ⟨5, rfl, by decide, by decide, ?_⟩
    refine for_range (lo := 0) (n := (5 : Int).toNat) (fun i σ H' => ∃ (x3 x4 x5 x6 : Option V), σ = [some (.ref a), some (.ref b), some (.str tx), x3, x4, x5, x6, none] ∧ Same H H') ?_ ?_ ?_
    · exact ⟨none, none, none, none, rfl, sO⟩
    · rintro i σ H' hi ⟨x3, x4, x5, x6, rfl, hs⟩
      refine ⟨_, rfl, _, rfl, _, rfl, _, _, rfl, rfl, a, ns, _, rfl, hs.seq hS, by omega, ?_⟩
      refine ⟨tx, _, rfl, htx, fun u H4 s4 hu => ?_⟩
      refine ⟨_, rfl, u, rfl, hu, fun m qs hr H5 v5 s5 hv5 => ?_, fun hno H5 s5 => ?_⟩
      · refine ⟨_, rfl, u, rfl, hu, fun m2 qs2 hr2 H6 v6 s6 hv6 => ?_, fun hno => absurd ⟨_, _, hr⟩ hno⟩
        obtain ⟨rfl, rfl⟩ := hr.uniq hr2
        have hv5' := hv5.mono s6
        obtain ⟨z, _, _, rfl, _⟩ := hv5
        refine ⟨_, rfl, rfl, _, rfl, iteF ?_⟩
        refine ⟨_, rfl, _, rfl, v6, .ref z, m, qs, rfl, hv6, hv5', _, rfl, iteF ?_⟩
        exact ⟨_, _, _, _, rfl, ((hs.trans s4).trans s5).trans s6⟩
      · refine ⟨_, rfl, u, rfl, hu, fun m2 qs2 hr2 => absurd ⟨_, _, hr2⟩ hno, fun _ H6 l6 s6 hl6 => ?_⟩
        refine ⟨_, rfl, rfl, _, rfl, iteT ?_⟩
        refine ⟨_, rfl, by show 6 ≤ sizeLine; decide, fun l4 h4 => ?_⟩
        refine ⟨.list ([true, false, false, false, false, true].map PyData.bool), .list ([true, false, false, false, false, true].map PyData.bool), .lst (SqL.of (sm_new h4 _ _ hl6)) (bools_dp [true, false, false, false, false, true]), .lst (SqL.of upd_same) (bools_dp [true, false, false, false, false, true]), (shp_bools _).shaped, (shp_bools _).shaped, _, rfl, ?_⟩
        rw [(shp_bools _).refl]
        exact iteF ⟨_, _, _, _, rfl, (((hs.trans s4).trans s5).trans s6).trans (sm_new h4)⟩
    · rintro σ H' ⟨x3, x4, x5, x6, rfl, hs⟩
      exact q _
end
end Pg

namespace Pg
open PySem L2
theorem def_mk {K : PySem.W.Frag} {mg : Str → Option Value} {h : Heap} (X : K.In h) (G : h.Ns mainGlobals mg) {x : Str} {st : Stmt} {ps : List Str} {f : Addr} {oc : Value} {od an : Option Addr} {osl : Array (Option Value)} {kV doc pm cdv ct : Value}
    (a : PySem.W.nsIn K mainGlobals x = some (some (.ref f))) (l : K.lookup f = some ⟨oc, od, .func (PySem.W.fnOf x x (defArgs st) (defBody st) (defScope st) .none kV doc pm an cdv ct), osl⟩) (c : PySem.W.codeIn K cdv x = true) (k : PySem.W.keepIn K (.ref f) = true)
    (b : ∀ (kV doc pm : Value) (an : Option Addr) (cdv ct : Value) (us : List Value), us.length = ps.length → bindArgs (PySem.W.fnOf x x (defArgs st) (defBody st) (defScope st) .none kV doc pm an cdv ct) ⟨us, []⟩ = pure (ps.zip us)) : Def K mg x ps st :=
  ⟨f, _, PySem.W.mg_of X G a, (fun_mk l c k).binds b, fun_mk l c k⟩
theorem all_mk {l : PySem.W.OpenLaw} {w : World} {K : PySem.W.Frag} {h : Heap} {mg : Str → Option Value} {fa f0 f1 f2 f3 f4 f5 f6 f7 f8 f9 f10 f11 f12 f13 f14 f15 f16 f17 C_PairError C_NoPairing C_NoWalk C_NoNumber C_TooMany C_BadNote : Addr} {od0 an0 : Option Addr} {sl0 : Array (Option Value)} {oc0 kV0 dc0 pm0 cd0 ct0 : Value} {od1 an1 : Option Addr} {sl1 : Array (Option Value)} {oc1 kV1 dc1 pm1 cd1 ct1 : Value} {od2 an2 : Option Addr} {sl2 : Array (Option Value)} {oc2 kV2 dc2 pm2 cd2 ct2 : Value} {od3 an3 : Option Addr} {sl3 : Array (Option Value)} {oc3 kV3 dc3 pm3 cd3 ct3 : Value} {od4 an4 : Option Addr} {sl4 : Array (Option Value)} {oc4 kV4 dc4 pm4 cd4 ct4 : Value} {od5 an5 : Option Addr} {sl5 : Array (Option Value)} {oc5 kV5 dc5 pm5 cd5 ct5 : Value} {od6 an6 : Option Addr} {sl6 : Array (Option Value)} {oc6 kV6 dc6 pm6 cd6 ct6 : Value} {od7 an7 : Option Addr} {sl7 : Array (Option Value)} {oc7 kV7 dc7 pm7 cd7 ct7 : Value} {od8 an8 : Option Addr} {sl8 : Array (Option Value)} {oc8 kV8 dc8 pm8 cd8 ct8 : Value} {od9 an9 : Option Addr} {sl9 : Array (Option Value)} {oc9 kV9 dc9 pm9 cd9 ct9 : Value} {od10 an10 : Option Addr} {sl10 : Array (Option Value)} {oc10 kV10 dc10 pm10 cd10 ct10 : Value} {od11 an11 : Option Addr} {sl11 : Array (Option Value)} {oc11 kV11 dc11 pm11 cd11 ct11 : Value} {od12 an12 : Option Addr} {sl12 : Array (Option Value)} {oc12 kV12 dc12 pm12 cd12 ct12 : Value} {od13 an13 : Option Addr} {sl13 : Array (Option Value)} {oc13 kV13 dc13 pm13 cd13 ct13 : Value} {od14 an14 : Option Addr} {sl14 : Array (Option Value)} {oc14 kV14 dc14 pm14 cd14 ct14 : Value} {od15 an15 : Option Addr} {sl15 : Array (Option Value)} {oc15 kV15 dc15 pm15 cd15 ct15 : Value} {od16 an16 : Option Addr} {sl16 : Array (Option Value)} {oc16 kV16 dc16 pm16 cd16 ct16 : Value} {od17 an17 : Option Addr} {sl17 : Array (Option Value)} {oc17 kV17 dc17 pm17 cd17 ct17 : Value} {t_FIGURES : Tok} {t_MOST : Tok} (X : K.In h) (G : h.Ns mainGlobals mg) (hfa : mg "law" = some (.ref fa))
    (a0 : PySem.W.nsIn K mainGlobals "_law_of_walk" = some (some (.ref f0))) (l0 : K.lookup f0 = some ⟨oc0, od0, .func (PySem.W.fnOf "_law_of_walk" "_law_of_walk" (defArgs s_law_of_walk) (defBody s_law_of_walk) (defScope s_law_of_walk) .none kV0 dc0 pm0 an0 cd0 ct0), sl0⟩) (c0 : PySem.W.codeIn K cd0 "_law_of_walk" = true) (k0 : PySem.W.keepIn K (.ref f0) = true)
    (a1 : PySem.W.nsIn K mainGlobals "_law_cell_at" = some (some (.ref f1))) (l1 : K.lookup f1 = some ⟨oc1, od1, .func (PySem.W.fnOf "_law_cell_at" "_law_cell_at" (defArgs s_law_cell_at) (defBody s_law_cell_at) (defScope s_law_cell_at) .none kV1 dc1 pm1 an1 cd1 ct1), sl1⟩) (c1 : PySem.W.codeIn K cd1 "_law_cell_at" = true) (k1 : PySem.W.keepIn K (.ref f1) = true)
    (a2 : PySem.W.nsIn K mainGlobals "_law_choice" = some (some (.ref f2))) (l2 : K.lookup f2 = some ⟨oc2, od2, .func (PySem.W.fnOf "_law_choice" "_law_choice" (defArgs s_law_choice) (defBody s_law_choice) (defScope s_law_choice) .none kV2 dc2 pm2 an2 cd2 ct2), sl2⟩) (c2 : PySem.W.codeIn K cd2 "_law_choice" = true) (k2 : PySem.W.keepIn K (.ref f2) = true)
    (a3 : PySem.W.nsIn K mainGlobals "_law_walk" = some (some (.ref f3))) (l3 : K.lookup f3 = some ⟨oc3, od3, .func (PySem.W.fnOf "_law_walk" "_law_walk" (defArgs s_law_walk) (defBody s_law_walk) (defScope s_law_walk) .none kV3 dc3 pm3 an3 cd3 ct3), sl3⟩) (c3 : PySem.W.codeIn K cd3 "_law_walk" = true) (k3 : PySem.W.keepIn K (.ref f3) = true)
    (a4 : PySem.W.nsIn K mainGlobals "_law_points" = some (some (.ref f4))) (l4 : K.lookup f4 = some ⟨oc4, od4, .func (PySem.W.fnOf "_law_points" "_law_points" (defArgs s_law_points) (defBody s_law_points) (defScope s_law_points) .none kV4 dc4 pm4 an4 cd4 ct4), sl4⟩) (c4 : PySem.W.codeIn K cd4 "_law_points" = true) (k4 : PySem.W.keepIn K (.ref f4) = true)
    (a5 : PySem.W.nsIn K mainGlobals "_law_drawn" = some (some (.ref f5))) (l5 : K.lookup f5 = some ⟨oc5, od5, .func (PySem.W.fnOf "_law_drawn" "_law_drawn" (defArgs s_law_drawn) (defBody s_law_drawn) (defScope s_law_drawn) .none kV5 dc5 pm5 an5 cd5 ct5), sl5⟩) (c5 : PySem.W.codeIn K cd5 "_law_drawn" = true) (k5 : PySem.W.keepIn K (.ref f5) = true)
    (a6 : PySem.W.nsIn K mainGlobals "_law_odd" = some (some (.ref f6))) (l6 : K.lookup f6 = some ⟨oc6, od6, .func (PySem.W.fnOf "_law_odd" "_law_odd" (defArgs s_law_odd) (defBody s_law_odd) (defScope s_law_odd) .none kV6 dc6 pm6 an6 cd6 ct6), sl6⟩) (c6 : PySem.W.codeIn K cd6 "_law_odd" = true) (k6 : PySem.W.keepIn K (.ref f6) = true)
    (a7 : PySem.W.nsIn K mainGlobals "_law_spoiled" = some (some (.ref f7))) (l7 : K.lookup f7 = some ⟨oc7, od7, .func (PySem.W.fnOf "_law_spoiled" "_law_spoiled" (defArgs s_law_spoiled) (defBody s_law_spoiled) (defScope s_law_spoiled) .none kV7 dc7 pm7 an7 cd7 ct7), sl7⟩) (c7 : PySem.W.codeIn K cd7 "_law_spoiled" = true) (k7 : PySem.W.keepIn K (.ref f7) = true)
    (a8 : PySem.W.nsIn K mainGlobals "_law_number" = some (some (.ref f8))) (l8 : K.lookup f8 = some ⟨oc8, od8, .func (PySem.W.fnOf "_law_number" "_law_number" (defArgs s_law_number) (defBody s_law_number) (defScope s_law_number) .none kV8 dc8 pm8 an8 cd8 ct8), sl8⟩) (c8 : PySem.W.codeIn K cd8 "_law_number" = true) (k8 : PySem.W.keepIn K (.ref f8) = true)
    (a9 : PySem.W.nsIn K mainGlobals "_law_due" = some (some (.ref f9))) (l9 : K.lookup f9 = some ⟨oc9, od9, .func (PySem.W.fnOf "_law_due" "_law_due" (defArgs s_law_due) (defBody s_law_due) (defScope s_law_due) .none kV9 dc9 pm9 an9 cd9 ct9), sl9⟩) (c9 : PySem.W.codeIn K cd9 "_law_due" = true) (k9 : PySem.W.keepIn K (.ref f9) = true)
    (a10 : PySem.W.nsIn K mainGlobals "number_of" = some (some (.ref f10))) (l10 : K.lookup f10 = some ⟨oc10, od10, .func (PySem.W.fnOf "number_of" "number_of" (defArgs s_number_of) (defBody s_number_of) (defScope s_number_of) .none kV10 dc10 pm10 an10 cd10 ct10), sl10⟩) (c10 : PySem.W.codeIn K cd10 "number_of" = true) (k10 : PySem.W.keepIn K (.ref f10) = true)
    (a11 : PySem.W.nsIn K mainGlobals "looked" = some (some (.ref f11))) (l11 : K.lookup f11 = some ⟨oc11, od11, .func (PySem.W.fnOf "looked" "looked" (defArgs s_looked) (defBody s_looked) (defScope s_looked) .none kV11 dc11 pm11 an11 cd11 ct11), sl11⟩) (c11 : PySem.W.codeIn K cd11 "looked" = true) (k11 : PySem.W.keepIn K (.ref f11) = true)
    (a12 : PySem.W.nsIn K mainGlobals "pair_of" = some (some (.ref f12))) (l12 : K.lookup f12 = some ⟨oc12, od12, .func (PySem.W.fnOf "pair_of" "pair_of" (defArgs s_pair_of) (defBody s_pair_of) (defScope s_pair_of) .none kV12 dc12 pm12 an12 cd12 ct12), sl12⟩) (c12 : PySem.W.codeIn K cd12 "pair_of" = true) (k12 : PySem.W.keepIn K (.ref f12) = true)
    (a13 : PySem.W.nsIn K mainGlobals "read" = some (some (.ref f13))) (l13 : K.lookup f13 = some ⟨oc13, od13, .func (PySem.W.fnOf "read" "read" (defArgs s_read) (defBody s_read) (defScope s_read) .none kV13 dc13 pm13 an13 cd13 ct13), sl13⟩) (c13 : PySem.W.codeIn K cd13 "read" = true) (k13 : PySem.W.keepIn K (.ref f13) = true)
    (a14 : PySem.W.nsIn K mainGlobals "_law_told" = some (some (.ref f14))) (l14 : K.lookup f14 = some ⟨oc14, od14, .func (PySem.W.fnOf "_law_told" "_law_told" (defArgs s_law_told) (defBody s_law_told) (defScope s_law_told) .none kV14 dc14 pm14 an14 cd14 ct14), sl14⟩) (c14 : PySem.W.codeIn K cd14 "_law_told" = true) (k14 : PySem.W.keepIn K (.ref f14) = true)
    (a15 : PySem.W.nsIn K mainGlobals "_law_whole" = some (some (.ref f15))) (l15 : K.lookup f15 = some ⟨oc15, od15, .func (PySem.W.fnOf "_law_whole" "_law_whole" (defArgs s_law_whole) (defBody s_law_whole) (defScope s_law_whole) .none kV15 dc15 pm15 an15 cd15 ct15), sl15⟩) (c15 : PySem.W.codeIn K cd15 "_law_whole" = true) (k15 : PySem.W.keepIn K (.ref f15) = true)
    (a16 : PySem.W.nsIn K mainGlobals "_law_is_pairing" = some (some (.ref f16))) (l16 : K.lookup f16 = some ⟨oc16, od16, .func (PySem.W.fnOf "_law_is_pairing" "_law_is_pairing" (defArgs s_law_is_pairing) (defBody s_law_is_pairing) (defScope s_law_is_pairing) .none kV16 dc16 pm16 an16 cd16 ct16), sl16⟩) (c16 : PySem.W.codeIn K cd16 "_law_is_pairing" = true) (k16 : PySem.W.keepIn K (.ref f16) = true)
    (a17 : PySem.W.nsIn K mainGlobals "law" = some (some (.ref f17))) (l17 : K.lookup f17 = some ⟨oc17, od17, .func (PySem.W.fnOf "law" "law" (defArgs s_law) (defBody s_law) (defScope s_law) .none kV17 dc17 pm17 an17 cd17 ct17), sl17⟩) (c17 : PySem.W.codeIn K cd17 "law" = true) (k17 : PySem.W.keepIn K (.ref f17) = true)
    (z_ValueError : PySem.W.nsIn K mainGlobals "ValueError" = some none)
    (z_bool : PySem.W.nsIn K mainGlobals "bool" = some none)
    (z_int : PySem.W.nsIn K mainGlobals "int" = some none)
    (z_isinstance : PySem.W.nsIn K mainGlobals "isinstance" = some none)
    (z_len : PySem.W.nsIn K mainGlobals "len" = some none)
    (z_list : PySem.W.nsIn K mainGlobals "list" = some none)
    (z_max : PySem.W.nsIn K mainGlobals "max" = some none)
    (z_min : PySem.W.nsIn K mainGlobals "min" = some none)
    (z_range : PySem.W.nsIn K mainGlobals "range" = some none)
    (z_set : PySem.W.nsIn K mainGlobals "set" = some none)
    (z_sorted : PySem.W.nsIn K mainGlobals "sorted" = some none)
    (z_str : PySem.W.nsIn K mainGlobals "str" = some none)
    (z_tuple : PySem.W.nsIn K mainGlobals "tuple" = some none)
    (g_FIGURES : PySem.W.nsIn K mainGlobals "FIGURES" = some (some (.str "0123456789" t_FIGURES)))
    (g_MOST : PySem.W.nsIn K mainGlobals "MOST" = some (some (.int 60 t_MOST)))
    (g_PairError : PySem.W.nsIn K mainGlobals "PairError" = some (some (.ref C_PairError)))
    (g_NoPairing : PySem.W.nsIn K mainGlobals "NoPairing" = some (some (.ref C_NoPairing)))
    (g_NoWalk : PySem.W.nsIn K mainGlobals "NoWalk" = some (some (.ref C_NoWalk)))
    (g_NoNumber : PySem.W.nsIn K mainGlobals "NoNumber" = some (some (.ref C_NoNumber)))
    (g_TooMany : PySem.W.nsIn K mainGlobals "TooMany" = some (some (.ref C_TooMany)))
    (g_BadNote : PySem.W.nsIn K mainGlobals "BadNote" = some (some (.ref C_BadNote)))
    (x_NoPairing : PySem.W.excIn K C_NoPairing [.type "ValueError", .type "Exception", .type "BaseException", .type "object"] "ValueError.__new__" = true)
    (k_NoPairing : PySem.W.keepIn K (.ref C_NoPairing) = true)
    (b_NoPairing : PySem.W.subIn K (.ref C_NoPairing) (.type "BaseException") = some true)
    (t_NoPairing : PySem.W.typeIn K (.ref C_NoPairing) = some (.type "type"))
    (d_NoPairing : PySem.W.hasDictIn K C_NoPairing = true)
    (s_NoPairing_NoPairing : PySem.W.subIn K (.ref C_NoPairing) (.ref C_NoPairing) = some true)
    (x_BadNote : PySem.W.excIn K C_BadNote [.type "ValueError", .type "Exception", .type "BaseException", .type "object"] "ValueError.__new__" = true)
    (k_BadNote : PySem.W.keepIn K (.ref C_BadNote) = true)
    (b_BadNote : PySem.W.subIn K (.ref C_BadNote) (.type "BaseException") = some true)
    (t_BadNote : PySem.W.typeIn K (.ref C_BadNote) = some (.type "type"))
    (d_BadNote : PySem.W.hasDictIn K C_BadNote = true)
    (b_PairError : PySem.W.subIn K (.ref C_PairError) (.type "BaseException") = some true)
    (d_PairError : PySem.W.hasDictIn K C_PairError = true)
    (t_PairError : PySem.W.typeIn K (.ref C_PairError) = some (.type "type"))
    (s_BadNote_PairError : PySem.W.subIn K (.ref C_BadNote) (.ref C_PairError) = some true)
    (e1_BadNote : PySem.W.findIn K (.ref C_BadNote) "__getattribute__" = some (some (.builtin "BaseException.__getattribute__")))
    (e2_BadNote : PySem.W.findIn K (.ref C_BadNote) "__getattr__" = some none)
    (e5_BadNote : PySem.W.findIn K (.ref C_BadNote) "__class__" = some (some (.builtin "object.__class__")))
    (e6_BadNote : PySem.W.specialIn K (.builtin "object.__class__") "__get__" = some (some (.builtin "getset_descriptor.__get__")))
    (e7_BadNote : PySem.W.takesIn K (.builtin "object.__class__") = some true)
    (e8_BadNote : PySem.W.mroIn K C_BadNote (.type "object") = some true)
    (s_BadNote_BadNote : PySem.W.subIn K (.ref C_BadNote) (.ref C_BadNote) = some true)
    (s_BadNote_NoPairing : PySem.W.subIn K (.ref C_BadNote) (.ref C_NoPairing) = some false)
    (d_NoWalk : PySem.W.hasDictIn K C_NoWalk = true)
    (t_NoWalk : PySem.W.typeIn K (.ref C_NoWalk) = some (.type "type"))
    (s_BadNote_NoWalk : PySem.W.subIn K (.ref C_BadNote) (.ref C_NoWalk) = some false)
    (d_NoNumber : PySem.W.hasDictIn K C_NoNumber = true)
    (t_NoNumber : PySem.W.typeIn K (.ref C_NoNumber) = some (.type "type"))
    (s_BadNote_NoNumber : PySem.W.subIn K (.ref C_BadNote) (.ref C_NoNumber) = some false)
    (d_TooMany : PySem.W.hasDictIn K C_TooMany = true)
    (t_TooMany : PySem.W.typeIn K (.ref C_TooMany) = some (.type "type"))
    (s_BadNote_TooMany : PySem.W.subIn K (.ref C_BadNote) (.ref C_TooMany) = some false)
    (v_BadNote : PySem.W.subIn K (.ref C_BadNote) (.type "ValueError") = some true) :
    ∃ fd : FuncData, (∀ (s : Shared) (v : Value), BindsTo s fd ⟨[v], []⟩ [("script", v)]) ∧ ∀ base : Heap, K.In base → base.Ns mainGlobals mg → FnOk l.prog w K mg base CX0 5 fa fd ["script"] (sp_law K) := by
  have e := hfa.symm.trans (PySem.W.mg_of X G a17)
  cases e
  have D_law_of_walk : Def K mg "_law_of_walk" ["walk"] s_law_of_walk := def_mk X G a0 l0 c0 k0 fun _ _ _ _ _ _ us hl => match us, hl with | [_], _ => rfl
  have D_law_cell_at : Def K mg "_law_cell_at" ["script", "k"] s_law_cell_at := def_mk X G a1 l1 c1 k1 fun _ _ _ _ _ _ us hl => match us, hl with | [_, _], _ => rfl
  have D_law_choice : Def K mg "_law_choice" ["state", "many"] s_law_choice := def_mk X G a2 l2 c2 k2 fun _ _ _ _ _ _ us hl => match us, hl with | [_, _], _ => rfl
  have D_law_walk : Def K mg "_law_walk" ["cell", "points", "plain"] s_law_walk := def_mk X G a3 l3 c3 k3 fun _ _ _ _ _ _ us hl => match us, hl with | [_, _, _], _ => rfl
  have D_law_points : Def K mg "_law_points" ["cell", "most"] s_law_points := def_mk X G a4 l4 c4 k4 fun _ _ _ _ _ _ us hl => match us, hl with | [_, _], _ => rfl
  have D_law_drawn : Def K mg "_law_drawn" ["script", "start", "most"] s_law_drawn := def_mk X G a5 l5 c5 k5 fun _ _ _ _ _ _ us hl => match us, hl with | [_, _, _], _ => rfl
  have D_law_odd : Def K mg "_law_odd" ["cell"] s_law_odd := def_mk X G a6 l6 c6 k6 fun _ _ _ _ _ _ us hl => match us, hl with | [_], _ => rfl
  have D_law_spoiled : Def K mg "_law_spoiled" ["text", "cell"] s_law_spoiled := def_mk X G a7 l7 c7 k7 fun _ _ _ _ _ _ us hl => match us, hl with | [_, _], _ => rfl
  have D_law_number : Def K mg "_law_number" ["word"] s_law_number := def_mk X G a8 l8 c8 k8 fun _ _ _ _ _ _ us hl => match us, hl with | [_], _ => rfl
  have D_law_due : Def K mg "_law_due" ["text"] s_law_due := def_mk X G a9 l9 c9 k9 fun _ _ _ _ _ _ us hl => match us, hl with | [_], _ => rfl
  have D_number_of : Def K mg "number_of" ["word"] s_number_of := def_mk X G a10 l10 c10 k10 fun _ _ _ _ _ _ us hl => match us, hl with | [_], _ => rfl
  have D_looked : Def K mg "looked" ["pairing"] s_looked := def_mk X G a11 l11 c11 k11 fun _ _ _ _ _ _ us hl => match us, hl with | [_], _ => rfl
  have D_pair_of : Def K mg "pair_of" ["word"] s_pair_of := def_mk X G a12 l12 c12 k12 fun _ _ _ _ _ _ us hl => match us, hl with | [_], _ => rfl
  have D_read : Def K mg "read" ["text"] s_read := def_mk X G a13 l13 c13 k13 fun _ _ _ _ _ _ us hl => match us, hl with | [_], _ => rfl
  have D_law_told : Def K mg "_law_told" ["text"] s_law_told := def_mk X G a14 l14 c14 k14 fun _ _ _ _ _ _ us hl => match us, hl with | [_], _ => rfl
  have D_law_whole : Def K mg "_law_whole" ["found"] s_law_whole := def_mk X G a15 l15 c15 k15 fun _ _ _ _ _ _ us hl => match us, hl with | [_], _ => rfl
  have D_law_is_pairing : Def K mg "_law_is_pairing" ["found", "due"] s_law_is_pairing := def_mk X G a16 l16 c16 k16 fun _ _ _ _ _ _ us hl => match us, hl with | [_, _], _ => rfl
  have D_law : Def K mg "law" ["script"] s_law := def_mk X G a17 l17 c17 k17 fun _ _ _ _ _ _ us hl => match us, hl with | [_], _ => rfl
  have T : Txt K mg ⟨C_PairError, C_NoPairing, C_NoWalk, C_NoNumber, C_TooMany, C_BadNote⟩ := ⟨PySem.W.mg_none_of X G z_ValueError, PySem.W.mg_none_of X G z_bool, PySem.W.mg_none_of X G z_int, PySem.W.mg_none_of X G z_isinstance, PySem.W.mg_none_of X G z_len, PySem.W.mg_none_of X G z_list, PySem.W.mg_none_of X G z_max, PySem.W.mg_none_of X G z_min, PySem.W.mg_none_of X G z_range, PySem.W.mg_none_of X G z_set, PySem.W.mg_none_of X G z_sorted, PySem.W.mg_none_of X G z_str, PySem.W.mg_none_of X G z_tuple, ⟨_, PySem.W.mg_of X G g_FIGURES⟩, ⟨_, PySem.W.mg_of X G g_MOST⟩, PySem.W.mg_of X G g_PairError, PySem.W.mg_of X G g_NoPairing, PySem.W.mg_of X G g_NoWalk, PySem.W.mg_of X G g_NoNumber, PySem.W.mg_of X G g_TooMany, PySem.W.mg_of X G g_BadNote, x_NoPairing, k_NoPairing, b_NoPairing, t_NoPairing, (PySem.W.exm_ref b_NoPairing d_NoPairing t_NoPairing s_NoPairing_NoPairing), x_BadNote, k_BadNote, b_BadNote, t_BadNote, (PySem.W.exm_ref b_PairError d_PairError t_PairError s_BadNote_PairError), ⟨e1_BadNote, e2_BadNote, b_BadNote, d_BadNote, e5_BadNote, e6_BadNote, e7_BadNote, e8_BadNote⟩, (kit_own s_BadNote_BadNote d_NoPairing t_NoPairing s_BadNote_NoPairing), (kit_own s_BadNote_BadNote d_NoWalk t_NoWalk s_BadNote_NoWalk), (kit_own s_BadNote_BadNote d_NoNumber t_NoNumber s_BadNote_NoNumber), (kit_own s_BadNote_BadNote d_TooMany t_TooMany s_BadNote_TooMany), (kit_own s_BadNote_BadNote d_BadNote t_BadNote s_BadNote_BadNote), (kit_ve v_BadNote)⟩
  refine ⟨PySem.W.fnOf "law" "law" (defArgs s_law) (defBody s_law) (defScope s_law) .none kV17 dc17 pm17 an17 cd17 ct17, fun s v => .of_eq rfl, fun base _ _ => ?_⟩
  have G_law_of_walk := ok_law_of_walk (P := l.prog) (w := w) (base := base) T D_law_of_walk
  have G_law_cell_at := ok_law_cell_at (P := l.prog) (w := w) (base := base) T D_law_cell_at
  have G_law_choice := ok_law_choice (P := l.prog) (w := w) (base := base) T D_law_choice
  have G_law_walk := ok_law_walk (P := l.prog) (w := w) (base := base) T D_law_walk G_law_choice
  have G_law_points := ok_law_points (P := l.prog) (w := w) (base := base) T D_law_points
  have G_law_drawn := ok_law_drawn (P := l.prog) (w := w) (base := base) T D_law_drawn G_law_cell_at G_law_walk G_law_points
  have G_law_odd := ok_law_odd (P := l.prog) (w := w) (base := base) T D_law_odd
  have G_law_spoiled := ok_law_spoiled (P := l.prog) (w := w) (base := base) T D_law_spoiled G_law_odd
  have G_law_number := ok_law_number (P := l.prog) (w := w) (base := base) T D_law_number
  have G_law_due := ok_law_due (P := l.prog) (w := w) (base := base) T D_law_due G_law_number
  have G_number_of := ok_number_of (P := l.prog) (w := w) (base := base) T D_number_of
  have G_looked := ok_looked (P := l.prog) (w := w) (base := base) T D_looked
  have G_pair_of := ok_pair_of (P := l.prog) (w := w) (base := base) T D_pair_of G_number_of
  have G_read := ok_read (P := l.prog) (w := w) (base := base) T D_read G_number_of G_looked G_pair_of
  have G_law_told := ok_law_told (P := l.prog) (w := w) (base := base) T D_law_told G_read
  have G_law_whole := ok_law_whole (P := l.prog) (w := w) (base := base) T D_law_whole
  have G_law_is_pairing := ok_law_is_pairing (P := l.prog) (w := w) (base := base) T D_law_is_pairing G_law_whole
  exact ok_law T (fun_mk (st := s_law) l17 c17 k17) G_law_of_walk G_law_drawn G_law_spoiled G_law_due G_law_told G_law_cell_at G_law_is_pairing
end Pg

open PySem PySem.W PyProof.Rows
set_option maxRecDepth 100000 in
set_option maxHeartbeats 0 in
theorem PySem.Challenge.cw_pairlings_k15_texts_refused_holds : PySem.Challenge.rw_pairlings_k15_texts_refused.Holds := by
  w_on; o_law; k_head; (case hw => w_witness2)
  k_fill
  refine L2.walk_of (l := PySem.Challenge.rw_pairlings_k15_texts_refused) (n := 63) (k := 5) (x := "script") (CX := fun _ => L2.CX0) (sp := fun w => Pg.sp_law _) rfl (by decide) rfl ⟨rfl, by decide, by decide⟩ (fun w h Y => PySem.W.kIn_of Y) ?F (fun _ _ a ns hl _ hS => ⟨a, ns, rfl, hS, hl, fun _ => rfl⟩) (fun _ _ _ _ _ h => h)
  case F =>
    intro w mg fa h KX G hmg
    refine' Pg.all_mk KX G hmg ?a0 ?l0 ?c0 ?k0 ?a1 ?l1 ?c1 ?k1 ?a2 ?l2 ?c2 ?k2 ?a3 ?l3 ?c3 ?k3 ?a4 ?l4 ?c4 ?k4 ?a5 ?l5 ?c5 ?k5 ?a6 ?l6 ?c6 ?k6 ?a7 ?l7 ?c7 ?k7 ?a8 ?l8 ?c8 ?k8 ?a9 ?l9 ?c9 ?k9 ?a10 ?l10 ?c10 ?k10 ?a11 ?l11 ?c11 ?k11 ?a12 ?l12 ?c12 ?k12 ?a13 ?l13 ?c13 ?k13 ?a14 ?l14 ?c14 ?k14 ?a15 ?l15 ?c15 ?k15 ?a16 ?l16 ?c16 ?k16 ?a17 ?l17 ?c17 ?k17 ?z_ValueError ?z_bool ?z_int ?z_isinstance ?z_len ?z_list ?z_max ?z_min ?z_range ?z_set ?z_sorted ?z_str ?z_tuple ?g_FIGURES ?g_MOST ?g_PairError ?g_NoPairing ?g_NoWalk ?g_NoNumber ?g_TooMany ?g_BadNote ?x_NoPairing ?k_NoPairing ?b_NoPairing ?t_NoPairing ?d_NoPairing ?s_NoPairing_NoPairing ?x_BadNote ?k_BadNote ?b_BadNote ?t_BadNote ?d_BadNote ?b_PairError ?d_PairError ?t_PairError ?s_BadNote_PairError ?e1_BadNote ?e2_BadNote ?e5_BadNote ?e6_BadNote ?e7_BadNote ?e8_BadNote ?s_BadNote_BadNote ?s_BadNote_NoPairing ?d_NoWalk ?t_NoWalk ?s_BadNote_NoWalk ?d_NoNumber ?t_NoNumber ?s_BadNote_NoNumber ?d_TooMany ?t_TooMany ?s_BadNote_TooMany ?v_BadNote
    (case a0 => k_is)
    (case l0 => k_is)
    (case c0 => k_is)
    (case k0 => k_is)
    (case a1 => k_is)
    (case l1 => k_is)
    (case c1 => k_is)
    (case k1 => k_is)
    (case a2 => k_is)
    (case l2 => k_is)
    (case c2 => k_is)
    (case k2 => k_is)
    (case a3 => k_is)
    (case l3 => k_is)
    (case c3 => k_is)
    (case k3 => k_is)
    (case a4 => k_is)
    (case l4 => k_is)
    (case c4 => k_is)
    (case k4 => k_is)
    (case a5 => k_is)
    (case l5 => k_is)
    (case c5 => k_is)
    (case k5 => k_is)
    (case a6 => k_is)
    (case l6 => k_is)
    (case c6 => k_is)
    (case k6 => k_is)
    (case a7 => k_is)
    (case l7 => k_is)
    (case c7 => k_is)
    (case k7 => k_is)
    (case a8 => k_is)
    (case l8 => k_is)
    (case c8 => k_is)
    (case k8 => k_is)
    (case a9 => k_is)
    (case l9 => k_is)
    (case c9 => k_is)
    (case k9 => k_is)
    (case a10 => k_is)
    (case l10 => k_is)
    (case c10 => k_is)
    (case k10 => k_is)
    (case a11 => k_is)
    (case l11 => k_is)
    (case c11 => k_is)
    (case k11 => k_is)
    (case a12 => k_is)
    (case l12 => k_is)
    (case c12 => k_is)
    (case k12 => k_is)
    (case a13 => k_is)
    (case l13 => k_is)
    (case c13 => k_is)
    (case k13 => k_is)
    (case a14 => k_is)
    (case l14 => k_is)
    (case c14 => k_is)
    (case k14 => k_is)
    (case a15 => k_is)
    (case l15 => k_is)
    (case c15 => k_is)
    (case k15 => k_is)
    (case a16 => k_is)
    (case l16 => k_is)
    (case c16 => k_is)
    (case k16 => k_is)
    (case a17 => k_is)
    (case l17 => k_is)
    (case c17 => k_is)
    (case k17 => k_is)
    (case z_ValueError => k_is)
    (case z_bool => k_is)
    (case z_int => k_is)
    (case z_isinstance => k_is)
    (case z_len => k_is)
    (case z_list => k_is)
    (case z_max => k_is)
    (case z_min => k_is)
    (case z_range => k_is)
    (case z_set => k_is)
    (case z_sorted => k_is)
    (case z_str => k_is)
    (case z_tuple => k_is)
    (case g_FIGURES => k_is)
    (case g_MOST => k_is)
    (case g_PairError => k_is)
    (case g_NoPairing => k_is)
    (case g_NoWalk => k_is)
    (case g_NoNumber => k_is)
    (case g_TooMany => k_is)
    (case g_BadNote => k_is)
    (case x_NoPairing => k_exc)
    (case k_NoPairing => k_is)
    (case b_NoPairing => k_is)
    (case t_NoPairing => k_is)
    (case d_NoPairing => k_is)
    (case s_NoPairing_NoPairing => k_is)
    (case x_BadNote => k_exc)
    (case k_BadNote => k_is)
    (case b_BadNote => k_is)
    (case t_BadNote => k_is)
    (case d_BadNote => k_is)
    (case b_PairError => k_is)
    (case d_PairError => k_is)
    (case t_PairError => k_is)
    (case s_BadNote_PairError => k_is)
    (case e1_BadNote => k_is)
    (case e2_BadNote => k_is)
    (case e5_BadNote => k_is)
    (case e6_BadNote => k_is)
    (case e7_BadNote => k_is)
    (case e8_BadNote => k_is)
    (case s_BadNote_BadNote => k_is)
    (case s_BadNote_NoPairing => k_is)
    (case d_NoWalk => k_is)
    (case t_NoWalk => k_is)
    (case s_BadNote_NoWalk => k_is)
    (case d_NoNumber => k_is)
    (case t_NoNumber => k_is)
    (case s_BadNote_NoNumber => k_is)
    (case d_TooMany => k_is)
    (case t_TooMany => k_is)
    (case s_BadNote_TooMany => k_is)
    (case v_BadNote => k_is)
