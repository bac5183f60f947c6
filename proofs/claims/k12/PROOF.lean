import PyProof.Rows.All
import Wide.All
import OpenK.AllK
import Wide.FinOn
import HandS.ForMost
import HandS.ForExc
import HandS.Conv
import HandS.SortRule
import HandS.IsInst
import HandS.Evl
import HandS.SetFor
import HandS.SortInts
import HandS.Deep
import KE.DataMinMax
import HandS.SortKw
import HandS.More
import KE.SortData
import PySem.Challenge.RW_pairlings_k12_tangles
set_option Elab.async false
set_option linter.all false
set_option maxRecDepth 100000
set_option maxHeartbeats 4000000
namespace Pg
open PySem L2
/-! ### a def that stands at a module's name and keeps its promise -/
structure Known (P : Program) (w : World) (K : PySem.W.Frag) (mg : Str → Option Value) (base : Heap) (CX : CXT) (k : Nat) (x : Str) (ps : List Str) (sp : Sp) : Prop where
  ex : ∃ (f : Addr) (fd : FuncData), mg x = some (.ref f) ∧ PySem.W.keepIn K (.ref f) = true ∧ Binds K fd ps [] ∧ FnOk P w K mg base CX k f fd ps sp
/-- what the top has left of a def: where it stands, its text, how it binds -/
structure Def (K : PySem.W.Frag) (mg : Str → Option Value) (x : Str) (ps : List Str) (st : Stmt) : Prop where
  ex : ∃ (f : Addr) (fd : FuncData), mg x = some (.ref f) ∧ Binds K fd ps [] ∧ Fun K x x st f fd
theorem Def.known {P : Program} {w : World} {K : PySem.W.Frag} {mg : Str → Option Value} {base : Heap} {CX : CXT} {k : Nat} {x : Str} {ps : List Str} {st : Stmt} {sp : Sp} (D : Def K mg x ps st)
    (h : ∀ f fd, Fun K x x st f fd → FnOk P w K mg base CX k f fd ps sp) : Known P w K mg base CX k x ps sp := by
  obtain ⟨f, fd, hm, hb, F⟩ := D.ex
  exact ⟨f, fd, hm, F.kp, hb, h f fd F⟩
/-- f(e, ..) -/
def tCl (sp : Sp) (E : XK) (t : TA) : TE := fun σ H Q => t σ H fun vs H1 => sp vs H1 Q E
theorem pe_kc {X : Cx} {CX : CXT} {k : Nat} {x : Str} {ps : List Str} {sp : Sp} {E : XK} {t : TA} {e : Expr} {es : List Expr} {p pos : Pos} (G : Known X.prog X.w X.K X.mg X.base CX k x ps sp) (hr : Room k X.A) (hg : Gl X x) (hx : Passes CX X E)
    (ha : PA X (e :: es) t) (hdb : (x == ("__debug__" : Str)) = false := by decide) (he : starEach (e :: es) X.env = (false, eval e X.env) :: starEach es X.env := by rfl) (hpl : (backTo pos (starEach es X.env)).any (·.1) = false := by rfl) :
    PE X (.Call (.Name x p) (e :: es) [] pos) (tCl sp E t) := by
  obtain ⟨f, fd, hm, hk, hb, F⟩ := G.ex
  have h : PE X (.Call (.Name x p) (e :: es) [] pos) (tCall sp [] E t) := pe_call (dvs := []) (ds := []) F hr hg hm hk hb Paired.nil hx ha hdb he hpl
  refine ⟨fun pins s σ H Q I q => h.run pins s σ H Q I ?_⟩
  have e : (fun (vs : List V) (H1 : Hp) => sp (vs ++ []) H1 Q E) = fun vs H1 => sp vs H1 Q E := funext fun vs => by rw [List.append_nil]
  show t σ H (fun (vs : List V) (H1 : Hp) => sp (vs ++ []) H1 Q E)
  rw [e]
  exact q
/-! ### heaps -/
theorem sm_new {H : Hp} {p : Addr} {o : HO} (h : H p = none) : Same H (upd H p o) := fun b x e => by
  rw [upd_ne (ne_of_none e h)]
  exact e
/-- an object that H does not know may change -/
theorem sm_mut {H H' : Hp} {p : Addr} {o : HO} (e : Same H H') (h : H p = none) : Same H (upd H' p o) := fun a u ha => by
  rw [upd_ne (ne_of_none ha h)]
  exact e a u ha
theorem sm_seqT {K : PySem.W.Frag} {H H' : Hp} {a : Addr} {xs : List V} (e : Same H H') (h : SqT K H a xs) : SqT K H' a xs := by
  rcases h with (h | ⟨o, h⟩) | h
  · exact .inl (.inl (e _ _ h))
  · exact .inl (.inr ⟨o, e _ _ h⟩)
  · exact .inr h
theorem cut_from (xs : List V) (i : Int) (h : 0 ≤ i) : cutV xs (some i) none = xs.drop i.toNat := by
  unfold cutV
  obtain ⟨n, rfl⟩ : ∃ n : Nat, i = (n : Int) := ⟨i.toNat, by omega⟩
  rw [show HT.sIx xs.length 0 (some (n : Int)) = min n xs.length from HT.sIx_nat xs.length 0 n, HT.sIx_none]
  have e : ((n : Int)).toNat = n := by omega
  rw [e]
  by_cases c : n ≤ xs.length
  · rw [Nat.min_eq_left c]
    exact List.take_of_length_le (by rw [List.length_drop]; exact Nat.le_refl _)
  · rw [Nat.min_eq_right (by omega), List.drop_of_length_le (show xs.length ≤ n by omega), List.drop_of_length_le (Nat.le_refl _), List.take_nil]
theorem cut_to (xs : List V) (i : Int) (h : 0 ≤ i) : cutV xs none (some i) = xs.take i.toNat := by
  unfold cutV
  obtain ⟨n, rfl⟩ : ∃ n : Nat, i = (n : Int) := ⟨i.toNat, by omega⟩
  rw [show HT.sIx xs.length xs.length (some (n : Int)) = min n xs.length from HT.sIx_nat xs.length xs.length n, HT.sIx_none]
  have e : ((n : Int)).toNat = n := by omega
  rw [e, List.drop_zero, Nat.sub_zero]
  by_cases c : n ≤ xs.length
  · rw [Nat.min_eq_left c]
  · rw [Nat.min_eq_right (by omega), List.take_of_length_le (Nat.le_refl _), List.take_of_length_le (by omega)]
theorem dint {i j : Int} : decide (V.int i = V.int j) = decide (i = j) := by
  rw [decide_eq_decide]
  exact ⟨fun e => V.int.inj e, fun e => by rw [e]⟩
theorem dstr {i j : Str} : decide (V.str i = V.str j) = decide (i = j) := by
  rw [decide_eq_decide]
  exact ⟨fun e => V.str.inj e, fun e => by rw [e]⟩
theorem filt_all {α : Type} (l : List α) : l.filter (fun _ => true) = l := List.filter_eq_self.mpr fun _ _ => rfl
theorem sz {n : Nat} (h : n ≤ 100000) : n ≤ sizeLine := Nat.le_trans h (by decide)
theorem szl {n : Nat} (h : n < 100000) : n < sizeLine := Nat.lt_of_lt_of_le h (by decide)
theorem ixn {n : Nat} {i : Int} {j : Nat} (e : i = (j : Int)) (hj : j < n) : ixN n i = some j := by
  rw [e]
  exact Evl.ixN_nat hj
/-! ### rules with the written part said -/
section
variable {X : Cx}
theorem ixL (K : PySem.W.Frag) (e : X.K = K := by rfl) : IxR X (rIxL K) := e ▸ ix_list
theorem ixT (K : PySem.W.Frag) (e : X.K = K := by rfl) : IxR X (rIxT K) := e ▸ ix_tup
theorem slL (K : PySem.W.Frag) (e : X.K = K := by rfl) : SlR X (rSlL K) := e ▸ sl_list
theorem slT (K : PySem.W.Frag) (e : X.K = K := by rfl) : SlR X (rSlT K) := e ▸ sl_tup
def rLen (K : PySem.W.Frag) : List V → Hp → VK → Prop := fun xs H Q => ∃ p ys, xs = [.ref p] ∧ (SqL K H p ys ∨ SqT K H p ys) ∧ Q (.int ys.length) H
theorem callLen (K : PySem.W.Frag) (e : X.K = K := by rfl) : CallR X (.builtin "len") (rLen K) := e ▸ call_len_seq
def rLstOf (K : PySem.W.Frag) : List V → Hp → VK → Prop := fun xs H Q => ∃ p ys, xs = [.ref p] ∧ (SqL K H p ys ∨ SqT K H p ys) ∧ ∀ l, H l = none → Q (.ref l) (upd H l (.lst ys))
theorem callLst (K : PySem.W.Frag) (e : X.K = K := by rfl) : CallR X (.type "list") (rLstOf K) := e ▸ call_list_of
def rTupOf (K : PySem.W.Frag) : List V → Hp → VK → Prop := fun xs H Q => ∃ p ys, xs = [.ref p] ∧ ((SqL K H p ys ∧ ∀ l, H l = none → Q (.ref l) (upd H l (.tup ys))) ∨ (SqT K H p ys ∧ Q (.ref p) H))
theorem callTup (K : PySem.W.Frag) (e : X.K = K := by rfl) : CallR X (.type "tuple") (rTupOf K) := e ▸ call_tuple_of
theorem eqD (K : PySem.W.Frag) (hu : X.A.units + 64 < cLine) (e : X.K = K := by rfl) : OpR X (compareOp .Eq) (rEqD K) := e ▸ op_eqD hu
theorem neD (K : PySem.W.Frag) (hu : X.A.units + 64 < cLine) (e : X.K = K := by rfl) : OpR X (compareOp .NotEq) (rNeD K) := e ▸ op_neD hu
theorem callIsi (K : PySem.W.Frag) (e : X.K = K := by rfl) : CallR X (.builtin "isinstance") (rIsi K) := e ▸ call_isi
theorem inSq (K : PySem.W.Frag) (e : X.K = K := by rfl) : OpR X (compareOp .In) (rIn K false) := e ▸ op_in_seq
theorem ninSq (K : PySem.W.Frag) (e : X.K = K := by rfl) : OpR X (compareOp .NotIn) (rIn K true) := e ▸ op_notIn_seq
theorem piL (K : PySem.W.Frag) {tg l : Expr} {tl : TE} (h : PE X l tl) (e : X.K = K := by rfl) : PI X tg l (iList K tl) := e ▸ pi_list h
theorem piT (K : PySem.W.Frag) {tg l : Expr} {tl : TE} (h : PE X l tl) (e : X.K = K := by rfl) : PI X tg l (iTup K tl) := e ▸ pi_tup h
theorem pgT (K : PySem.W.Frag) {es : List Expr} {k : Nat} {t : TGs} {n : Nat} {pos : Pos} (hc : X.calm = true) (h : PGs X es t)
    (hn : (assignEach es X.env).length = n := by rfl) (hst : (assignEach es X.env).findIdx? (·.1) = none := by rfl) (e : X.K = K := by rfl) : PG X (.Tuple es k pos) (gTup K n t) := e ▸ pg_tup hc h hn hst
theorem peM0 (K : PySem.W.Frag) {o : Expr} {to : TE} {name : Str} {apos cpos : Pos} {T id : String} {r : V → List V → Hp → VK → Prop} (pa : PlainAttrs T) (slot : Slot T name id) (hty : typeOf (.builtin id) = pure (.type "method_descriptor")) (hm : MtR X id r) (ho : PE X o to)
    (hbase : attributeBase o name X.env (eval o X.env) = eval o X.env := by rfl) (hline : (apos.endLine == cpos.line) = true := by rfl) (e : X.K = K := by rfl) : PE X (.Call (.Attribute o name apos) [] [] cpos) (tBM0 K T r to) := e ▸ pe_bm0 pa slot hty hm ho hbase hline
theorem peM (K : PySem.W.Frag) {o a : Expr} {es : List Expr} {to : TE} {t : TA} {name : Str} {apos cpos : Pos} {T id : String} {r : V → List V → Hp → VK → Prop} (pa : PlainAttrs T) (slot : Slot T name id) (hty : typeOf (.builtin id) = pure (.type "method_descriptor")) (hm : MtR X id r) (ho : PE X o to) (ha : PA X (a :: es) t)
    (hbase : attributeBase o name X.env (eval o X.env) = eval o X.env := by rfl)
    (hfew : ((backTo cpos (starEach (a :: es) X.env)).all (fun x => !x.1) && (backToKw cpos (keywordEach [] X.env)).all (fun x => x.1.isSome)
      && decide ((a :: es).length + ([] : List Keyword).length + (if ([] : List Keyword).isEmpty then 0 else 1) < 30)) = true := by rfl)
    (hline : (apos.endLine == cpos.line) = true := by rfl) (hs : starEach (a :: es) X.env = (false, eval a X.env) :: starEach es X.env := by rfl) (hplain : (backTo cpos (starEach es X.env)).any (·.1) = false := by rfl) (e : X.K = K := by rfl) :
    PE X (.Call (.Attribute o name apos) (a :: es) [] cpos) (tBM K T r to t) := e ▸ pe_bm pa slot hty hm ho ha hbase hfew hline hs hplain
theorem callSrtI (K : PySem.W.Frag) (e : X.K = K := by rfl) : CallR X (.builtin "sorted") (rSortedI K) := e ▸ cr_sortedI
theorem mtIndex (K : PySem.W.Frag) (e : X.K = K := by rfl) : MtR X "list.index" (rIndex K) := e ▸ mt_index
/-- a op b op c op d -/
def tChain3 (r1 r2 r3 : R2) (ta tb tc td : TE) : TE := fun σ H Q => ta σ H fun x H1 => tb σ H1 fun y H2 => r1 x y H2 fun z H3 => ∃ k, z = .bl k ∧
  (if k = true then tc σ H3 fun u H4 => r2 y u H4 fun z2 H5 => ∃ k2, z2 = .bl k2 ∧ (if k2 = true then td σ H5 fun v H6 => r3 u v H6 Q else Q (.bl false) H5) else Q (.bl false) H3)
theorem pe_chain3 {a b c d : Expr} {ta tb tc td : TE} {pos : Pos} {o1 o2 o3 : CmpOp} {r1 r2 r3 : R2} (h1 : OpR X (compareOp o1) r1) (h2 : OpR X (compareOp o2) r2) (h3 : OpR X (compareOp o3) r3) (ha : PE X a ta) (hb : PE X b tb) (hc : PE X c tc) (hd : PE X d td)
    (hm : lastMarks [o1, o2, o3] [b, c, d] = false := by with_unfolding_all rfl) : PE X (.Compare a [o1, o2, o3] [b, c, d] pos) (tChain3 r1 r2 r3 ta tb tc td) := by
  refine ⟨fun pins s σ H Q I h => ?_⟩
  refine PyProof.Rows.Compare_chain (thn (ha.run pins s σ H _ I h) fun v s1 ⟨x, H1, I1, q1r, q1⟩ => PyProof.Rows.chain_link (thn (hb.run pins s1 σ H1 _ I1 q1) fun u s2 ⟨y, H2, I2, q2r, q2⟩ =>
    thn (h1 pins s2 σ H2 x y v u _ I2 q1r q2r q2) fun e s3 ⟨z, H3, I3, q3r, k, ez, q3⟩ => ?_)) hm
  subst ez
  cases q3r
  refine wpAny_truthy_bool ?_
  cases k with
  | false => exact iteF ⟨.bl false, H3, I3, rfl, q3⟩
  | true =>
    refine iteT (PyProof.Rows.chain_link (thn (hc.run pins s3 σ H3 _ I3 q3) fun w s4 ⟨y2, H4, I4, q4r, q4⟩ => thn (h2 pins s4 σ H4 y y2 u w _ I4 q2r q4r q4) fun e2 s5 ⟨z2, H5, I5, q5r, k2, ez2, q5⟩ => ?_))
    subst ez2
    cases q5r
    refine wpAny_truthy_bool ?_
    cases k2 with
    | false => exact iteF ⟨.bl false, H5, I5, rfl, q5⟩
    | true => exact iteT (PyProof.Rows.chain_last (thn (hd.run pins s5 σ H5 _ I5 q5) fun w' s6 ⟨z', H6, I6, q6r, q6⟩ => h3 pins s6 σ H6 y2 z' w w' Q I6 q4r q6r q6))
end
section
variable {X : Cx}
theorem pe_gi {x : Str} {i : Int} {pos : Pos} (h : ∃ t, X.mg x = some (.int i t)) (hg : Gl X x := by rfl) (hd : (x == ("__debug__" : Str)) = false := by decide) : PE X (.Name x pos) (tC (.int i)) := by
  obtain ⟨t, e⟩ := h
  exact pe_glob hg e ⟨t, rfl⟩ hd
theorem pe_gs {x y : Str} {pos : Pos} (h : ∃ t, X.mg x = some (.str y t)) (hg : Gl X x := by rfl) (hd : (x == ("__debug__" : Str)) = false := by decide) : PE X (.Name x pos) (tC (.str y)) := by
  obtain ⟨t, e⟩ := h
  exact pe_glob hg e ⟨t, rfl⟩ hd
end
/-! ### a reading's outermost word, taken off -/
theorem sq {t u : TS} {D : Ends} {σ : St} {H : Hp} (h : t { D with nx := u D } σ H) : tSeq t u D σ H := h
theorem gn {i : Nat} {v : V} {σ : St} {H : Hp} {Q : St → Hp → Prop} (h : Q (σ.set i (some v)) H) : gName i v σ H Q := h
theorem asg {te : TE} {i : Nat} {D : Ends} {σ : St} {H : Hp} (h : te σ H fun x H1 => D.nx (σ.set i (some x)) H1) : tAsg te (gName i) D σ H := h
theorem nxt {D : Ends} {σ : St} {H : Hp} (h : D.nx σ H) : tNext D σ H := h
theorem ifs {c : TT} {t u : TS} {D : Ends} {σ : St} {H : Hp} (h : c σ H fun b H1 => if b = true then t D σ H1 else u D σ H1) : tIfS c t u D σ H := h
theorem tst {t : TE} {σ : St} {H : Hp} {Q : Bool → Hp → Prop} (h : t σ H fun x H' => ∃ k, x = .bl k ∧ Q k H') : tTest t σ H Q := h
theorem tbb {t : TE} {σ : St} {H : Hp} {Q : Bool → Hp → Prop} (h : t σ H fun x H' => ∃ k, x = .bl k ∧ Q k H') : tB t σ H Q := h
theorem cb {r : List V → Hp → VK → Prop} {t : TA} {σ : St} {H : Hp} {Q : VK} (h : t σ H fun vs H1 => r vs H1 Q) : tCB r t σ H Q := h
theorem cns {ta : TE} {tr : TA} {σ : St} {H : Hp} {Q : List V → Hp → Prop} (h : ta σ H fun x H1 => tr σ H1 fun xs H2 => Q (x :: xs) H2) : tCons ta tr σ H Q := h
theorem opp {r : R2} {ta tb : TE} {σ : St} {H : Hp} {Q : VK} (h : ta σ H fun x H1 => tb σ H1 fun y H2 => r x y H2 Q) : tOp r ta tb σ H Q := h
theorem cll {sp : Sp} {E : XK} {t : TA} {σ : St} {H : Hp} {Q : VK} (h : t σ H fun vs H1 => sp vs H1 Q E) : tCl sp E t σ H Q := h
theorem lstt {t : TA} {σ : St} {H : Hp} {Q : VK} (h : t σ H fun xs H1 => xs.length ≤ sizeLine ∧ ∀ p, H1 p = none → Q (.ref p) (upd H1 p (.lst xs))) : tLst t σ H Q := h
theorem tupp {t : TA} {σ : St} {H : Hp} {Q : VK} (h : t σ H fun xs H1 => xs.length ≤ sizeLine ∧ ∀ p, H1 p = none → Q (.ref p) (upd H1 p (.tup xs))) : tTup t σ H Q := h
theorem bmm {K : PySem.W.Frag} {T : String} {r : V → List V → Hp → VK → Prop} {to : TE} {t : TA} {σ : St} {H : Hp} {Q : VK} (h : to σ H fun x H1 => tyV K T x H1 ∧ t σ H1 fun xs H2 => r x xs H2 Q) : tBM K T r to t σ H Q := h
theorem retn {te : TE} {D : Ends} {σ : St} {H : Hp} (h : te σ H D.rt) : tRet te D σ H := h
/-! ### comprehensions whose tests and elements leave the heap as it is -/
section
variable {K : PySem.W.Frag} {σ : St} {H : Hp} {tl te : TE} {tt : TT} {j : Nat} {vs : List Nat} {a : Addr} {xs : List V} {Q : VK}
theorem filter_take {α : Type} {f : α → Bool} {xs : List α} {i : Nat} {x : α} (h : xs[i]? = some x) : (xs.take (i + 1)).filter f = (xs.take i).filter f ++ (if f x = true then [x] else []) := by
  rw [List.take_add_one, h, List.filter_append]
  congr 1
  cases e : f x <;> simp [e]
theorem lc_turn (f : V → Bool) (v : V → V) {H' : Hp} {D : Addr} {i : Nat} {x : V} {σ2 : St} (hD : H D = none) (hi : xs[i]? = some x) (hz : xs.length ≤ 40000) (e : H' = upd H D (.lst (((xs.take i).filter f).map v)))
    (ht : ∀ H1, Same H H1 → ∀ Q : Bool → Hp → Prop, Q (f x) H1 → tt σ2 H1 Q) (he : f x = true → ∀ H1, Same H H1 → ∀ Q : VK, Q (v x) H1 → te σ2 H1 Q) :
    tt σ2 H' fun b H3 => if b = true then te σ2 H3 fun y H4 => ∃ acc, H4 D = some (.lst acc) ∧ acc.length < sizeLine ∧ upd H4 D (.lst (acc ++ [y])) = upd H D (.lst (((xs.take (i + 1)).filter f).map v)) else H3 = upd H D (.lst (((xs.take (i + 1)).filter f).map v)) := by
  subst e
  refine ht _ (sm_new hD) _ ?_
  rw [filter_take hi]
  cases hf : f x with
  | true =>
    refine iteT (he hf _ (sm_new hD) _ ⟨_, upd_same, szl ?_, ?_⟩)
    · rw [List.length_map]
      have h1 := List.length_filter_le f (xs.take i)
      rw [List.length_take] at h1
      omega
    · rw [upd_upd, if_pos rfl, List.map_append]
      rfl
  | false =>
    refine iteF ?_
    rw [if_neg Bool.false_ne_true, List.append_nil]
theorem lcL (f : V → Bool) (v : V → V) (hl : ∀ Q : VK, Q (.ref a) H → tl σ H Q) (hx : SqL K H a xs) (hz : xs.length ≤ 40000) (hw : ∀ x, wipe ((wipe σ vs).set j (some x)) vs = wipe σ vs)
    (ht : ∀ x ∈ xs, ∀ H1, Same H H1 → ∀ Q : Bool → Hp → Prop, Q (f x) H1 → tt ((wipe σ vs).set j (some x)) H1 Q) (he : ∀ x ∈ xs, f x = true → ∀ H1, Same H H1 → ∀ Q : VK, Q (v x) H1 → te ((wipe σ vs).set j (some x)) H1 Q)
    (q : ∀ p, H p = none → Q (.ref p) (upd H p (.lst ((xs.filter f).map v)))) : tLc (iList K tl) (gName j) tt te vs σ H Q := by
  refine hl _ ⟨a, rfl, ⟨xs, hx⟩, fun D hD => lc_list (K := K) (a := a) (xs := xs) (fun i H' => H' = upd H D (.lst (((xs.take i).filter f).map v))) rfl (fun i H' _ e => ?_) (fun i x H' hi e => ⟨hw x, ?_⟩) (fun H' e => ?_)⟩
  · rw [e]
    exact (sm_new hD).seq hx
  · have hm := List.mem_of_getElem? hi
    exact lc_turn f v hD hi hz e (ht x hm) (he x hm)
  · rw [List.take_length] at e
    rw [e]
    exact q D hD
theorem lcT (f : V → Bool) (v : V → V) (hl : ∀ Q : VK, Q (.ref a) H → tl σ H Q) (hx : SqT K H a xs) (hz : xs.length ≤ 40000) (hw : ∀ x, wipe ((wipe σ vs).set j (some x)) vs = wipe σ vs)
    (ht : ∀ x ∈ xs, ∀ H1, Same H H1 → ∀ Q : Bool → Hp → Prop, Q (f x) H1 → tt ((wipe σ vs).set j (some x)) H1 Q) (he : ∀ x ∈ xs, f x = true → ∀ H1, Same H H1 → ∀ Q : VK, Q (v x) H1 → te ((wipe σ vs).set j (some x)) H1 Q)
    (q : ∀ p, H p = none → Q (.ref p) (upd H p (.lst ((xs.filter f).map v)))) : tLc (iTup K tl) (gName j) tt te vs σ H Q := by
  refine hl _ ⟨a, rfl, ⟨xs, hx⟩, fun D hD => lc_tup (K := K) (a := a) (xs := xs) (fun i H' => H' = upd H D (.lst (((xs.take i).filter f).map v))) rfl (fun i H' _ e => ?_) (fun i x H' hi e => ⟨hw x, ?_⟩) (fun H' e => ?_)⟩
  · rw [e]
    exact sm_seqT (sm_new hD) hx
  · have hm := List.mem_of_getElem? hi
    exact lc_turn f v hD hi hz e (ht x hm) (he x hm)
  · rw [List.take_length] at e
    rw [e]
    exact q D hD
/-- over a tuple, a list that was made on the way -/
theorem lcTN (f : V → Bool) (v : V → V) (hl : ∀ Q : VK, (∀ a H1, Same H H1 → SqT K H1 a xs → Q (.ref a) H1) → tl σ H Q) (hz : xs.length ≤ 40000) (hw : ∀ x, wipe ((wipe σ vs).set j (some x)) vs = wipe σ vs)
    (ht : ∀ x ∈ xs, ∀ H1, Same H H1 → ∀ Q : Bool → Hp → Prop, Q (f x) H1 → tt ((wipe σ vs).set j (some x)) H1 Q) (he : ∀ x ∈ xs, f x = true → ∀ H1, Same H H1 → ∀ Q : VK, Q (v x) H1 → te ((wipe σ vs).set j (some x)) H1 Q)
    (q : ∀ H1 p, Same H H1 → H1 p = none → Q (.ref p) (upd H1 p (.lst ((xs.filter f).map v)))) : tLc (iTup K tl) (gName j) tt te vs σ H Q := by
  refine hl _ fun a H1 s1 hx => ⟨a, rfl, ⟨xs, hx⟩, fun D hD => lc_tup (K := K) (a := a) (xs := xs) (fun i H' => H' = upd H1 D (.lst (((xs.take i).filter f).map v))) rfl (fun i H' _ e => ?_) (fun i x H' hi e => ⟨hw x, ?_⟩) (fun H' e => ?_)⟩
  · rw [e]
    exact sm_seqT (sm_new hD) hx
  · have hm := List.mem_of_getElem? hi
    exact lc_turn f v hD hi hz e (fun H2 s2 => ht x hm H2 (s1.trans s2)) (fun hf H2 s2 => he x hm hf H2 (s1.trans s2))
  · rw [List.take_length] at e
    rw [e]
    exact q H1 D s1 hD
theorem lcLN (f : V → Bool) (v : V → V) (hl : ∀ Q : VK, (∀ a H1, Same H H1 → SqL K H1 a xs → Q (.ref a) H1) → tl σ H Q) (hz : xs.length ≤ 40000) (hw : ∀ x, wipe ((wipe σ vs).set j (some x)) vs = wipe σ vs)
    (ht : ∀ x ∈ xs, ∀ H1, Same H H1 → ∀ Q : Bool → Hp → Prop, Q (f x) H1 → tt ((wipe σ vs).set j (some x)) H1 Q) (he : ∀ x ∈ xs, f x = true → ∀ H1, Same H H1 → ∀ Q : VK, Q (v x) H1 → te ((wipe σ vs).set j (some x)) H1 Q)
    (q : ∀ H1 p, Same H H1 → H1 p = none → Q (.ref p) (upd H1 p (.lst ((xs.filter f).map v)))) : tLc (iList K tl) (gName j) tt te vs σ H Q := by
  refine hl _ fun a H1 s1 hx => ⟨a, rfl, ⟨xs, hx⟩, fun D hD => lc_list (K := K) (a := a) (xs := xs) (fun i H' => H' = upd H1 D (.lst (((xs.take i).filter f).map v))) rfl (fun i H' _ e => ?_) (fun i x H' hi e => ⟨hw x, ?_⟩) (fun H' e => ?_)⟩
  · rw [e]
    exact (sm_new hD).seq hx
  · have hm := List.mem_of_getElem? hi
    exact lc_turn f v hD hi hz e (fun H2 s2 => ht x hm H2 (s1.trans s2)) (fun hf H2 s2 => he x hm hf H2 (s1.trans s2))
  · rw [List.take_length] at e
    rw [e]
    exact q H1 D s1 hD
/-- over range(n) -/
theorem lcR {ta : TA} {n : Int} (f : V → Bool) (v : V → V) (hl : ∀ Q : List V → Hp → Prop, Q [.int n] H → ta σ H Q) (hz : n ≤ 40000) (hw : ∀ x, wipe ((wipe σ vs).set j (some x)) vs = wipe σ vs)
    (ht : ∀ i : Nat, (i : Int) < n → ∀ H1, Same H H1 → ∀ Q : Bool → Hp → Prop, Q (f (.int (i : Int))) H1 → tt ((wipe σ vs).set j (some (.int (i : Int)))) H1 Q)
    (he : ∀ i : Nat, (i : Int) < n → f (.int (i : Int)) = true → ∀ H1, Same H H1 → ∀ Q : VK, Q (v (.int (i : Int))) H1 → te ((wipe σ vs).set j (some (.int (i : Int)))) H1 Q) (hn : -40000 ≤ n)
    (q : ∀ p, H p = none → Q (.ref p) (upd H p (.lst ((((List.range n.toNat).map fun i : Nat => V.int (i : Int)).filter f).map v)))) : tLc (iRng1 ta) (gName j) tt te vs σ H Q := by
  refine hl _ ⟨n, rfl, by omega, by omega, fun D hD => lc_range (lo := 0) (n := n.toNat) (fun i H' => H' = upd H D (.lst ((((((List.range n.toNat).map fun i : Nat => V.int (i : Int))).take i).filter f).map v))) rfl (fun i H' hi e => ?_) (fun H' e => ?_)⟩
  · have e0 : (0 : Int) + (i : Int) = (i : Int) := Int.zero_add _
    have hg : ((List.range n.toNat).map fun i : Nat => V.int (i : Int))[i]? = some (V.int (i : Int)) := by
      rw [List.getElem?_map, List.getElem?_range hi]
      rfl
    rw [e0]
    exact ⟨hw _, lc_turn f v hD hg (by rw [List.length_map, List.length_range]; omega) e (ht i (by omega)) (he i (by omega))⟩
  · rw [List.take_of_length_le (by rw [List.length_map, List.length_range]; exact Nat.le_refl _)] at e
    rw [e]
    exact q D hD
end
end Pg
namespace Pg
open PySem L2
/-! ### lists of pairs of ints, sorted -/
abbrev Pr := Int × Int
def insP (x : Pr) : List Pr → List Pr
  | [] => [x]
  | y :: r => if SrtO.lexB y x = true then y :: insP x r else x :: y :: r
def sortP : List Pr → List Pr
  | [] => []
  | x :: r => insP x (sortP r)
abbrev SrP (l : List Pr) : Prop := l.Pairwise fun x y => SrtO.lexB y x = false
theorem insP_perm (x : Pr) : ∀ l, (insP x l).Perm (x :: l)
  | [] => List.Perm.refl _
  | y :: r => by
    unfold insP
    split
    · exact ((insP_perm x r).cons y).trans (List.Perm.swap x y r)
    · exact List.Perm.refl _
theorem sortP_perm : ∀ l, (sortP l).Perm l
  | [] => List.Perm.refl _
  | x :: r => (insP_perm x (sortP r)).trans ((sortP_perm r).cons x)
theorem insP_sorted (x : Pr) : ∀ l, SrP l → SrP (insP x l)
  | [], _ => List.pairwise_singleton _ _
  | y :: r, h => by
    obtain ⟨h1, h2⟩ := List.pairwise_cons.mp h
    unfold insP
    split
    · rename_i c
      refine List.pairwise_cons.mpr ⟨fun z hz => ?_, insP_sorted x r h2⟩
      rcases List.mem_cons.mp ((insP_perm x r).mem_iff.mp hz) with e | m
      · subst e
        have c1 := SrtO.lexB_iff.mp c
        exact SrtO.lexB_no.mpr (by omega)
      · exact h1 z m
    · rename_i c
      have c' : SrtO.lexB y x = false := by
        cases e : SrtO.lexB y x with
        | true => exact absurd e c
        | false => rfl
      refine List.pairwise_cons.mpr ⟨fun z hz => ?_, h⟩
      rcases List.mem_cons.mp hz with e | m
      · subst e
        exact c'
      · have a := SrtO.lexB_no.mp c'
        have b := SrtO.lexB_no.mp (h1 z m)
        exact SrtO.lexB_no.mpr (by omega)
theorem sortP_sorted : ∀ l, SrP (sortP l)
  | [] => List.Pairwise.nil
  | x :: r => insP_sorted x _ (sortP_sorted r)
theorem srp_uniq {l m : List Pr} (h1 : SrP l) (h2 : SrP m) (p : l.Perm m) : l = m := by
  refine List.Perm.eq_of_pairwise (le := fun x y => SrtO.lexB y x = false) (fun a b _ _ q r => ?_) h1 h2 p
  have q := SrtO.lexB_no.mp q
  have r := SrtO.lexB_no.mp r
  exact Prod.ext (by omega) (by omega)
theorem sortP_of {l m : List Pr} (h1 : SrP l) (p : l.Perm m) : l = sortP m := srp_uniq h1 (sortP_sorted m) (p.trans (sortP_perm m).symm)
theorem sortP_id {l : List Pr} (h : SrP l) : sortP l = l := (sortP_of h (List.Perm.refl _)).symm
theorem sortP_len (l : List Pr) : (sortP l).length = l.length := (sortP_perm l).length_eq
theorem sortP_congr {l m : List Pr} (p : l.Perm m) : sortP l = sortP m := sortP_of (sortP_sorted l) ((sortP_perm l).trans p)
/-! ### pairs in the heap -/
def PairAt (H : Hp) (v : V) (p : Pr) : Prop := ∃ t, v = .ref t ∧ H t = some (.tup [.int p.1, .int p.2])
abbrev PairsAt (H : Hp) : List V → List Pr → Prop := Paired (PairAt H)
theorem PairAt.mono {H H' : Hp} {v : V} {p : Pr} (e : Same H H') (h : PairAt H v p) : PairAt H' v p := by
  obtain ⟨t, rfl, ht⟩ := h
  exact ⟨t, rfl, e _ _ ht⟩
theorem PairsAt.mono {H H' : Hp} (e : Same H H') : ∀ {xs : List V} {ps : List Pr}, PairsAt H xs ps → PairsAt H' xs ps
  | _, _, .nil => .nil
  | _, _, .cons a b => .cons (a.mono e) (PairsAt.mono e b)
theorem PairAt.inj {H : Hp} {v : V} {p q : Pr} (h : PairAt H v p) (h' : PairAt H v q) : p = q := by
  obtain ⟨t, rfl, ht⟩ := h
  obtain ⟨t', e, ht'⟩ := h'
  cases e
  rw [ht] at ht'
  have z := HO.tup.inj (Option.some.inj ht')
  have z1 := V.int.inj (List.cons.inj z).1
  have z2 := V.int.inj (List.cons.inj (List.cons.inj z).2).1
  exact Prod.ext z1 z2
theorem paired_length {α β : Type} {F : α → β → Prop} : ∀ {xs : List α} {ys : List β}, Paired F xs ys → xs.length = ys.length
  | _, _, .nil => rfl
  | _, _, .cons _ t => by
    rw [List.length_cons, List.length_cons, paired_length t]
theorem paired_get {α β : Type} {F : α → β → Prop} : ∀ {xs : List α} {ys : List β} {i : Nat} {y : β}, Paired F xs ys → ys[i]? = some y → ∃ x, xs[i]? = some x ∧ F x y
  | _, _, _, _, .nil, e => by simp at e
  | _, _, 0, _, .cons r _, e => ⟨_, rfl, by rw [← Option.some.inj e]; exact r⟩
  | _, _, i + 1, y, .cons _ t, e => paired_get (i := i) t e
theorem paired_get' {α β : Type} {F : α → β → Prop} : ∀ {xs : List α} {ys : List β} {i : Nat} {x : α}, Paired F xs ys → xs[i]? = some x → ∃ y, ys[i]? = some y ∧ F x y
  | _, _, _, _, .nil, e => by simp at e
  | _, _, 0, _, .cons r _, e => ⟨_, rfl, by rw [← Option.some.inj e]; exact r⟩
  | _, _, i + 1, y, .cons _ t, e => paired_get' (i := i) t e
theorem paired_append {α β : Type} {F : α → β → Prop} : ∀ {xs xs' : List α} {ys ys' : List β}, Paired F xs ys → Paired F xs' ys' → Paired F (xs ++ xs') (ys ++ ys')
  | _, _, _, _, .nil, h => h
  | _, _, _, _, .cons r t, h => .cons r (paired_append t h)
theorem paired_drop {α β : Type} {F : α → β → Prop} : ∀ {xs : List α} {ys : List β} (n : Nat), Paired F xs ys → Paired F (xs.drop n) (ys.drop n)
  | _, _, 0, h => h
  | _, _, _ + 1, .nil => .nil
  | _, _, n + 1, .cons _ t => paired_drop n t
theorem paired_take {α β : Type} {F : α → β → Prop} : ∀ {xs : List α} {ys : List β} (n : Nat), Paired F xs ys → Paired F (xs.take n) (ys.take n)
  | _, _, 0, h => .nil
  | _, _, _ + 1, .nil => .nil
  | _, _, n + 1, .cons r t => .cons r (paired_take n t)
theorem paired_mem {α β : Type} {F : α → β → Prop} : ∀ {xs : List α} {ys : List β} {x : α}, Paired F xs ys → x ∈ xs → ∃ y ∈ ys, F x y
  | _, _, _, .nil, m => absurd m List.not_mem_nil
  | _, _, x, .cons r t, m => by
    rcases List.mem_cons.mp m with e | m
    · subst e
      exact ⟨_, List.mem_cons_self, r⟩
    · obtain ⟨y, hy, q⟩ := paired_mem t m
      exact ⟨y, List.mem_cons_of_mem _ hy, q⟩
/-- the pair that stands at a value -/
def prOf (H : Hp) : V → Pr
  | .ref t => match H t with
    | some (.tup [.int a, .int b]) => (a, b)
    | _ => (0, 0)
  | _ => (0, 0)
theorem PairAt.of {H : Hp} {v : V} {p : Pr} (h : PairAt H v p) : prOf H v = p := by
  obtain ⟨t, rfl, ht⟩ := h
  unfold prOf
  simp only [ht]
theorem PairsAt.map {H : Hp} : ∀ {xs : List V} {ps : List Pr}, PairsAt H xs ps → ps = xs.map (prOf H)
  | _, _, .nil => rfl
  | _, _, .cons a b => by rw [List.map_cons, a.of, ← PairsAt.map b]
theorem PairsAt.all {H : Hp} {xs : List V} {ps : List Pr} (h : PairsAt H xs ps) : ∀ x ∈ xs, PairAt H x (prOf H x) := fun x m => by
  obtain ⟨p, _, q⟩ := paired_mem h m
  rw [q.of]
  exact q
theorem pairsAt_of {H : Hp} : ∀ {xs : List V}, (∀ x ∈ xs, PairAt H x (prOf H x)) → PairsAt H xs (xs.map (prOf H))
  | [], _ => .nil
  | x :: r, h => .cons (h x List.mem_cons_self) (pairsAt_of fun y m => h y (List.mem_cons_of_mem _ m))
/-- sorted of a list of pairs -/
def rSortedPP (K : PySem.W.Frag) : List V → Hp → VK → Prop := fun vs H Q => ∃ (a : Addr) (xs : List V) (ps : List Pr), vs = [V.ref a] ∧ SqL K H a xs ∧ PairsAt H xs ps ∧
  ∀ (ys : List V) (p : Addr), PairsAt H ys (sortP ps) → ys.Perm xs → H p = none → Q (.ref p) (upd H p (.lst ys))
theorem sorted_pairs {H : Hp} {xs ys : List V} {ps : List Pr} (h : PairsAt H xs ps) (h1 : SrtO.Srtd (ltP (prOf H)) ys) (h2 : ys.Perm xs) : PairsAt H ys (sortP ps) := by
  have e : ys.map (prOf H) = sortP ps := sortP_of (SrtO.srtd_map h1) (by rw [h.map]; exact h2.map _)
  rw [← e]
  exact pairsAt_of fun x m => h.all x (h2.mem_iff.mp m)
theorem cr_sortedPP {X : Cx} (K : PySem.W.Frag) (e : X.K = K := by rfl) : CallR X (.builtin "sorted") (rSortedPP K) := by
  subst e
  intro pins s σ H vs us Q I r h
  obtain ⟨a, xs, ps, rfl, hs, hp, q⟩ := h
  refine cr_sortedPO pins s σ H _ us Q I r ⟨a, xs, prOf H, rfl, hs, fun x m => ?_, fun ys p h1 h2 hn => ?_⟩
  · obtain ⟨t, e, ht⟩ := hp.all x m
    exact ⟨t, e, ht⟩
  · exact q ys p (sorted_pairs hp h1 h2.perm) h2.perm hn
/-! ### a pairing in the heap -/
def PairingAt (H : Hp) (v : V) (n : Int) (ps : List Pr) : Prop := ∃ (p q : Addr) (xs : List V), v = .ref p ∧ H p = some (.tup [.int n, .ref q]) ∧ H q = some (.tup xs) ∧ PairsAt H xs ps
theorem PairingAt.mono {H H' : Hp} {v : V} {n : Int} {ps : List Pr} (e : Same H H') (h : PairingAt H v n ps) : PairingAt H' v n ps := by
  obtain ⟨p, q, xs, rfl, h1, h2, h3⟩ := h
  exact ⟨p, q, xs, rfl, e _ _ h1, e _ _ h2, h3.mono e⟩
/-- a list that is changed leaves the pairs -/
theorem upd_pair {H : Hp} {a : Addr} {ys zs : List V} {v : V} {p : Pr} (h : H a = some (.lst ys)) (hp : PairAt H v p) : PairAt (upd H a (.lst zs)) v p := by
  obtain ⟨t, rfl, ht⟩ := hp
  refine ⟨t, rfl, ?_⟩
  rw [upd_ne (ne_of ht h (by intro z; cases z))]
  exact ht
theorem upd_pairs {H : Hp} {a : Addr} {o u : HO} {xs : List V} {ps : List Pr} (h : H a = some o) (hp : PairsAt H xs ps) (ho : (∃ ys, o = .lst ys) := by exact ⟨_, rfl⟩) : PairsAt (upd H a u) xs ps := by
  obtain ⟨ys, rfl⟩ := ho
  induction hp with
  | nil => exact .nil
  | cons a b ih =>
    refine .cons ?_ ih
    obtain ⟨t, e, ht⟩ := a
    refine ⟨t, e, ?_⟩
    rw [upd_ne (ne_of ht h (by intro z; cases z))]
    exact ht
/-! ### as data -/
def prD (p : Pr) : PyData := .tuple [.int p.1, .int p.2]
def prsD (ps : List Pr) : PyData := .tuple (ps.map prD)
def pgD (n : Int) (ps : List Pr) : PyData := .tuple [.int n, prsD ps]
theorem PairAt.dp {K : PySem.W.Frag} {H : Hp} {v : V} {p : Pr} (h : PairAt H v p) : Dp K H v (prD p) := by
  obtain ⟨t, rfl, ht⟩ := h
  exact .tup (SqT.of ht) (.cons (.int _) (.cons (.int _) .nil))
theorem PairsAt.dp {K : PySem.W.Frag} {H : Hp} : ∀ {xs : List V} {ps : List Pr}, PairsAt H xs ps → DpAll K H xs (ps.map prD)
  | _, _, .nil => .nil
  | _, _, .cons a b => .cons a.dp (PairsAt.dp b)
theorem PairingAt.dp {K : PySem.W.Frag} {H : Hp} {v : V} {n : Int} {ps : List Pr} (h : PairingAt H v n ps) : Dp K H v (pgD n ps) := by
  obtain ⟨p, q, xs, rfl, h1, h2, h3⟩ := h
  exact .tup (SqT.of h1) (.cons (.int _) (.cons (.tup (SqT.of h2) h3.dp) .nil))
end Pg
namespace Pg
open PySem L2
/-! ### walks -/
inductive Stp where
  | lone | opn | num (k : Nat)
  deriving DecidableEq
def Stp.v : Stp → V
  | .lone => .str "lone"
  | .opn => .str "open"
  | .num k => .int (k : Int)
/-- the pairs that are open behind the steps, where they are the steps of a walk -/
def run : Nat → List Stp → Option Nat
  | h, [] => some h
  | h, .lone :: r => run h r
  | h, .opn :: r => run (h + 1) r
  | h, .num k :: r => if k < h then run (h - 1) r else none
theorem run_append : ∀ (h : Nat) (a b : List Stp), run h (a ++ b) = (run h a).bind fun h' => run h' b
  | h, [], b => rfl
  | h, .lone :: r, b => run_append h r b
  | h, .opn :: r, b => run_append (h + 1) r b
  | h, .num k :: r, b => by
    show (if k < h then run (h - 1) (r ++ b) else none) = (if k < h then run (h - 1) r else none).bind fun h' => run h' b
    by_cases c : k < h
    · rw [if_pos c, if_pos c]
      exact run_append (h - 1) r b
    · rw [if_neg c, if_neg c]
      rfl
theorem run_lone {ws : List Stp} {h : Nat} (r : run 0 ws = some h) : run 0 (ws ++ [.lone]) = some h := by
  rw [run_append, r]
  rfl
theorem run_opn {ws : List Stp} {h : Nat} (r : run 0 ws = some h) : run 0 (ws ++ [.opn]) = some (h + 1) := by
  rw [run_append, r]
  rfl
theorem run_num {ws : List Stp} {h k : Nat} (r : run 0 ws = some h) (hk : k < h) : run 0 (ws ++ [.num k]) = some (h - 1) := by
  rw [run_append, r]
  show (if k < h then run (h - 1) [] else none) = _
  rw [if_pos hk]
  rfl
theorem run_le : ∀ (ws : List Stp) {h h' : Nat}, run h ws = some h' → h' ≤ h + ws.length
  | [], h, h', r => by
    have e : h = h' := Option.some.inj r
    simp [e]
  | .lone :: r, h, h', e => by
    have := run_le r (h := h) e
    simp only [List.length_cons]
    omega
  | .opn :: r, h, h', e => by
    have := run_le r (h := h + 1) e
    simp only [List.length_cons]
    omega
  | .num k :: r, h, h', e => by
    have e2 : (if k < h then run (h - 1) r else none) = some h' := e
    by_cases c : k < h
    · rw [if_pos c] at e2
      have := run_le r (h := h - 1) e2
      simp only [List.length_cons]
      omega
    · rw [if_neg c] at e2
      cases e2
/-- the pairs of a walk, in the order of their ends: p the point, os the open ones -/
def clo : Int → List Int → List Stp → List (Int × Int)
  | _, _, [] => []
  | p, os, .lone :: r => clo (p + 1) os r
  | p, os, .opn :: r => clo (p + 1) (os ++ [p]) r
  | p, os, .num k :: r => (os.getD k 0, p) :: clo (p + 1) (os.eraseIdx k) r
/-- the open ones behind the steps -/
def opens : Int → List Int → List Stp → List Int
  | _, os, [] => os
  | p, os, .lone :: r => opens (p + 1) os r
  | p, os, .opn :: r => opens (p + 1) (os ++ [p]) r
  | p, os, .num k :: r => opens (p + 1) (os.eraseIdx k) r
theorem clo_append : ∀ (p : Int) (os : List Int) (a b : List Stp), clo p os (a ++ b) = clo p os a ++ clo (p + a.length) (opens p os a) b
  | p, os, [], b => by simp [clo, opens]
  | p, os, .lone :: r, b => by
    show clo (p + 1) os (r ++ b) = clo (p + 1) os r ++ clo (p + ((.lone :: r : List Stp).length : Nat)) (opens (p + 1) os r) b
    rw [clo_append (p + 1) os r b, List.length_cons]
    congr 2
    omega
  | p, os, .opn :: r, b => by
    show clo (p + 1) (os ++ [p]) (r ++ b) = clo (p + 1) (os ++ [p]) r ++ clo (p + ((.opn :: r : List Stp).length : Nat)) (opens (p + 1) (os ++ [p]) r) b
    rw [clo_append (p + 1) _ r b, List.length_cons]
    congr 2
    omega
  | p, os, .num k :: r, b => by
    show _ :: clo (p + 1) (os.eraseIdx k) (r ++ b) = (_ :: clo (p + 1) (os.eraseIdx k) r) ++ clo (p + ((.num k :: r : List Stp).length : Nat)) (opens (p + 1) (os.eraseIdx k) r) b
    rw [clo_append (p + 1) _ r b, List.length_cons, List.cons_append]
    congr 3
    omega
theorem opens_append : ∀ (p : Int) (os : List Int) (a b : List Stp), opens p os (a ++ b) = opens (p + a.length) (opens p os a) b
  | p, os, [], b => by simp [opens]
  | p, os, .lone :: r, b => by
    show opens (p + 1) os (r ++ b) = opens (p + ((.lone :: r : List Stp).length : Nat)) (opens (p + 1) os r) b
    rw [opens_append (p + 1) os r b, List.length_cons]
    congr 1
    omega
  | p, os, .opn :: r, b => by
    show opens (p + 1) (os ++ [p]) (r ++ b) = opens (p + ((.opn :: r : List Stp).length : Nat)) (opens (p + 1) (os ++ [p]) r) b
    rw [opens_append (p + 1) _ r b, List.length_cons]
    congr 1
    omega
  | p, os, .num k :: r, b => by
    show opens (p + 1) (os.eraseIdx k) (r ++ b) = opens (p + ((.num k :: r : List Stp).length : Nat)) (opens (p + 1) (os.eraseIdx k) r) b
    rw [opens_append (p + 1) _ r b, List.length_cons]
    congr 1
    omega
/-- as many are open as run tells -/
theorem opens_len : ∀ (ws : List Stp) (p : Int) (os : List Int) {h : Nat}, run os.length ws = some h → (opens p os ws).length = h
  | [], p, os, h, e => Option.some.inj e
  | .lone :: r, p, os, h, e => opens_len r (p + 1) os e
  | .opn :: r, p, os, h, e => opens_len r (p + 1) (os ++ [p]) (by rw [List.length_append]; exact e)
  | .num k :: r, p, os, h, e => by
    have e2 : (if k < os.length then run (os.length - 1) r else none) = some h := e
    by_cases c : k < os.length
    · rw [if_pos c] at e2
      exact opens_len r (p + 1) (os.eraseIdx k) (by rw [List.length_eraseIdx, if_pos c]; exact e2)
    · rw [if_neg c] at e2
      cases e2
/-- rising, all below p -/
def Asc (p : Int) (os : List Int) : Prop := os.Pairwise (· < ·) ∧ ∀ o ∈ os, o < p
theorem Asc.lone {p : Int} {os : List Int} (h : Asc p os) : Asc (p + 1) os := ⟨h.1, fun o m => by have := h.2 o m; omega⟩
theorem Asc.opn {p : Int} {os : List Int} (h : Asc p os) : Asc (p + 1) (os ++ [p]) := by
  refine ⟨List.pairwise_append.mpr ⟨h.1, List.pairwise_singleton _ _, fun a ha b hb => ?_⟩, fun o m => ?_⟩
  · rw [List.mem_singleton.mp hb]
    exact h.2 a ha
  · rcases List.mem_append.mp m with m | m
    · have := h.2 o m
      omega
    · rw [List.mem_singleton.mp m]
      omega
theorem Asc.num {p : Int} {os : List Int} (h : Asc p os) (k : Nat) : Asc (p + 1) (os.eraseIdx k) :=
  ⟨h.1.sublist (List.eraseIdx_sublist os k), fun o m => by have := h.2 o (List.mem_of_mem_eraseIdx m); omega⟩
theorem asc_nil (p : Int) : Asc p [] := ⟨List.Pairwise.nil, fun _ m => absurd m List.not_mem_nil⟩
theorem opens_asc : ∀ (ws : List Stp) (p : Int) (os : List Int), Asc p os → Asc (p + ws.length) (opens p os ws)
  | [], p, os, h => by simpa [opens] using h
  | .lone :: r, p, os, h => by
    have q := opens_asc r (p + 1) os h.lone
    rw [List.length_cons]
    show Asc _ (opens (p + 1) os r)
    have e : p + ((r.length + 1 : Nat) : Int) = p + 1 + (r.length : Int) := by omega
    rw [e]
    exact q
  | .opn :: r, p, os, h => by
    have q := opens_asc r (p + 1) _ h.opn
    rw [List.length_cons]
    show Asc _ (opens (p + 1) (os ++ [p]) r)
    have e : p + ((r.length + 1 : Nat) : Int) = p + 1 + (r.length : Int) := by omega
    rw [e]
    exact q
  | .num k :: r, p, os, h => by
    have q := opens_asc r (p + 1) _ (h.num k)
    rw [List.length_cons]
    show Asc _ (opens (p + 1) (os.eraseIdx k) r)
    have e : p + ((r.length + 1 : Nat) : Int) = p + 1 + (r.length : Int) := by omega
    rw [e]
    exact q
theorem Asc.nodup {p : Int} {os : List Int} (h : Asc p os) : os.Nodup := h.1.imp fun {a b} q e => by omega
/-- all but the one at k: of a list without doubles -/
theorem filter_ne_eraseIdx : ∀ (os : List Int) (k : Nat), os.Nodup → k < os.length → os.filter (fun o => !decide (o = os.getD k 0)) = os.eraseIdx k
  | [], k, _, h => absurd h (Nat.not_lt_zero _)
  | o :: r, 0, nd, _ => by
    obtain ⟨h1, h2⟩ := List.nodup_cons.mp nd
    show (o :: r).filter (fun x => !decide (x = o)) = r
    rw [List.filter_cons, if_neg (by simp)]
    exact List.filter_eq_self.mpr fun x hx => by
      have : x ≠ o := fun e => h1 (e ▸ hx)
      simp [this]
  | o :: r, k + 1, nd, hk => by
    obtain ⟨h1, h2⟩ := List.nodup_cons.mp nd
    have hk' : k < r.length := by simpa using hk
    have e : (o :: r).getD (k + 1) 0 = r.getD k 0 := by simp [List.getD_eq_getElem?_getD]
    rw [e, List.eraseIdx_cons_succ, List.filter_cons]
    have hm : r.getD k 0 ∈ r := by
      rw [List.getD_eq_getElem?_getD, List.getElem?_eq_getElem hk']
      exact List.getElem_mem hk'
    have ne : o ≠ r.getD k 0 := fun z => h1 (z ▸ hm)
    rw [if_pos (by rw [decide_eq_false ne]; rfl), filter_ne_eraseIdx r k h2 hk']
/-- ahead of the i-th step of a walk -/
theorem run_take {ws : List Stp} {h i : Nat} {st : Stp} (r : run 0 ws = some h) (hi : ws[i]? = some st) : ∃ hi, run 0 (ws.take i) = some hi ∧ ∀ k, st = .num k → k < hi := by
  have e : ws = ws.take i ++ ws.drop i := (List.take_append_drop i ws).symm
  have hl := (List.getElem?_eq_some_iff.mp hi).1
  have ed : ws.drop i = st :: ws.drop (i + 1) := by
    rw [List.drop_eq_getElem_cons hl, (List.getElem?_eq_some_iff.mp hi).2]
  rw [e, run_append, ed] at r
  cases c : run 0 (ws.take i) with
  | none =>
    rw [c] at r
    cases r
  | some h' =>
    refine ⟨h', rfl, fun k z => ?_⟩
    subst z
    rw [c] at r
    have r2 : (if k < h' then run (h' - 1) (ws.drop (i + 1)) else none) = some h := r
    by_cases q : k < h'
    · exact q
    · rw [if_neg q] at r2
      cases r2
theorem take_succ {α : Type} {ws : List α} {i : Nat} {st : α} (hi : ws[i]? = some st) : ws.take (i + 1) = ws.take i ++ [st] := by
  rw [List.take_add_one, hi]
  rfl
theorem take_len {α : Type} {ws : List α} {i : Nat} {st : α} (hi : ws[i]? = some st) : (ws.take i).length = i := by
  rw [List.length_take]
  have := (List.getElem?_eq_some_iff.mp hi).1
  omega
/-- the open ones and the pairs behind i steps -/
abbrev osAt (ws : List Stp) (i : Nat) : List Int := opens 0 [] (ws.take i)
abbrev prAt (ws : List Stp) (i : Nat) : List Pr := clo 0 [] (ws.take i)
theorem os_succ {ws : List Stp} {i : Nat} {st : Stp} (hi : ws[i]? = some st) : osAt ws (i + 1) = opens (i : Int) (osAt ws i) [st] := by
  show opens 0 [] (ws.take (i + 1)) = _
  rw [take_succ hi, opens_append, take_len hi, Int.zero_add]
theorem pr_succ {ws : List Stp} {i : Nat} {st : Stp} (hi : ws[i]? = some st) : prAt ws (i + 1) = prAt ws i ++ clo (i : Int) (osAt ws i) [st] := by
  show clo 0 [] (ws.take (i + 1)) = _
  rw [take_succ hi, clo_append, take_len hi, Int.zero_add]
theorem osAt_asc (ws : List Stp) (i : Nat) : Asc ((ws.take i).length) (osAt ws i) := by
  have h := opens_asc (ws.take i) 0 [] (asc_nil 0)
  rw [Int.zero_add] at h
  exact h
theorem os_num {ws : List Stp} {h i k : Nat} (r : run 0 ws = some h) (hi : ws[i]? = some (.num k)) : k < (osAt ws i).length := by
  obtain ⟨h', r', q⟩ := run_take r hi
  have e := opens_len (ws.take i) 0 [] r'
  show k < (opens 0 [] (ws.take i)).length
  rw [e]
  exact q k rfl
theorem os_le (ws : List Stp) (i : Nat) : (osAt ws i).length ≤ i := by
  have h : ∀ (r : List Stp) (p : Int) (os : List Int), (opens p os r).length ≤ os.length + r.length := by
    intro r
    induction r with
    | nil =>
      intro p os
      exact Nat.le_refl _
    | cons st r ih =>
      intro p os
      rw [List.length_cons]
      cases st with
      | lone =>
        have := ih (p + 1) os
        show (opens (p + 1) os r).length ≤ _
        omega
      | opn =>
        have := ih (p + 1) (os ++ [p])
        rw [List.length_append] at this
        show (opens (p + 1) (os ++ [p]) r).length ≤ _
        simp at this
        omega
      | num k =>
        have := ih (p + 1) (os.eraseIdx k)
        have q := (List.eraseIdx_sublist os k).length_le
        show (opens (p + 1) (os.eraseIdx k) r).length ≤ _
        omega
  have q := h (ws.take i) 0 []
  rw [List.length_take] at q
  simp at q
  show (opens 0 [] (ws.take i)).length ≤ i
  omega
theorem pr_le (ws : List Stp) (i : Nat) : (prAt ws i).length ≤ i := by
  have h : ∀ (r : List Stp) (p : Int) (os : List Int), (clo p os r).length ≤ r.length := by
    intro r
    induction r with
    | nil =>
      intro p os
      exact Nat.le_refl _
    | cons st r ih =>
      intro p os
      rw [List.length_cons]
      cases st with
      | lone => exact Nat.le_succ_of_le (ih (p + 1) os)
      | opn => exact Nat.le_succ_of_le (ih (p + 1) (os ++ [p]))
      | num k => exact Nat.succ_le_succ (ih (p + 1) (os.eraseIdx k))
  have q := h (ws.take i) 0 []
  rw [List.length_take] at q
  show (clo 0 [] (ws.take i)).length ≤ i
  omega
/-- the pairs of a walk, sorted -/
def prs (ws : List Stp) : List Pr := sortP (clo 0 [] ws)
theorem prAt_all (ws : List Stp) : prAt ws ws.length = clo 0 [] ws := by
  show clo 0 [] (ws.take ws.length) = _
  rw [List.take_length]
theorem step_at {ws : List Stp} {i : Nat} (hi : i < ws.length) : ∃ st, ws[i]? = some st ∧ (ws.map Stp.v)[i]? = some st.v := by
  refine ⟨ws[i], List.getElem?_eq_getElem hi, ?_⟩
  rw [List.getElem?_map, List.getElem?_eq_getElem hi]
  rfl
/-- where the pairs of a walk begin and end -/
theorem clo_fst : ∀ (ws : List Stp) (p : Int) (os : List Int) {h : Nat}, Asc p os → run os.length ws = some h → ((clo p os ws).map Prod.fst).Nodup ∧ ∀ x ∈ clo p os ws, (x.1 ∈ os ∨ p ≤ x.1) ∧ x.1 < x.2 ∧ p ≤ x.2
  | [], p, os, h, _, _ => ⟨List.Pairwise.nil, fun x m => absurd m List.not_mem_nil⟩
  | .lone :: r, p, os, h, a, e => by
    obtain ⟨h1, h2⟩ := clo_fst r (p + 1) os a.lone e
    refine ⟨h1, fun x m => ?_⟩
    obtain ⟨z, z2, z3⟩ := h2 x m
    refine ⟨z.imp id fun q => by omega, z2, by omega⟩
  | .opn :: r, p, os, h, a, e => by
    obtain ⟨h1, h2⟩ := clo_fst r (p + 1) (os ++ [p]) a.opn (by rw [List.length_append]; exact e)
    refine ⟨h1, fun x m => ?_⟩
    obtain ⟨z, z2, z3⟩ := h2 x m
    refine ⟨?_, z2, by omega⟩
    rcases z with z | z
    · rcases List.mem_append.mp z with z | z
      · exact .inl z
      · rw [List.mem_singleton.mp z]
        exact .inr (Int.le_refl _)
    · exact .inr (by omega)
  | .num k :: r, p, os, h, a, e => by
    have e2 : (if k < os.length then run (os.length - 1) r else none) = some h := e
    by_cases c : k < os.length
    · rw [if_pos c] at e2
      obtain ⟨h1, h2⟩ := clo_fst r (p + 1) (os.eraseIdx k) (a.num k) (by rw [List.length_eraseIdx, if_pos c]; exact e2)
      have hm : os.getD k 0 ∈ os := by
        rw [List.getD_eq_getElem?_getD, List.getElem?_eq_getElem c]
        exact List.getElem_mem c
      have hlt := a.2 _ hm
      refine ⟨?_, fun x m => ?_⟩
      · show (os.getD k 0 :: (clo (p + 1) (os.eraseIdx k) r).map Prod.fst).Nodup
        refine List.nodup_cons.mpr ⟨fun m => ?_, h1⟩
        obtain ⟨x, hx, ex⟩ := List.mem_map.mp m
        rcases (h2 x hx).1 with z | z
        · rw [← filter_ne_eraseIdx os k a.nodup c] at z
          have := (List.mem_filter.mp z).2
          rw [ex] at this
          simp at this
        · omega
      · rcases List.mem_cons.mp m with m | m
        · rw [m]
          exact ⟨.inl hm, hlt, Int.le_refl _⟩
        · obtain ⟨z, z2, z3⟩ := h2 x m
          refine ⟨?_, z2, by omega⟩
          rcases z with z | z
          · exact .inl (List.mem_of_mem_eraseIdx z)
          · exact .inr (by omega)
    · rw [if_neg c] at e2
      cases e2
theorem prs_perm (ws : List Stp) : (prs ws).Perm (clo 0 [] ws) := sortP_perm _
theorem prs_nodup {ws : List Stp} {h : Nat} (r : run 0 ws = some h) : ((prs ws).map Prod.fst).Nodup := ((prs_perm ws).map Prod.fst).nodup_iff.mpr (clo_fst ws 0 [] (asc_nil 0) r).1
theorem clo_len (ws : List Stp) : (clo 0 [] ws).length ≤ ws.length := by
  have h := pr_le ws ws.length
  rw [prAt_all] at h
  exact h
theorem prs_len (ws : List Stp) : (prs ws).length ≤ ws.length := by
  unfold prs
  rw [sortP_len]
  exact clo_len ws
theorem drop_step {α : Type} {ws : List α} {i : Nat} {st : α} (hi : ws[i]? = some st) : ws.drop i = st :: ws.drop (i + 1) := by
  have hl := (List.getElem?_eq_some_iff.mp hi).1
  rw [List.drop_eq_getElem_cons hl, (List.getElem?_eq_some_iff.mp hi).2]
theorem run_succ {ws : List Stp} {i h : Nat} {st : Stp} (hi : ws[i]? = some st) (r : run 0 (ws.take i) = some h) : run 0 (ws.take (i + 1)) = run h [st] := by
  rw [take_succ hi, run_append, r]
  rfl
end Pg
namespace Pg
open PySem L2
/-! ### crossings and nestings of a list of pairs -/
/-- the program's tests -/
def crossB (p q : Pr) : Bool := decide (q.1 < p.2) && decide (p.2 < q.2)
def nestB (p q : Pr) : Bool := decide (p.1 < q.1) && decide (q.2 < p.2)
/-- the law's -/
def crossL (p q : Pr) : Bool := decide (p.1 < q.1) && (decide (q.1 < p.2) && decide (p.2 < q.2))
def crossRow : List Pr → Int
  | [] => 0
  | p :: r => ((r.filter (crossB p)).length : Int) + crossRow r
/-- of a list ps: for each of l how many of ps are told by f -/
def twos (f : Pr → Pr → Bool) (ps : List Pr) : List Pr → Int
  | [] => 0
  | p :: r => ((ps.filter (f p)).length : Int) + twos f ps r
theorem twos_append (f : Pr → Pr → Bool) (ps : List Pr) : ∀ a b, twos f ps (a ++ b) = twos f ps a + twos f ps b
  | [], b => by simp [twos]
  | p :: r, b => by
    show _ + twos f ps (r ++ b) = (_ + twos f ps r) + _
    rw [twos_append f ps r b]
    omega
theorem twos_perm (f : Pr → Pr → Bool) {ps qs : List Pr} (h : ps.Perm qs) : ∀ {l m : List Pr}, l.Perm m → twos f ps l = twos f qs m := by
  have base : ∀ l, twos f ps l = twos f qs l := by
    intro l
    induction l with
    | nil => rfl
    | cons p r ih =>
      show _ + _ = _ + _
      rw [ih, (h.filter (f p)).length_eq]
  intro l m hm
  rw [base l]
  induction hm with
  | nil => rfl
  | cons x _ ih =>
    show _ + _ = _ + _
    rw [ih]
  | swap x y l =>
    show _ + (_ + _) = _ + (_ + _)
    omega
  | trans _ _ i1 i2 => rw [i1, i2]
/-- rising by first points, no two alike -/
abbrev Ris (ps : List Pr) : Prop := ps.Pairwise fun p q => p.1 < q.1
theorem srp_ris {ps : List Pr} (h : SrP ps) (nd : (ps.map Prod.fst).Nodup) : Ris ps := by
  have nd2 : ps.Pairwise fun p q => p.1 ≠ q.1 := List.pairwise_map.mp nd
  exact List.Pairwise.imp₂ (fun p q h1 h2 => by
    have := SrtO.lexB_no.mp h1
    omega) h nd2
/-- of rising pairs: those behind alone can be crossed -/
theorem cross_row (ps : List Pr) : ∀ (pre r : List Pr), ps = pre ++ r → Ris ps → twos crossL ps r = crossRow r
  | pre, [], _, _ => rfl
  | pre, p :: r, e, h => by
    show _ + _ = _ + _
    rw [cross_row ps (pre ++ [p]) r (by rw [e]; simp) h]
    congr 2
    rw [e, List.filter_append]
    rw [e] at h
    obtain ⟨_, h2, h3⟩ := List.pairwise_append.mp h
    obtain ⟨h4, _⟩ := List.pairwise_cons.mp h2
    have e1 : pre.filter (crossL p) = [] := List.filter_eq_nil_iff.mpr fun q hq z => by
      have := h3 q hq p List.mem_cons_self
      unfold crossL at z
      simp at z
      omega
    have e2 : (p :: r).filter (crossL p) = r.filter (crossB p) := by
      rw [List.filter_cons, if_neg (by unfold crossL; simp)]
      refine List.filter_congr fun q hq => ?_
      unfold crossL crossB
      rw [decide_eq_true (h4 q hq), Bool.true_and]
    rw [e1, e2, List.nil_append]
theorem crossRow_eq {ps : List Pr} (h : Ris ps) : crossRow ps = twos crossL ps ps := (cross_row ps [] ps rfl h).symm
theorem crossRow_drop (ps : List Pr) {i : Nat} {p : Pr} (h : ps[i]? = some p) : crossRow (ps.drop i) = (((ps.drop (i + 1)).filter (crossB p)).length : Int) + crossRow (ps.drop (i + 1)) := by
  have hl := (List.getElem?_eq_some_iff.mp h).1
  rw [List.drop_eq_getElem_cons hl, (List.getElem?_eq_some_iff.mp h).2]
  rfl
theorem twos_take (f : Pr → Pr → Bool) (ps qs : List Pr) {i : Nat} {p : Pr} (h : qs[i]? = some p) : twos f ps (qs.take (i + 1)) = twos f ps (qs.take i) + ((ps.filter (f p)).length : Int) := by
  rw [List.take_add_one, h, twos_append]
  show _ + (_ + 0) = _
  omega
/-- a list of pairs' places, tested -/
theorem filt_pairs {H : Hp} (g : Pr → Bool) : ∀ {xs : List V} {ps : List Pr}, PairsAt H xs ps → PairsAt H (xs.filter fun x => g (prOf H x)) (ps.filter g)
  | _, _, .nil => .nil
  | _, _, .cons (a := x) (b := p) h t => by
    rw [List.filter_cons, List.filter_cons, h.of]
    cases e : g p with
    | true =>
      rw [if_pos rfl, if_pos rfl]
      exact .cons h (filt_pairs g t)
    | false =>
      rw [if_neg Bool.false_ne_true, if_neg Bool.false_ne_true]
      exact filt_pairs g t
theorem twos_congr {f g : Pr → Pr → Bool} (h : ∀ p q, f p q = g p q) (ps : List Pr) : ∀ l, twos f ps l = twos g ps l := by
  have e : f = g := funext fun p => funext fun q => h p q
  intro l
  rw [e]
end Pg
namespace Pg
open PySem L2
/-! ### a heap without one object -/
def del (H : Hp) (r : Addr) : Hp := fun a => if a = r then none else H a
theorem del_same {H : Hp} {r : Addr} : del H r r = none := if_pos rfl
theorem del_ne {H : Hp} {r a : Addr} (h : a ≠ r) : del H r a = H a := if_neg h
theorem del_sub {H : Hp} {r : Addr} : Same (del H r) H := fun a o e => by
  by_cases c : a = r
  · subst c
    rw [del_same] at e
    cases e
  · rw [del_ne c] at e
    exact e
theorem del_upd {H : Hp} {r : Addr} {o : HO} : del (upd H r o) r = del H r := funext fun a => by
  by_cases c : a = r
  · subst c
    rw [del_same, del_same]
  · rw [del_ne c, del_ne c, upd_ne c]
theorem del_mono {H H' : Hp} {r : Addr} (h : Same H H') : Same (del H r) (del H' r) := fun a o e => by
  by_cases c : a = r
  · subst c
    rw [del_same] at e
    cases e
  · rw [del_ne c] at e
    rw [del_ne c]
    exact h _ _ e
/-- a heap that never knew it -/
theorem del_none {H H' : Hp} {r : Addr} (h : Same H H') (hr : H r = none) : Same H (del H' r) := fun a o e => by
  rw [del_ne (ne_of_none e hr)]
  exact h _ _ e
theorem del_at {H : Hp} {a r : Addr} {o : HO} (h : del H r a = some o) : a ≠ r ∧ H a = some o := by
  by_cases c : a = r
  · subst c
    rw [del_same] at h
    cases h
  · rw [del_ne c] at h
    exact ⟨c, h⟩
theorem paired_mono {α β : Type} {F G : α → β → Prop} (m : ∀ {x y}, F x y → G x y) : ∀ {xs : List α} {ys : List β}, Paired F xs ys → Paired G xs ys
  | _, _, .nil => .nil
  | _, _, .cons a b => .cons (m a) (paired_mono m b)
theorem paired_push {α β : Type} {F : α → β → Prop} {xs : List α} {ys : List β} {x : α} {y : β} (h : Paired F xs ys) (a : F x y) : Paired F (xs ++ [x]) (ys ++ [y]) := paired_append h (.cons a .nil)
/-! ### comprehensions whose elements make new objects -/
theorem yesI {σ : St} {H : Hp} {A Z : Hp → Prop} (h : A H) : tYes σ H fun b H3 => if b = true then A H3 else Z H3 := by
  show if true = true then A H else Z H
  rw [if_pos rfl]
  exact h
section
variable {K : PySem.W.Frag} {σ : St} {H : Hp} {tl te : TE} {g : TG} {vs : List Nat} {a : Addr} {xs : List V} {Q : VK} {β : Type}
theorem lcLA (R : Hp → V → β → Prop) (bs : List β) (mono : ∀ {H H' : Hp} {v : V} {b : β}, Same H H' → R H v b → R H' v b) (stab : ∀ {H : Hp} {D : Addr} {ys zs : List V} {v : V} {b : β}, H D = some (.lst ys) → R H v b → R (upd H D (.lst zs)) v b)
    (hl : ∀ Q : VK, Q (.ref a) H → tl σ H Q) (hx : SqL K H a xs) (hb : bs.length = xs.length) (hz : xs.length ≤ 40000)
    (ht : ∀ (i : Nat) (x : V) (b : β), xs[i]? = some x → bs[i]? = some b → ∀ H1, Same H H1 → ∀ (Q : VK) (Z : Hp → Prop), (∀ H2 y, Same H1 H2 → R H2 y b → Q y H2) → g x (wipe σ vs) H1 fun σ2 H2 => wipe σ2 vs = wipe σ vs ∧ tYes σ2 H2 fun b H3 => if b = true then te σ2 H3 Q else Z H3)
    (q : ∀ (H' : Hp) (p : Addr) (ys : List V), Same H H' → H p = none → H' p = some (.lst ys) → Paired (R H') ys bs → Q (.ref p) H') : tLc (iList K tl) g tYes te vs σ H Q := by
  refine hl _ ⟨a, rfl, ⟨xs, hx⟩, fun D hD => lc_list (K := K) (a := a) (xs := xs) (fun i H' => ∃ ys, Same H H' ∧ H' D = some (.lst ys) ∧ Paired (R H') ys (bs.take i)) ?_ ?_ ?_ ?_⟩
  · exact ⟨[], sm_new hD, upd_same, .nil⟩
  · rintro i H' _ ⟨ys, s, _⟩
    exact s.seq hx
  · rintro i x H' hi ⟨ys, s, hd, hp⟩
    have hil := (List.getElem?_eq_some_iff.mp hi).1
    have hbi : bs[i]? = some bs[i] := List.getElem?_eq_getElem (by omega)
    refine ht i x _ hi hbi H' s _ _ fun H2 y s2 r => ?_
    have hd2 := s2 _ _ hd
    have hlen := paired_length hp
    rw [List.length_take] at hlen
    refine ⟨ys, hd2, szl (by omega), ys ++ [y], sm_mut (s.trans s2) hD, upd_same, ?_⟩
    rw [List.take_add_one, hbi]
    exact paired_push (paired_mono (fun r => stab hd2 (mono s2 r)) hp) (stab hd2 r)
  · rintro H' ⟨ys, s, hd, hp⟩
    rw [← hb, List.take_length] at hp
    exact q H' D ys s hD hd hp
theorem lcRA {ta : TA} {n : Nat} (R : Hp → V → β → Prop) (bs : List β) (mono : ∀ {H H' : Hp} {v : V} {b : β}, Same H H' → R H v b → R H' v b) (stab : ∀ {H : Hp} {D : Addr} {ys zs : List V} {v : V} {b : β}, H D = some (.lst ys) → R H v b → R (upd H D (.lst zs)) v b)
    (hl : ∀ Q : List V → Hp → Prop, (∀ H1, Same H H1 → Q [.int (n : Int)] H1) → ta σ H Q) (hb : bs.length = n) (hz : n ≤ 40000)
    (ht : ∀ (i : Nat) (b : β), i < n → bs[i]? = some b → ∀ H1, Same H H1 → ∀ (Q : VK) (Z : Hp → Prop), (∀ H2 y, Same H1 H2 → R H2 y b → Q y H2) → g (.int (i : Int)) (wipe σ vs) H1 fun σ2 H2 => wipe σ2 vs = wipe σ vs ∧ tYes σ2 H2 fun b H3 => if b = true then te σ2 H3 Q else Z H3)
    (q : ∀ (H' : Hp) (p : Addr) (ys : List V), Same H H' → H p = none → H' p = some (.lst ys) → Paired (R H') ys bs → Q (.ref p) H') : tLc (iRng1 ta) g tYes te vs σ H Q := by
  refine hl _ fun H0 s0 => ⟨(n : Int), rfl, by omega, by omega, fun D hD0 => ?_⟩
  have hD : H D = none := s0.free hD0
  refine lc_range (lo := 0) (n := ((n : Int)).toNat) (fun i H' => ∃ ys, Same H H' ∧ H' D = some (.lst ys) ∧ Paired (R H') ys (bs.take i)) ?_ ?_ ?_
  · exact ⟨[], s0.trans (sm_new hD0), upd_same, .nil⟩
  · rintro i H' hi ⟨ys, s, hd, hp⟩
    have hi' : i < n := by omega
    have hbi : bs[i]? = some bs[i] := List.getElem?_eq_getElem (by omega)
    rw [Int.zero_add]
    refine ht i _ hi' hbi H' s _ _ fun H2 y s2 r => ?_
    have hd2 := s2 _ _ hd
    have hlen := paired_length hp
    rw [List.length_take] at hlen
    refine ⟨ys, hd2, szl (by omega), ys ++ [y], sm_mut (s.trans s2) hD, upd_same, ?_⟩
    rw [List.take_add_one, hbi]
    exact paired_push (paired_mono (fun r => stab hd2 (mono s2 r)) hp) (stab hd2 r)
  · rintro H' ⟨ys, s, hd, hp⟩
    rw [show ((n : Int)).toNat = bs.length by omega, List.take_length] at hp
    exact q H' D ys s hD hd hp
theorem lcLD (R : Hp → V → β → Prop) (bs : List β) (mono : ∀ {H H' : Hp} {v : V} {b : β}, Same H H' → R H v b → R H' v b)
    (hl : ∀ Q : VK, Q (.ref a) H → tl σ H Q) (hx : SqL K H a xs) (hb : bs.length = xs.length) (hz : xs.length ≤ 40000)
    (ht : ∀ (i : Nat) (x : V) (b : β), xs[i]? = some x → bs[i]? = some b → ∀ (H1 : Hp) (D : Addr) (acc : List V), Same H H1 → H1 D = some (.lst acc) → ∀ (Q : VK) (Z : Hp → Prop), (∀ H2 y, Same H1 H2 → R (del H2 D) y b → Q y H2) → g x (wipe σ vs) H1 fun σ2 H2 => wipe σ2 vs = wipe σ vs ∧ tYes σ2 H2 fun b H3 => if b = true then te σ2 H3 Q else Z H3)
    (q : ∀ (H' : Hp) (p : Addr) (ys : List V), Same H H' → H p = none → H' p = some (.lst ys) → Paired (R (del H' p)) ys bs → Q (.ref p) H') : tLc (iList K tl) g tYes te vs σ H Q := by
  refine hl _ ⟨a, rfl, ⟨xs, hx⟩, fun D hD => lc_list (K := K) (a := a) (xs := xs) (fun i H' => ∃ ys, Same H H' ∧ H' D = some (.lst ys) ∧ Paired (R (del H' D)) ys (bs.take i)) ?_ ?_ ?_ ?_⟩
  · exact ⟨[], sm_new hD, upd_same, .nil⟩
  · rintro i H' _ ⟨ys, s, _⟩
    exact s.seq hx
  · rintro i x H' hi ⟨ys, s, hd, hp⟩
    have hil := (List.getElem?_eq_some_iff.mp hi).1
    have hbi : bs[i]? = some bs[i] := List.getElem?_eq_getElem (by omega)
    refine ht i x _ hi hbi H' D ys s hd _ _ fun H2 y s2 r => ?_
    have hd2 := s2 _ _ hd
    have hlen := paired_length hp
    rw [List.length_take] at hlen
    refine ⟨ys, hd2, szl (by omega), ys ++ [y], sm_mut (s.trans s2) hD, upd_same, ?_⟩
    rw [List.take_add_one, hbi, del_upd]
    exact paired_push (paired_mono (fun r => mono (del_mono s2) r) hp) r
  · rintro H' ⟨ys, s, hd, hp⟩
    rw [← hb, List.take_length] at hp
    exact q H' D ys s hD hd hp
theorem lcTD (R : Hp → V → β → Prop) (bs : List β) (mono : ∀ {H H' : Hp} {v : V} {b : β}, Same H H' → R H v b → R H' v b)
    (hl : ∀ Q : VK, Q (.ref a) H → tl σ H Q) (hx : SqT K H a xs) (hb : bs.length = xs.length) (hz : xs.length ≤ 40000)
    (ht : ∀ (i : Nat) (x : V) (b : β), xs[i]? = some x → bs[i]? = some b → ∀ (H1 : Hp) (D : Addr) (acc : List V), Same H H1 → H1 D = some (.lst acc) → ∀ (Q : VK) (Z : Hp → Prop), (∀ H2 y, Same H1 H2 → R (del H2 D) y b → Q y H2) → g x (wipe σ vs) H1 fun σ2 H2 => wipe σ2 vs = wipe σ vs ∧ tYes σ2 H2 fun b H3 => if b = true then te σ2 H3 Q else Z H3)
    (q : ∀ (H' : Hp) (p : Addr) (ys : List V), Same H H' → H p = none → H' p = some (.lst ys) → Paired (R (del H' p)) ys bs → Q (.ref p) H') : tLc (iTup K tl) g tYes te vs σ H Q := by
  refine hl _ ⟨a, rfl, ⟨xs, hx⟩, fun D hD => lc_tup (K := K) (a := a) (xs := xs) (fun i H' => ∃ ys, Same H H' ∧ H' D = some (.lst ys) ∧ Paired (R (del H' D)) ys (bs.take i)) ?_ ?_ ?_ ?_⟩
  · exact ⟨[], sm_new hD, upd_same, .nil⟩
  · rintro i H' _ ⟨ys, s, _⟩
    exact sm_seqT s hx
  · rintro i x H' hi ⟨ys, s, hd, hp⟩
    have hil := (List.getElem?_eq_some_iff.mp hi).1
    have hbi : bs[i]? = some bs[i] := List.getElem?_eq_getElem (by omega)
    refine ht i x _ hi hbi H' D ys s hd _ _ fun H2 y s2 r => ?_
    have hd2 := s2 _ _ hd
    have hlen := paired_length hp
    rw [List.length_take] at hlen
    refine ⟨ys, hd2, szl (by omega), ys ++ [y], sm_mut (s.trans s2) hD, upd_same, ?_⟩
    rw [List.take_add_one, hbi, del_upd]
    exact paired_push (paired_mono (fun r => mono (del_mono s2) r) hp) r
  · rintro H' ⟨ys, s, hd, hp⟩
    rw [← hb, List.take_length] at hp
    exact q H' D ys s hD hd hp
end
theorem frr {wi : TI} {g : TG} {tb : TS} {D : Ends} {σ : St} {H : Hp} {R : _} (e : tFor wi g tb D σ H = wi σ H R) (h : wi σ H R) : tFor wi g tb D σ H := by
  rw [e]
  exact h
theorem rg2 {ta : TA} {σ : St} {H : Hp} {R : _} (h : ta σ H fun vs H1 => ∃ i j : Int, vs = [.int i, .int j] ∧ (-(2 ^ 62) ≤ i ∧ i < 2 ^ 62 ∧ -(2 ^ 62) ≤ j ∧ j < 2 ^ 62) ∧ R (Itr i (j - i).toNat) H1) : iRng2 ta σ H R := h
theorem rg1 {ta : TA} {σ : St} {H : Hp} {R : _} (h : ta σ H fun vs H1 => ∃ j : Int, vs = [.int j] ∧ -(2 ^ 62) ≤ j ∧ j < 2 ^ 62 ∧ R (Itr 0 j.toNat) H1) : iRng1 ta σ H R := h
theorem cst {v : V} {σ : St} {H : Hp} {Q : VK} (h : Q v H) : tC v σ H Q := h
theorem nls {σ : St} {H : Hp} {Q : List V → Hp → Prop} (h : Q [] H) : tNil σ H Q := h
theorem gnE {i : Nat} {v v' : V} {σ : St} {H : Hp} {Q : St → Hp → Prop} (e : v = v') (h : gName i v' σ H Q) : gName i v σ H Q := e ▸ h
/-- pairs stay where a list is left out -/
theorem pairs_del {H : Hp} {D : Addr} {ys xs : List V} {ps : List Pr} (h : H D = some (.lst ys)) (hp : PairsAt H xs ps) : PairsAt (del H D) xs ps := paired_mono (fun {v p} ⟨t, e, ht⟩ => ⟨t, e, by rw [del_ne (ne_of ht h (by intro z; cases z))]; exact ht⟩) hp
/-- a pairing stays where a list is changed -/
theorem PairingAt.stab {n : Int} {H : Hp} {D : Addr} {ys zs : List V} {v : V} {ps : List Pr} (h : H D = some (.lst ys)) (hp : PairingAt H v n ps) : PairingAt (upd H D (.lst zs)) v n ps := by
  obtain ⟨p, q, xs, rfl, h1, h2, h3⟩ := hp
  exact ⟨p, q, xs, rfl, by rw [upd_ne (ne_of h1 h (by intro z; cases z))]; exact h1, by rw [upd_ne (ne_of h2 h (by intro z; cases z))]; exact h2, upd_pairs h h3⟩
end Pg
namespace Pg
open PySem L2
/-! ### data that may be compared -/
/-- of a depth of d at most -/
def Shp (d : Nat) (x : PyData) : Prop := x.canLay0 = true ∧ x.depth ≤ d
theorem Shp.mono {d e : Nat} {x : PyData} (h : Shp d x) (l : d ≤ e) : Shp e x := ⟨h.1, Nat.le_trans h.2 l⟩
theorem Shp.shaped {d : Nat} {x : PyData} (h : Shp d x) (l : d ≤ 64 := by decide) : SeqAt.shaped x = true := by
  show (x.canLay0 && decide (x.depth ≤ 64)) = true
  rw [Bool.and_eq_true]
  exact ⟨h.1, decide_eq_true (Nat.le_trans h.2 l)⟩
theorem Shp.refl {d : Nat} {x : PyData} (h : Shp d x) : PyData.eqv x x = true := SeqAt.eqv_refl x h.1
theorem shp_all {d : Nat} : ∀ {xs : List PyData}, (∀ x ∈ xs, Shp d x) → PyData.canLayAll0 xs = true ∧ PyData.depthAll xs ≤ d
  | [], _ => ⟨by simp [PyData.canLayAll0], by simp [PyData.depthAll]⟩
  | x :: r, h => by
    obtain ⟨h1, h2⟩ := shp_all (xs := r) fun y m => h y (List.mem_cons_of_mem _ m)
    obtain ⟨h3, h4⟩ := h x List.mem_cons_self
    refine ⟨by simp [PyData.canLayAll0, h1, h3], ?_⟩
    simp only [PyData.depthAll]
    omega
theorem shp_lst {d : Nat} {xs : List PyData} (h : ∀ x ∈ xs, Shp d x) : Shp (d + 1) (.list xs) := by
  obtain ⟨h1, h2⟩ := shp_all h
  refine ⟨by simpa [PyData.canLay0] using h1, ?_⟩
  simp only [PyData.depth]
  omega
theorem shp_tup {d : Nat} {xs : List PyData} (h : ∀ x ∈ xs, Shp d x) : Shp (d + 1) (.tuple xs) := by
  obtain ⟨h1, h2⟩ := shp_all h
  refine ⟨by simpa [PyData.canLay0] using h1, ?_⟩
  simp only [PyData.depth]
  omega
theorem shp_int {d : Nat} (i : Int) : Shp d (.int i) := ⟨by simp [PyData.canLay0], by simp [PyData.depth]⟩
theorem shp_bool {d : Nat} (i : Bool) : Shp d (.bool i) := ⟨by simp [PyData.canLay0], by simp [PyData.depth]⟩
theorem shp_prD (p : Pr) : Shp 1 (prD p) := shp_tup fun x m => by
  rcases List.mem_cons.mp m with e | m
  · rw [e]
    exact shp_int _
  · rw [List.mem_singleton.mp m]
    exact shp_int _
theorem shp_prsD (ps : List Pr) : Shp 2 (prsD ps) := shp_tup fun x m => by
  obtain ⟨p, _, e⟩ := List.mem_map.mp m
  rw [← e]
  exact shp_prD p
theorem shp_pgD (n : Int) (ps : List Pr) : Shp 3 (pgD n ps) := shp_tup fun x m => by
  rcases List.mem_cons.mp m with e | m
  · rw [e]
    exact shp_int _
  · rw [List.mem_singleton.mp m]
    exact shp_prsD _
theorem prD_eqv (p q : Pr) : PyData.eqv (prD p) (prD q) = decide (p = q) := by
  obtain ⟨a, b⟩ := p
  obtain ⟨c, d⟩ := q
  show PyData.eqv (.tuple [.int a, .int b]) (.tuple [.int c, .int d]) = _
  simp only [PyData.eqv, PyData.eqvAll, Bool.and_true, Prod.mk.injEq]
  rw [Bool.eq_iff_iff]
  simp
theorem eqvAll_map {α : Type} [DecidableEq α] (f : α → PyData) (h : ∀ x y, PyData.eqv (f x) (f y) = decide (x = y)) : ∀ xs ys : List α, PyData.eqvAll (xs.map f) (ys.map f) = decide (xs = ys)
  | [], [] => by simp [PyData.eqvAll]
  | [], _ :: _ => by simp [PyData.eqvAll]
  | _ :: _, [] => by simp [PyData.eqvAll]
  | x :: xs, y :: ys => by
    simp only [List.map_cons, PyData.eqvAll, h x y, eqvAll_map f h xs ys, List.cons.injEq]
    rw [Bool.eq_iff_iff]
    simp
theorem prsD_eqv (ps qs : List Pr) : PyData.eqv (prsD ps) (prsD qs) = decide (ps = qs) := by
  unfold prsD
  simp only [PyData.eqv]
  exact eqvAll_map prD prD_eqv ps qs
theorem pgD_eqv (n m : Int) (ps qs : List Pr) : PyData.eqv (pgD n ps) (pgD m qs) = (decide (n = m) && decide (ps = qs)) := by
  unfold pgD
  simp only [PyData.eqv, PyData.eqvAll, prsD_eqv, Bool.and_true]
  rw [Bool.eq_iff_iff]
  simp
theorem pgs_dp {K : PySem.W.Frag} {H : Hp} {n : Int} : ∀ {xs : List V} {ls : List (List Stp)}, Paired (fun v b => PairingAt H v n (prs b)) xs ls → DpAll K H xs (ls.map fun b => pgD n (prs b))
  | _, _, .nil => .nil
  | _, _, .cons a b => .cons a.dp (pgs_dp b)
theorem shp_pgs (n : Int) (ls : List (List Stp)) : Shp 4 (.list (ls.map fun b => pgD n (prs b))) := shp_lst fun x m => by
  obtain ⟨b, _, e⟩ := List.mem_map.mp m
  rw [← e]
  exact shp_pgD _ _
theorem lsD_eqv (ps qs : List Pr) : PyData.eqv (.list (ps.map prD)) (.list (qs.map prD)) = decide (ps = qs) := by
  simp only [PyData.eqv]
  exact eqvAll_map prD prD_eqv ps qs
theorem shp_lsD (ps : List Pr) : Shp 2 (.list (ps.map prD)) := shp_lst fun x mx => by
  obtain ⟨p, _, ep⟩ := List.mem_map.mp mx
  rw [← ep]
  exact shp_prD p
/-- a walk's steps -/
def Stp.d : Stp → PyData
  | .lone => .str "lone"
  | .opn => .str "open"
  | .num k => .int (k : Int)
theorem stp_dp {K : PySem.W.Frag} {H : Hp} : ∀ st : Stp, Dp K H st.v st.d
  | .lone => .str _
  | .opn => .str _
  | .num _ => .int _
theorem stps_dp {K : PySem.W.Frag} {H : Hp} : ∀ ws : List Stp, DpAll K H (ws.map Stp.v) (ws.map Stp.d)
  | [] => .nil
  | st :: r => .cons (stp_dp st) (stps_dp r)
theorem shp_stp : ∀ st : Stp, Shp 0 st.d
  | .lone => ⟨by decide +kernel, by decide +kernel⟩
  | .opn => ⟨by decide +kernel, by decide +kernel⟩
  | .num k => shp_int _
theorem shp_stps (ws : List Stp) : Shp 1 (.list (ws.map Stp.d)) := shp_lst fun x m => by
  obtain ⟨st, _, e⟩ := List.mem_map.mp m
  rw [← e]
  exact shp_stp st
theorem scal_stp : ∀ a b : Stp, scal a.v b.v = true
  | .lone, .lone => rfl
  | .lone, .opn => rfl
  | .lone, .num _ => rfl
  | .opn, .lone => rfl
  | .opn, .opn => rfl
  | .opn, .num _ => rfl
  | .num _, .lone => rfl
  | .num _, .opn => rfl
  | .num _, .num _ => rfl
/-! ### lists of truth values -/
theorem bools_dp {K : PySem.W.Frag} {H : Hp} : ∀ bs : List Bool, DpAll K H (bs.map V.bl) (bs.map PyData.bool)
  | [] => .nil
  | b :: r => .cons (.bl b) (bools_dp r)
theorem shp_bools (bs : List Bool) : Shp 1 (.list (bs.map PyData.bool)) := shp_lst fun x m => by
  obtain ⟨b, _, e⟩ := List.mem_map.mp m
  rw [← e]
  exact shp_bool b
end Pg
/-! x not in a tuple of data; max of whole numbers with default= -/
namespace Pg
open PySem PySem.Spec PyProof.Rows L2
theorem Room.u65 {k : Nat} {A : Around} (r : Room k A) : A.units + 65 < cLine := by
  have := r.un
  omega
def rNinT (K : PySem.W.Frag) : R2 := fun x y H Q => ∃ (d : PyData) (ds : List PyData), Dp K H x d ∧ Dp K H y (.tuple ds) ∧ SeqAt.shaped d = true ∧ SeqAt.shaped (.tuple ds) = true ∧ Q (.bl (!ds.any fun z => PyData.eqv z d)) H
theorem ninTupD {X : Cx} (K : PySem.W.Frag) (hu : X.A.units + 65 < cLine) (e : X.K = K := by rfl) : OpR X (compareOp .NotIn) (rNinT K) := by
  subst e
  intro pins s σ H x y v u Q I rx ry ⟨d, ds, hd, he, sd, se, q⟩
  obtain ⟨_, r1⟩ := Dp.reads I d x v hd rx
  obtain ⟨_, r2⟩ := Dp.reads I (.tuple ds) y u he ry
  exact SeqAt.notIn_tuple_reads r2 r1 (SeqAt.canLay_of_shaped se) (SeqAt.canLay_of_shaped sd) (room_in_shaped sd hu)
    ⟨.bl _, H, I, rfl, q⟩
def rInLD (K : PySem.W.Frag) : R2 := rInD K
theorem inLD {X : Cx} (K : PySem.W.Frag) (hu : X.A.units + 65 < cLine) (e : X.K = K := by rfl) : OpR X (compareOp .In) (rInD K) := e ▸ op_inD hu
theorem ninLD {X : Cx} (K : PySem.W.Frag) (hu : X.A.units + 65 < cLine) (e : X.K = K := by rfl) : OpR X (compareOp .NotIn) (rNotInD K) := e ▸ op_notInD hu
theorem ints_dp {K : PySem.W.Frag} {H : Hp} : ∀ ns : List Int, DpAll K H (ns.map V.int) (ns.map PyData.int)
  | [] => .nil
  | n :: r => .cons (.int n) (ints_dp r)
theorem crMax {X : Cx} (K : PySem.W.Frag) (hc : X.calm = true := by rfl) (e : X.K = K := by rfl) : CallR X (.builtin "max") (rMax K) := e ▸ cr_max hc
def rMaxDf (K : PySem.W.Frag) : List V → List V → Hp → VK → Prop := fun vs zs H Q => ∃ (a : Addr) (ns : List Int) (d : Int), vs = [V.ref a] ∧ zs = [V.int d] ∧ SqL K H a (ns.map V.int) ∧
  (ns = [] → Q (.int d) H) ∧ ∀ m, m ∈ ns → (∀ x ∈ ns, x ≤ m) → Q (.int m) H
theorem ckw {r : List V → List V → Hp → VK → Prop} {t tk : TA} {σ : L2.St} {H : Hp} {Q : VK} (h : t σ H fun vs H1 => tk σ H1 fun zs H2 => r vs zs H2 Q) : tCKw r t tk σ H Q := h
theorem fold_max (n : Int) : ∀ (r : List Int), (r.foldl max n = n ∨ r.foldl max n ∈ r) ∧ n ≤ r.foldl max n ∧ ∀ x ∈ r, x ≤ r.foldl max n
  | [] => ⟨.inl rfl, Int.le_refl _, fun x m => absurd m List.not_mem_nil⟩
  | y :: r => by
    obtain ⟨h1, h2, h3⟩ := fold_max (max n y) r
    show (r.foldl max (max n y) = n ∨ r.foldl max (max n y) ∈ y :: r) ∧ n ≤ r.foldl max (max n y) ∧ ∀ x ∈ y :: r, x ≤ r.foldl max (max n y)
    generalize r.foldl max (max n y) = g at h1 h2 h3
    refine ⟨?_, by omega, fun x m => ?_⟩
    · rcases h1 with h1 | h1
      · by_cases c : y ≤ n
        · exact .inl (by omega)
        · exact .inr (by rw [show g = y by omega]; exact List.mem_cons_self)
      · exact .inr (List.mem_cons_of_mem _ h1)
    · rcases List.mem_cons.mp m with e | m
      · omega
      · exact h3 x m
theorem crMaxDf {X : Cx} (K : PySem.W.Frag) (hu : X.A.units + 64 < cLine) (hc : X.calm = true := by rfl) (e : X.K = K := by rfl) : CallRK X (.builtin "max") [Str.ofString "default"] (rMaxDf K) := by
  subst e
  intro pins s σ H vs zs us ws Q I r rz ⟨a, ns, d, hvs, hzs, hs, q0, q⟩
  subst hvs hzs
  obtain rfl := Vals.ref1 r
  obtain ⟨w1, rfl, t, rfl⟩ := vals1 rz
  obtain ⟨its, rv, hl, _⟩ := I.list hs
  obtain ⟨as, hr⟩ := Dp.readsAll I (ns.map .int) _ its (ints_dp ns) rv
  have hal : ∀ ns : List Int, PySem.W.AlikeAll (ns.map PyData.int) := fun ns => by
    refine ⟨fun x hx y hy => ?_, fun x hx => ?_⟩
    · obtain ⟨i, _, rfl⟩ := List.mem_map.mp hx
      obtain ⟨j, _, rfl⟩ := List.mem_map.mp hy
      simp only [PySem.W.alike]
    · obtain ⟨i, _, rfl⟩ := List.mem_map.mp hx
      intro z
      cases z
  refine PySem.W.max_list_default (I.ok.hd hc) hl.isList (xs := ns.map .int) (as := as) (by simpa using hr) (hal ns) ?_ (fun e h' tk hk => ?_) (fun y ys i v h' tk bs e hv rd hk => ?_)
  · have hd : ∀ ns : List Int, PyData.depthAll (ns.map PyData.int) = 0 := by
      intro ns
      induction ns with
      | nil => rfl
      | cons n r ih =>
        rw [List.map_cons]
        show max (PyData.depth (.int n)) (PyData.depthAll (r.map PyData.int)) = 0
        rw [ih]
        rfl
    rw [hd]
    omega
  · refine ⟨.int d, H, I.kept hk, ⟨t, rfl⟩, q0 ?_⟩
    exact List.map_eq_nil_iff.mp e
  · cases ns with
    | nil => cases e
    | cons n r =>
      rw [List.map_cons] at e
      obtain ⟨e1, e2⟩ := List.cons.inj e
      subst e1 e2
      rw [PySem.W.maxD_ints] at rd
      obtain ⟨h1, h2, h3⟩ := fold_max n r
      cases rd with
      | @int _ t' =>
        refine ⟨.int _, H, I.kept hk, ⟨t', rfl⟩, q _ ?_ fun x m => ?_⟩
        · rcases h1 with h1 | h1
          · rw [h1]
            exact List.mem_cons_self
          · exact List.mem_cons_of_mem _ h1
        · rcases List.mem_cons.mp m with e | m
          · rw [e]
            exact h2
          · exact h3 x m
theorem maxdf_of {K : PySem.W.Frag} {l : Addr} {ns : List Int} {H : Hp} {Q : VK} (P : Int → Prop) (hs : SqL K H l (ns.map V.int)) (h0 : ns = [] → P 0) (hm : ∀ m, m ∈ ns → (∀ x ∈ ns, x ≤ m) → P m) (q : ∀ m, P m → Q (.int m) H) : rMaxDf K [.ref l] [.int 0] H Q :=
  ⟨l, ns, 0, rfl, rfl, hs, fun e => q 0 (h0 e), fun m h g => q m (hm m h g)⟩
end Pg
namespace Pg
open PySem L2
/-! ### how deep each pair lies -/
abbrev Dep := Nat × Option Nat
abbrev pAt (ps : List Pr) (k : Nat) : Pr := ps.getD k (0, 0)
abbrev dAt (D : List Dep) (k : Nat) : Dep := D.getD k (0, none)
def bst (ps : List Pr) (D : List Dep) (p : Pr) : Nat → Dep
  | 0 => (1, none)
  | j + 1 => if nestB (pAt ps j) p = true ∧ (bst ps D p j).1 ≤ (dAt D j).1 then ((dAt D j).1 + 1, some j) else bst ps D p j
def dpt (ps : List Pr) : Nat → List Dep
  | 0 => []
  | k + 1 => dpt ps k ++ [bst ps (dpt ps k) (pAt ps k) k]
def dep (ps : List Pr) (k : Nat) : Dep := bst ps (dpt ps k) (pAt ps k) k
theorem dpt_len (ps : List Pr) : ∀ k, (dpt ps k).length = k
  | 0 => rfl
  | k + 1 => by
    show (dpt ps k ++ [_]).length = k + 1
    rw [List.length_append, dpt_len ps k]
    rfl
theorem dpt_at (ps : List Pr) : ∀ {m k : Nat}, k < m → (dpt ps m)[k]? = some (dep ps k)
  | 0, _, h => absurd h (Nat.not_lt_zero _)
  | m + 1, k, h => by
    show (dpt ps m ++ [dep ps m])[k]? = _
    by_cases c : k < m
    · rw [List.getElem?_append_left (by rw [dpt_len]; exact c), dpt_at ps c]
    · have e : k = m := by omega
      subst e
      rw [List.getElem?_append_right (by rw [dpt_len]; exact Nat.le_refl _), dpt_len, Nat.sub_self]
      rfl
theorem dpt_d (ps : List Pr) {m k : Nat} (h : k < m) : dAt (dpt ps m) k = dep ps k := by
  show (dpt ps m).getD k (0, none) = _
  rw [List.getD_eq_getElem?_getD, dpt_at ps h]
  rfl
theorem bst_spec (ps : List Pr) (p : Pr) {k : Nat} : ∀ {j : Nat}, j ≤ k → (1 ≤ (bst ps (dpt ps k) p j).1 ∧ (∀ i, i < j → nestB (pAt ps i) p = true → (dep ps i).1 + 1 ≤ (bst ps (dpt ps k) p j).1) ∧
    ((bst ps (dpt ps k) p j).2 = none → (bst ps (dpt ps k) p j).1 = 1) ∧ ∀ i, (bst ps (dpt ps k) p j).2 = some i → i < j ∧ nestB (pAt ps i) p = true ∧ (bst ps (dpt ps k) p j).1 = (dep ps i).1 + 1)
  | 0, _ => ⟨Nat.le_refl _, fun i h => absurd h (Nat.not_lt_zero _), fun _ => rfl, fun i h => nomatch h⟩
  | j + 1, h => by
    obtain ⟨h1, h2, h3, h4⟩ := bst_spec ps p (k := k) (j := j) (by omega)
    have ed := dpt_d ps (m := k) (k := j) (by omega)
    have eb : bst ps (dpt ps k) p (j + 1) = if nestB (pAt ps j) p = true ∧ (bst ps (dpt ps k) p j).1 ≤ (dAt (dpt ps k) j).1 then ((dAt (dpt ps k) j).1 + 1, some j) else bst ps (dpt ps k) p j := rfl
    rw [ed] at eb
    rw [eb]
    by_cases c : nestB (pAt ps j) p = true ∧ (bst ps (dpt ps k) p j).1 ≤ (dep ps j).1
    · rw [if_pos c]
      refine ⟨by show 1 ≤ (dep ps j).1 + 1; omega, fun i hi hn => ?_, (fun z => absurd z (by intro q; cases q)), fun i hi => ?_⟩
      · show (dep ps i).1 + 1 ≤ (dep ps j).1 + 1
        by_cases e : i = j
        · rw [e]
          exact Nat.le_refl _
        · have := h2 i (by omega) hn
          omega
      · have e : i = j := (Option.some.inj hi).symm
        subst e
        exact ⟨Nat.lt_succ_self _, c.1, rfl⟩
    · rw [if_neg c]
      refine ⟨h1, fun i hi hn => ?_, h3, fun i hi => ?_⟩
      · by_cases e : i = j
        · subst e
          have : ¬ (bst ps (dpt ps k) p i).1 ≤ (dep ps i).1 := fun z => c ⟨hn, z⟩
          omega
        · exact h2 i (by omega) hn
      · obtain ⟨q1, q2, q3⟩ := h4 i hi
        exact ⟨by omega, q2, q3⟩
theorem dep_pos (ps : List Pr) (k : Nat) : 1 ≤ (dep ps k).1 := (bst_spec ps (pAt ps k) (Nat.le_refl k)).1
theorem dep_nest (ps : List Pr) {i k : Nat} (h : i < k) (hn : nestB (pAt ps i) (pAt ps k) = true) : (dep ps i).1 < (dep ps k).1 := (bst_spec ps (pAt ps k) (Nat.le_refl k)).2.1 i h hn
theorem dep_none (ps : List Pr) {k : Nat} (h : (dep ps k).2 = none) : (dep ps k).1 = 1 := (bst_spec ps (pAt ps k) (Nat.le_refl k)).2.2.1 h
theorem dep_some (ps : List Pr) {k i : Nat} (h : (dep ps k).2 = some i) : i < k ∧ nestB (pAt ps i) (pAt ps k) = true ∧ (dep ps k).1 = (dep ps i).1 + 1 := (bst_spec ps (pAt ps k) (Nat.le_refl k)).2.2.2 i h
theorem dep_le (ps : List Pr) : ∀ k, (dep ps k).1 ≤ k + 1 := fun k => by
  induction k using Nat.strongRecOn with
  | ind k ih =>
    cases e : (dep ps k).2 with
    | none => rw [dep_none ps e]; omega
    | some i =>
      obtain ⟨h1, _, h3⟩ := dep_some ps e
      have := ih i h1
      omega
/-- each smaller depth is found, too -/
theorem dep_all (ps : List Pr) : ∀ (k d : Nat), 1 ≤ d → d ≤ (dep ps k).1 → ∃ i, i ≤ k ∧ (dep ps i).1 = d := fun k => by
  induction k using Nat.strongRecOn with
  | ind k ih =>
    intro d h1 h2
    by_cases c : d = (dep ps k).1
    · exact ⟨k, Nat.le_refl _, c.symm⟩
    · cases e : (dep ps k).2 with
      | none =>
        rw [dep_none ps e] at c h2
        omega
      | some i =>
        obtain ⟨q1, _, q3⟩ := dep_some ps e
        obtain ⟨i', hi', e'⟩ := ih i q1 d h1 (by omega)
        exact ⟨i', by omega, e'⟩
/-- the greatest depth -/
def depS (ps : List Pr) : List Int := (List.range ps.length).map fun k => ((dep ps k).1 : Int)
theorem mem_depS {ps : List Pr} {m : Int} : m ∈ depS ps ↔ ∃ k, k < ps.length ∧ ((dep ps k).1 : Int) = m := by
  unfold depS
  rw [List.mem_map]
  exact ⟨fun ⟨k, h, e⟩ => ⟨k, List.mem_range.mp h, e⟩, fun ⟨k, h, e⟩ => ⟨k, List.mem_range.mpr h, e⟩⟩
def Most (ps : List Pr) (m : Nat) : Prop := (ps = [] ∧ m = 0) ∨ ((∃ k, k < ps.length ∧ (dep ps k).1 = m) ∧ ∀ k, k < ps.length → (dep ps k).1 ≤ m)
theorem Most.uniq {ps : List Pr} {m n : Nat} (h : Most ps m) (h' : Most ps n) : m = n := by
  rcases h with ⟨e, h⟩ | ⟨⟨k, hk, h⟩, g⟩
  · subst e
    rcases h' with ⟨_, h'⟩ | ⟨⟨k, hk, _⟩, _⟩
    · omega
    · exact absurd hk (Nat.not_lt_zero _)
  · rcases h' with ⟨e, h'⟩ | ⟨⟨k', hk', h'⟩, g'⟩
    · subst e
      exact absurd hk (Nat.not_lt_zero _)
    · have := g k' hk'
      have := g' k hk
      omega
theorem most_of {ps : List Pr} {m : Int} (h : m ∈ depS ps) (g : ∀ x ∈ depS ps, x ≤ m) : ∃ n : Nat, m = (n : Int) ∧ Most ps n := by
  obtain ⟨k, hk, e⟩ := mem_depS.mp h
  refine ⟨(dep ps k).1, e.symm, .inr ⟨⟨k, hk, rfl⟩, fun i hi => ?_⟩⟩
  have := g _ (mem_depS.mpr ⟨i, hi, rfl⟩)
  omega
theorem first_at {m : Int} : ∀ {ns : List Int}, m ∈ ns → ∃ j : Nat, ns[j]? = some m ∧ ∀ i : Nat, i < j → ns[i]? ≠ some m
  | [], h => absurd h List.not_mem_nil
  | x :: r, h => by
    by_cases c : x = m
    · exact ⟨0, by rw [c]; rfl, fun i hi => absurd hi (Nat.not_lt_zero _)⟩
    · rcases List.mem_cons.mp h with e | h
      · exact absurd e.symm c
      · obtain ⟨j, h1, h2⟩ := first_at h
        refine ⟨j + 1, h1, fun i hi => ?_⟩
        cases i with
        | zero => exact fun z => c (Option.some.inj z)
        | succ i => exact h2 i (by omega)
/-! ### chains and layers -/
structure ChainOf (ps : List Pr) (ix : List Nat) : Prop where
  lt : ∀ i ∈ ix, i < ps.length
  nest : ∀ (m i j : Nat), ix[m]? = some i → ix[m + 1]? = some j → nestB (pAt ps i) (pAt ps j) = true
theorem ChainOf.nil (ps : List Pr) : ChainOf ps [] := ⟨fun i m => absurd m List.not_mem_nil, fun m i j h => by simp at h⟩
theorem ChainOf.cons {ps : List Pr} {ix : List Nat} {k : Nat} (h : ChainOf ps ix) (hk : k < ps.length) (hn : ∀ j, ix.head? = some j → nestB (pAt ps k) (pAt ps j) = true) : ChainOf ps (k :: ix) := by
  refine ⟨fun i m => ?_, fun m i j h1 h2 => ?_⟩
  · rcases List.mem_cons.mp m with e | m
    · rw [e]
      exact hk
    · exact h.lt i m
  · cases m with
    | zero =>
      have e : k = i := Option.some.inj h1
      subst e
      exact hn j (by rw [List.head?_eq_getElem?]; exact h2)
    | succ m => exact h.nest m i j h1 h2
def lay (ps : List Pr) (d : Nat) : List Nat := (List.range ps.length).filter fun k => decide ((dep ps k).1 = d)
def layP (ps : List Pr) (d : Nat) : List Pr := (lay ps d).map (pAt ps)
theorem mem_lay {ps : List Pr} {d k : Nat} : k ∈ lay ps d ↔ k < ps.length ∧ (dep ps k).1 = d := by
  unfold lay
  rw [List.mem_filter, List.mem_range, decide_eq_true_iff]
theorem pAt_get {ps : List Pr} {k : Nat} (h : k < ps.length) : ps[k]? = some (pAt ps k) := by
  show _ = some (ps.getD k (0, 0))
  rw [List.getD_eq_getElem?_getD, List.getElem?_eq_getElem h]
  rfl
theorem pAt_mem {ps : List Pr} {k : Nat} (h : k < ps.length) : pAt ps k ∈ ps := List.mem_of_getElem? (pAt_get h)
theorem lay_nonempty {ps : List Pr} {m d : Nat} (h : Most ps m) (h1 : 1 ≤ d) (h2 : d ≤ m) : lay ps d ≠ [] := by
  rcases h with ⟨_, h⟩ | ⟨⟨k, hk, h⟩, _⟩
  · omega
  · obtain ⟨i, hi, e⟩ := dep_all ps k d h1 (by omega)
    have hm : i ∈ lay ps d := mem_lay.mpr ⟨by omega, e⟩
    intro z
    rw [z] at hm
    cases hm
/-- no two of a layer nest -/
theorem lay_flat {ps : List Pr} (hs : ps.Pairwise fun p q => p.1 < q.1) {d i j : Nat} (hi : i ∈ lay ps d) (hj : j ∈ lay ps d) : nestB (pAt ps i) (pAt ps j) = false := by
  obtain ⟨hi1, hi2⟩ := mem_lay.mp hi
  obtain ⟨hj1, hj2⟩ := mem_lay.mp hj
  cases e : nestB (pAt ps i) (pAt ps j) with
  | false => rfl
  | true =>
    have hlt : (pAt ps i).1 < (pAt ps j).1 := by
      unfold nestB at e
      simp at e
      exact e.1
    have hij : i < j := by
      by_cases c : i < j
      · exact c
      · exfalso
        by_cases z : i = j
        · subst z
          omega
        · have q := List.pairwise_iff_getElem.mp hs j i hj1 hi1 (by omega)
          have ej : ps[j] = pAt ps j := Option.some.inj ((List.getElem?_eq_getElem hj1).symm.trans (pAt_get hj1))
          have ei : ps[i] = pAt ps i := Option.some.inj ((List.getElem?_eq_getElem hi1).symm.trans (pAt_get hi1))
          rw [ej, ei] at q
          omega
    have := dep_nest ps hij e
    omega
theorem parts_perm {α : Type} (f : α → Nat) (L : List α) : ∀ m, (((List.range m).flatMap fun i => L.filter fun x => decide (f x = i + 1))).Perm (L.filter fun x => decide (1 ≤ f x ∧ f x ≤ m))
  | 0 => by
    have e : (L.filter fun x => decide (1 ≤ f x ∧ f x ≤ 0)) = [] := List.filter_eq_nil_iff.mpr fun x _ z => by
      have := of_decide_eq_true z
      omega
    rw [e]
    exact List.Perm.refl _
  | m + 1 => by
    rw [List.range_succ, List.flatMap_append]
    have ih := parts_perm f L m
    have e : ([m].flatMap fun i => L.filter fun x => decide (f x = i + 1)) = L.filter fun x => decide (f x = m + 1) := by simp
    rw [e]
    have q := List.filter_append_perm (fun x => decide (f x ≤ m)) (L.filter fun x => decide (1 ≤ f x ∧ f x ≤ m + 1))
    rw [List.filter_filter, List.filter_filter] at q
    refine (ih.append_right _).trans (List.Perm.trans (List.Perm.of_eq ?_) q)
    congr 1
    · refine List.filter_congr fun x _ => ?_
      rw [Bool.eq_iff_iff]
      simp only [Bool.and_eq_true, decide_eq_true_iff]
      omega
    · refine List.filter_congr fun x _ => ?_
      rw [Bool.eq_iff_iff]
      simp only [Bool.and_eq_true, Bool.not_eq_true', decide_eq_true_iff, decide_eq_false_iff_not]
      omega
theorem range_pAt (ps : List Pr) : (List.range ps.length).map (pAt ps) = ps := by
  refine List.ext_getElem? fun i => ?_
  rw [List.getElem?_map]
  by_cases c : i < ps.length
  · rw [List.getElem?_range c, pAt_get c]
    rfl
  · rw [List.getElem?_eq_none (by rw [List.length_range]; omega), List.getElem?_eq_none (by omega)]
    rfl
theorem lays_perm {ps : List Pr} {m : Nat} (h : Most ps m) : (((List.range m).map fun i => layP ps (i + 1)).flatten).Perm ps := by
  have q := (parts_perm (fun k => (dep ps k).1) (List.range ps.length) m).map (pAt ps)
  have e1 : ((List.range m).map fun i => layP ps (i + 1)).flatten = ((List.range m).flatMap fun i => (List.range ps.length).filter fun x => decide ((dep ps x).1 = i + 1)).map (pAt ps) := by
    rw [List.map_flatMap, List.flatMap_def]
    rfl
  have e2 : ((List.range ps.length).filter fun x => decide (1 ≤ (dep ps x).1 ∧ (dep ps x).1 ≤ m)) = List.range ps.length := List.filter_eq_self.mpr fun x hx => by
    have hx := List.mem_range.mp hx
    refine decide_eq_true ⟨dep_pos ps x, ?_⟩
    rcases h with ⟨e, _⟩ | ⟨_, g⟩
    · subst e
      exact absurd hx (Nat.not_lt_zero _)
    · exact g x hx
  rw [e1]
  refine q.trans (List.Perm.of_eq ?_)
  rw [e2, range_pAt]
/-- what slot 3 holds, plus one; none: nought -/
def mu3 : L2.St → Nat
  | [_, _, _, some (V.int i), _, _] => i.toNat + 1
  | _ => 0
/-- a row as the comprehension makes it -/
def layF (ps : List Pr) (d : Nat) : V → Bool
  | .int i => decide ((dep ps i.toNat).1 = d)
  | _ => false
def layV (xs : List V) : V → V
  | .int i => xs.getD i.toNat .non
  | _ => .non
theorem lay_row (ps : List Pr) (xs : List V) (d n : Nat) : (((List.range n).map fun i : Nat => V.int (i : Int)).filter (layF ps d)).map (layV xs) = ((List.range n).filter fun k => decide ((dep ps k).1 = d)).map fun k => xs.getD k .non := by
  rw [List.filter_map, List.map_map]
  have e1 : (layF ps d ∘ fun i : Nat => V.int (i : Int)) = fun k => decide ((dep ps k).1 = d) := by
    funext k
    show decide ((dep ps ((k : Int)).toNat).1 = d) = _
    rw [show ((k : Int)).toNat = k by omega]
  have e2 : (layV xs ∘ fun i : Nat => V.int (i : Int)) = fun k => xs.getD k .non := by
    funext k
    show xs.getD ((k : Int)).toNat .non = _
    rw [show ((k : Int)).toNat = k by omega]
  rw [e1, e2]
theorem pairs_pick {H : Hp} {xs : List V} {ps : List Pr} (h : PairsAt H xs ps) : ∀ L : List Nat, (∀ k ∈ L, k < ps.length) → PairsAt H (L.map fun k => xs.getD k .non) (L.map (pAt ps))
  | [], _ => .nil
  | k :: L, g => by
    obtain ⟨v, hv, hp⟩ := paired_get h (pAt_get (g k List.mem_cons_self))
    refine .cons ?_ (pairs_pick h L fun i m => g i (List.mem_cons_of_mem _ m))
    show PairAt H (xs.getD k .non) (pAt ps k)
    rw [List.getD_eq_getElem?_getD, hv]
    exact hp
/-! ### in the heap -/
def depV : Option Nat → V
  | none => .non
  | some j => .int (j : Nat)
def DepAt (H : Hp) (v : V) (d : Dep) : Prop := ∃ t : Addr, v = .ref t ∧ H t = some (.tup [.int (d.1 : Nat), depV d.2])
theorem DepAt.mono {H H' : Hp} {v : V} {d : Dep} (e : Same H H') (h : DepAt H v d) : DepAt H' v d := by
  obtain ⟨t, rfl, h⟩ := h
  exact ⟨t, rfl, e _ _ h⟩
theorem DepAt.stab {H : Hp} {D : Addr} {ys zs : List V} {v : V} {d : Dep} (h : H D = some (.lst ys)) (hp : DepAt H v d) : DepAt (upd H D (.lst zs)) v d := by
  obtain ⟨t, rfl, ht⟩ := hp
  exact ⟨t, rfl, by rw [upd_ne (ne_of ht h (by intro z; cases z))]; exact ht⟩
/-- rows of pairs, each a list of its own -/
def RowsAt (H : Hp) (v : V) (ps : List Pr) : Prop := ∃ (l : Addr) (xs : List V), v = .ref l ∧ H l = some (.lst xs) ∧ PairsAt H xs ps
theorem RowsAt.mono {H H' : Hp} {v : V} {ps : List Pr} (e : Same H H') (h : RowsAt H v ps) : RowsAt H' v ps := by
  obtain ⟨l, xs, rfl, h1, h2⟩ := h
  exact ⟨l, xs, rfl, e _ _ h1, h2.mono e⟩
theorem pairs_any {ps : List Pr} {p : Pr} (h : p ∈ ps) : ((ps.map prD).any fun z => PyData.eqv z (prD p)) = true := by
  rw [List.any_map]
  exact List.any_eq_true.mpr ⟨p, h, by show PyData.eqv (prD p) (prD p) = true; rw [prD_eqv]; exact decide_eq_true rfl⟩
end Pg
namespace Pg
open PySem L2
/-! ### pairs that hang together -/
def adjB (p q : Pr) : Bool := (crossB p q && decide (p.1 < q.1)) || (crossB q p && decide (q.1 < p.1))
theorem adj_symm {p q : Pr} (h : adjB p q = true) : adjB q p = true := by
  unfold adjB at h ⊢
  rw [Bool.or_comm]
  exact h
theorem adj_cross {p q : Pr} (h : adjB p q = true) : crossL p q = true ∨ crossL q p = true := by
  unfold adjB crossB at h
  unfold crossL
  simp only [Bool.or_eq_true, Bool.and_eq_true, decide_eq_true_iff] at h ⊢
  omega
theorem cross_adj {p q : Pr} (h : crossL p q = true) : adjB p q = true := by
  unfold crossL at h
  unfold adjB crossB
  simp only [Bool.or_eq_true, Bool.and_eq_true, decide_eq_true_iff] at h ⊢
  omega
inductive Conn (ps : List Pr) (p : Pr) : Pr → Prop
  | refl : Conn ps p p
  | step {q r : Pr} : Conn ps p q → r ∈ ps → adjB q r = true → Conn ps p r
theorem Conn.trans {ps : List Pr} {p q r : Pr} (h : Conn ps p q) (h' : Conn ps q r) : Conn ps p r := by
  induction h' with
  | refl => exact h
  | step _ m a ih => exact .step ih m a
theorem Conn.front {ps : List Pr} {p q r : Pr} (hq : q ∈ ps) (a : adjB p q = true) (h : Conn ps q r) : Conn ps p r := Conn.trans (.step .refl hq a) h
theorem Conn.symm {ps : List Pr} {p q : Pr} (hp : p ∈ ps) (h : Conn ps p q) : Conn ps q p := by
  have mem : ∀ {r}, Conn ps p r → r ∈ ps := fun {r} h => by
    cases h with
    | refl => exact hp
    | step _ m _ => exact m
  induction h with
  | refl => exact .refl
  | step h1 m a ih => exact Conn.trans (.step .refl (mem h1) (adj_symm a)) ih
structure Tang (ps : List Pr) (P : List (List Pr)) : Prop where
  perm : P.flatten.Perm ps
  ne : ∀ r ∈ P, r ≠ []
  conn : ∀ r ∈ P, ∀ p ∈ r, ∀ q ∈ r, Conn ps p q
  clo : ∀ r ∈ P, ∀ p ∈ r, ∀ q ∈ ps, adjB p q = true → q ∈ r
theorem Tang.stay {ps : List Pr} {P : List (List Pr)} (h : Tang ps P) {r : List Pr} (hr : r ∈ P) {p q : Pr} (hp : p ∈ r) (c : Conn ps p q) : q ∈ r := by
  induction c with
  | refl => exact hp
  | step _ m a ih => exact h.clo r hr _ ih _ m a
theorem nodup_flat : ∀ {P : List (List Pr)}, P.flatten.Nodup → (∀ r ∈ P, r.Nodup) ∧ ∀ r ∈ P, ∀ s ∈ P, ∀ p, p ∈ r → p ∈ s → r = s
  | [], _ => ⟨fun r m => absurd m List.not_mem_nil, fun r m => absurd m List.not_mem_nil⟩
  | r :: P, h => by
    rw [List.flatten_cons] at h
    obtain ⟨h1, h2, h3⟩ := List.nodup_append.mp h
    obtain ⟨i1, i2⟩ := nodup_flat h2
    have far : ∀ s ∈ P, ∀ p, p ∈ r → p ∈ s → False := fun s hs p hp hq => h3 p hp p (List.mem_flatten.mpr ⟨s, hs, hq⟩) rfl
    refine ⟨fun s hs => ?_, fun s hs t ht p hp hq => ?_⟩
    · rcases List.mem_cons.mp hs with e | hs
      · rw [e]
        exact h1
      · exact i1 s hs
    · rcases List.mem_cons.mp hs with e | hs
      · rcases List.mem_cons.mp ht with e' | ht
        · rw [e, e']
        · exact absurd (far t ht p (e ▸ hp) hq) id
      · rcases List.mem_cons.mp ht with e' | ht
        · exact absurd (far s hs p (e' ▸ hq) hp) id
        · exact i2 s hs t ht p hp hq
theorem rows_nodup : ∀ {P : List (List Pr)}, P.flatten.Nodup → (∀ r ∈ P, r ≠ []) → (P.map sortP).Nodup
  | [], _, _ => List.Pairwise.nil
  | r :: P, h, ne => by
    rw [List.flatten_cons] at h
    obtain ⟨h1, h2, h3⟩ := List.nodup_append.mp h
    rw [List.map_cons]
    refine List.nodup_cons.mpr ⟨fun m => ?_, rows_nodup h2 fun s hs => ne s (List.mem_cons_of_mem _ hs)⟩
    obtain ⟨s, hs, e⟩ := List.mem_map.mp m
    obtain ⟨p, hp⟩ := List.exists_mem_of_ne_nil _ (ne r List.mem_cons_self)
    have hps : p ∈ s := (sortP_perm s).mem_iff.mp (e ▸ (sortP_perm r).mem_iff.mpr hp)
    exact h3 p hp p (List.mem_flatten.mpr ⟨s, hs, hps⟩) rfl
theorem tang_sub {ps : List Pr} (nd : ps.Nodup) {P P' : List (List Pr)} (h : Tang ps P) (h' : Tang ps P') {r : List Pr} (hr : r ∈ P.map sortP) : r ∈ P'.map sortP := by
  obtain ⟨s, hs, e⟩ := List.mem_map.mp hr
  obtain ⟨p, hp⟩ := List.exists_mem_of_ne_nil _ (h.ne s hs)
  have hpp : p ∈ ps := h.perm.mem_iff.mp (List.mem_flatten.mpr ⟨s, hs, hp⟩)
  obtain ⟨t, ht, hpt⟩ := List.mem_flatten.mp (h'.perm.mem_iff.mpr hpp)
  have nd1 := (nodup_flat (h.perm.nodup_iff.mpr nd)).1 s hs
  have nd2 := (nodup_flat (h'.perm.nodup_iff.mpr nd)).1 t ht
  have pm : s.Perm t := (List.perm_ext_iff_of_nodup nd1 nd2).mpr fun q => ⟨fun m => h'.stay ht hpt (h.conn s hs p hp q m), fun m => h.stay hs hp (h'.conn t ht p hpt q m)⟩
  exact List.mem_map.mpr ⟨t, ht, by rw [← e]; exact (sortP_congr pm).symm⟩
theorem tang_uniq {ps : List Pr} (nd : ps.Nodup) {P P' : List (List Pr)} (h : Tang ps P) (h' : Tang ps P') : (P.map sortP).Perm (P'.map sortP) :=
  (List.perm_ext_iff_of_nodup (rows_nodup (h.perm.nodup_iff.mpr nd) h.ne) (rows_nodup (h'.perm.nodup_iff.mpr nd) h'.ne)).mpr fun _ => ⟨tang_sub nd h h', tang_sub nd h' h⟩
theorem ris_nodup {ps : List Pr} (h : Ris ps) : ps.Nodup := h.imp fun {a b} q e => by rw [e] at q; omega
/-! ### the program's way: rows made one by one -/
def hd (r : List Pr) : Int := (r.headD (0, 0)).1
structure TInv (ps : List Pr) (F : List (List Pr)) (left : List Pr) : Prop where
  perm : (F.flatten ++ left).Perm ps
  ne : ∀ r ∈ F, r ≠ []
  conn : ∀ r ∈ F, ∀ p ∈ r, ∀ q ∈ r, Conn ps p q
  clo : ∀ r ∈ F, ∀ p ∈ r, ∀ q ∈ ps, adjB p q = true → q ∈ r
  srt : ∀ r ∈ F, SrP r
  asc : F.Pairwise fun r s => hd r < hd s
  low : ∀ r ∈ F, ∀ q ∈ left, hd r < q.1
  ris : Ris left
theorem TInv.start {ps : List Pr} (h : Ris ps) : TInv ps [] ps :=
  ⟨List.Perm.refl _, fun r m => absurd m List.not_mem_nil, fun r m => absurd m List.not_mem_nil, fun r m => absurd m List.not_mem_nil, fun r m => absurd m List.not_mem_nil, List.Pairwise.nil, fun r m => absurd m List.not_mem_nil, h⟩
theorem TInv.tang {ps : List Pr} {F : List (List Pr)} (h : TInv ps F []) : Tang ps F := ⟨by simpa using h.perm, h.ne, h.conn, h.clo⟩
structure NInv (ps : List Pr) (t0 : Pr) (rest tl lf : List Pr) (at' : Nat) : Prop where
  perm : (tl ++ lf).Perm (t0 :: rest)
  head : tl.head? = some t0
  conn : ∀ q ∈ tl, Conn ps t0 q
  done : ∀ (k : Nat) (p : Pr), k < at' → tl[k]? = some p → ∀ q ∈ lf, adjB p q = false
  ris : Ris lf
theorem NInv.start {ps : List Pr} {t0 : Pr} {rest : List Pr} (h : Ris (t0 :: rest)) : NInv ps t0 rest [t0] rest 0 :=
  ⟨List.Perm.refl _, rfl, fun q m => by rw [List.mem_singleton.mp m]; exact .refl, fun k p h => absurd h (Nat.not_lt_zero _), (List.pairwise_cons.mp h).2⟩
theorem NInv.step {ps : List Pr} {t0 : Pr} {rest tl lf : List Pr} {at' : Nat} {p : Pr} (h : NInv ps t0 rest tl lf at') (sub : ∀ q ∈ t0 :: rest, q ∈ ps) (hp : tl[at']? = some p) :
    NInv ps t0 rest (tl ++ lf.filter (adjB p)) (lf.filter fun q => !adjB p q) (at' + 1) := by
  have hpt := List.mem_of_getElem? hp
  have hlt := (List.getElem?_eq_some_iff.mp hp).1
  refine ⟨?_, ?_, fun q m => ?_, fun k q hk hq x hx => ?_, h.ris.sublist List.filter_sublist⟩
  · rw [List.append_assoc]
    exact ((List.filter_append_perm (adjB p) lf).append_left tl).trans h.perm
  · cases tl with
    | nil => exact absurd hlt (Nat.not_lt_zero _)
    | cons a b => exact h.head
  · rcases List.mem_append.mp m with m | m
    · exact h.conn q m
    · obtain ⟨m1, m2⟩ := List.mem_filter.mp m
      exact .step (h.conn p hpt) (sub q (h.perm.mem_iff.mp (List.mem_append.mpr (.inr m1)))) m2
  · obtain ⟨hx1, hx2⟩ := List.mem_filter.mp hx
    by_cases e : k = at'
    · subst e
      rw [List.getElem?_append_left hlt, hp] at hq
      rw [← Option.some.inj hq]
      simpa using hx2
    · rw [List.getElem?_append_left (by omega)] at hq
      exact h.done k q (by omega) hq x hx1
theorem head_min {t0 : Pr} {tl : List Pr} (h0 : t0 ∈ tl) (h : ∀ q ∈ tl, q = t0 ∨ t0.1 < q.1) : hd (sortP tl) = t0.1 := by
  have hs := sortP_sorted tl
  have hm : t0 ∈ sortP tl := (sortP_perm tl).mem_iff.mpr h0
  cases e : sortP tl with
  | nil =>
    rw [e] at hm
    cases hm
  | cons x r =>
    rw [e] at hm hs
    show x.1 = t0.1
    have hx : x ∈ tl := (sortP_perm tl).mem_iff.mp (by rw [e]; exact List.mem_cons_self)
    rcases h x hx with z | z
    · rw [z]
    · rcases List.mem_cons.mp hm with q | q
      · rw [q]
      · have := SrtO.lexB_no.mp ((List.pairwise_cons.mp hs).1 t0 q)
        omega
theorem NInv.finish {ps : List Pr} {F : List (List Pr)} {t0 : Pr} {rest tl lf : List Pr} {at' : Nat} (nd : ps.Nodup) (T : TInv ps F (t0 :: rest)) (h : NInv ps t0 rest tl lf at') (he : tl.length ≤ at') : TInv ps (F ++ [sortP tl]) lf := by
  have sub : ∀ q ∈ t0 :: rest, q ∈ ps := fun q m => T.perm.mem_iff.mp (List.mem_append.mpr (.inr m))
  have ht0 : t0 ∈ tl := List.mem_of_mem_head? (by rw [h.head]; exact rfl)
  have ht0p : t0 ∈ ps := sub t0 List.mem_cons_self
  have tlp : ∀ q ∈ tl, q ∈ t0 :: rest := fun q m => h.perm.mem_iff.mp (List.mem_append.mpr (.inl m))
  have lfp : ∀ q ∈ lf, q ∈ t0 :: rest := fun q m => h.perm.mem_iff.mp (List.mem_append.mpr (.inr m))
  have hris := List.pairwise_cons.mp T.ris
  have low0 : ∀ q ∈ t0 :: rest, q = t0 ∨ t0.1 < q.1 := fun q m => by
    rcases List.mem_cons.mp m with e | m
    · exact .inl e
    · exact .inr (hris.1 q m)
  have ndAll : (F.flatten ++ (t0 :: rest)).Nodup := T.perm.nodup_iff.mpr nd
  have ndL : (t0 :: rest).Nodup := (List.nodup_append.mp ndAll).2.1
  have far := (List.nodup_append.mp ndAll).2.2
  have ndTL : (tl ++ lf).Nodup := h.perm.nodup_iff.mpr ndL
  have ehd : hd (sortP tl) = t0.1 := head_min ht0 fun q m => low0 q (tlp q m)
  refine ⟨?_, fun r m => ?_, fun r m => ?_, fun r m => ?_, fun r m => ?_, ?_, fun r m q hq => ?_, h.ris⟩
  · rw [List.flatten_append, show ([sortP tl] : List (List Pr)).flatten = sortP tl by simp, List.append_assoc]
    exact ((((sortP_perm tl).append_right lf).trans h.perm).append_left F.flatten).trans T.perm
  · rcases List.mem_append.mp m with m | m
    · exact T.ne r m
    · rw [List.mem_singleton.mp m]
      intro z
      have := (sortP_perm tl).mem_iff.mpr ht0
      rw [z] at this
      cases this
  · rcases List.mem_append.mp m with m | m
    · exact T.conn r m
    · rw [List.mem_singleton.mp m]
      intro p hp q hq
      have hp := (sortP_perm tl).mem_iff.mp hp
      have hq := (sortP_perm tl).mem_iff.mp hq
      exact Conn.trans (Conn.symm ht0p (h.conn p hp)) (h.conn q hq)
  · rcases List.mem_append.mp m with m | m
    · exact T.clo r m
    · rw [List.mem_singleton.mp m]
      intro p hp q hq a
      have hp := (sortP_perm tl).mem_iff.mp hp
      refine (sortP_perm tl).mem_iff.mpr ?_
      rcases List.mem_append.mp (T.perm.mem_iff.mpr hq) with z | z
      · exfalso
        obtain ⟨s, hs, hqs⟩ := List.mem_flatten.mp z
        have := T.clo s hs q hqs p (sub p (tlp p hp)) (adj_symm a)
        exact far p (List.mem_flatten.mpr ⟨s, hs, this⟩) p (tlp p hp) rfl
      · rcases List.mem_append.mp (h.perm.mem_iff.mpr z) with z | z
        · exact z
        · exfalso
          obtain ⟨k, hk⟩ := List.getElem?_of_mem hp
          have hkl := (List.getElem?_eq_some_iff.mp hk).1
          have := h.done k p (by omega) hk q z
          rw [a] at this
          cases this
  · rcases List.mem_append.mp m with m | m
    · exact T.srt r m
    · rw [List.mem_singleton.mp m]
      exact sortP_sorted tl
  · refine List.pairwise_append.mpr ⟨T.asc, List.pairwise_singleton _ _, fun r hr s hs => ?_⟩
    rw [List.mem_singleton.mp hs, ehd]
    exact T.low r hr t0 List.mem_cons_self
  · rcases List.mem_append.mp m with m | m
    · exact T.low r m q (lfp q hq)
    · rw [List.mem_singleton.mp m, ehd]
      rcases low0 q (lfp q hq) with e | e
      · exfalso
        exact (List.nodup_append.mp ndTL).2.2 t0 ht0 q hq e.symm
      · exact e
/-! ### the law's way: rows joined -/
def Tog (rows : List (List Pr)) (p q : Pr) : Prop := ∃ r ∈ rows, p ∈ r ∧ q ∈ r
structure LInv (ps : List Pr) (rows : List (List Pr)) : Prop where
  perm : rows.flatten.Perm ps
  ne : ∀ r ∈ rows, r ≠ []
  conn : ∀ r ∈ rows, ∀ p ∈ r, ∀ q ∈ r, Conn ps p q
theorem single_flat : ∀ ps : List Pr, (ps.map fun p => [p]).flatten = ps
  | [] => rfl
  | p :: r => by
    rw [List.map_cons, List.flatten_cons, single_flat r]
    rfl
theorem LInv.start (ps : List Pr) : LInv ps (ps.map fun p => [p]) := by
  refine ⟨by rw [single_flat], fun r m => ?_, fun r m p hp q hq => ?_⟩
  · obtain ⟨p, _, e⟩ := List.mem_map.mp m
    rw [← e]
    intro z
    cases z
  · obtain ⟨x, _, e⟩ := List.mem_map.mp m
    rw [← e] at hp hq
    rw [List.mem_singleton.mp hp, List.mem_singleton.mp hq]
    exact .refl
def others (rows : List (List Pr)) (a b : Nat) : List (List Pr) := ((List.range rows.length).filter fun k => decide (k ≠ a) && decide (k ≠ b)).map fun k => rows.getD k []
def joined (rows : List (List Pr)) (a b : Nat) : List (List Pr) := others rows a b ++ [rows.getD a [] ++ rows.getD b []]
theorem getD_at {rows : List (List Pr)} {k : Nat} (h : k < rows.length) : rows[k]? = some (rows.getD k []) := by
  rw [List.getD_eq_getElem?_getD, List.getElem?_eq_getElem h]
  rfl
theorem getD_in {rows : List (List Pr)} {k : Nat} (h : k < rows.length) : rows.getD k [] ∈ rows := List.mem_of_getElem? (getD_at h)
theorem range_getD (rows : List (List Pr)) : (List.range rows.length).map (fun k => rows.getD k []) = rows := by
  refine List.ext_getElem? fun i => ?_
  rw [List.getElem?_map]
  by_cases c : i < rows.length
  · rw [List.getElem?_range c, getD_at c]
    rfl
  · rw [List.getElem?_eq_none (by rw [List.length_range]; omega), List.getElem?_eq_none (by omega)]
    rfl
theorem joined_perm {rows : List (List Pr)} {a b : Nat} (ha : a < rows.length) (hb : b < rows.length) (ne : a ≠ b) : (joined rows a b).flatten.Perm rows.flatten := by
  have h1 : ((List.range rows.length).filter fun k => !(decide (k ≠ a) && decide (k ≠ b))).Perm [a, b] := by
    refine (List.perm_ext_iff_of_nodup (List.nodup_range.filter _) (by simp [ne])).mpr fun k => ?_
    rw [List.mem_filter, List.mem_range]
    simp only [List.mem_cons, List.not_mem_nil, or_false, Bool.not_eq_true', Bool.and_eq_false_iff, decide_eq_false_iff_not, ne_eq, Decidable.not_not]
    omega
  have h2 := (List.filter_append_perm (fun k => decide (k ≠ a) && decide (k ≠ b)) (List.range rows.length)).map fun k => rows.getD k []
  rw [List.map_append, range_getD] at h2
  have h3 := ((h1.map fun k => rows.getD k []).append_left (others rows a b)).symm.trans h2
  refine List.Perm.trans (List.Perm.of_eq ?_) h3.flatten
  unfold joined
  rw [List.flatten_append, List.flatten_append]
  simp
theorem mem_joined {rows : List (List Pr)} {a b : Nat} {r : List Pr} (m : r ∈ joined rows a b) : r ∈ rows ∨ r = rows.getD a [] ++ rows.getD b [] := by
  unfold joined at m
  rcases List.mem_append.mp m with m | m
  · obtain ⟨k, hk, e⟩ := List.mem_map.mp m
    rw [← e]
    exact .inl (getD_in (List.mem_range.mp (List.mem_filter.mp hk).1))
  · exact .inr (List.mem_singleton.mp m)
theorem joined_tog {rows : List (List Pr)} {a b : Nat} {p q : Pr} (h : Tog rows p q) : Tog (joined rows a b) p q := by
  obtain ⟨r, hr, hp, hq⟩ := h
  obtain ⟨k, hk⟩ := List.getElem?_of_mem hr
  have hkl := (List.getElem?_eq_some_iff.mp hk).1
  have er : r = rows.getD k [] := by
    rw [getD_at hkl] at hk
    exact (Option.some.inj hk).symm
  by_cases ea : k = a
  · subst ea
    exact ⟨_, List.mem_append.mpr (.inr (List.mem_singleton.mpr rfl)), List.mem_append.mpr (.inl (er ▸ hp)), List.mem_append.mpr (.inl (er ▸ hq))⟩
  · by_cases eb : k = b
    · subst eb
      exact ⟨_, List.mem_append.mpr (.inr (List.mem_singleton.mpr rfl)), List.mem_append.mpr (.inr (er ▸ hp)), List.mem_append.mpr (.inr (er ▸ hq))⟩
    · refine ⟨r, List.mem_append.mpr (.inl (List.mem_map.mpr ⟨k, List.mem_filter.mpr ⟨List.mem_range.mpr hkl, ?_⟩, er.symm⟩)), hp, hq⟩
      rw [decide_eq_true ea, decide_eq_true eb]
      rfl
theorem LInv.join {ps : List Pr} {rows : List (List Pr)} {a b : Nat} {p q : Pr} (h : LInv ps rows) (ha : a < rows.length) (hb : b < rows.length) (ne : a ≠ b) (hp : p ∈ rows.getD a []) (hq : q ∈ rows.getD b []) (x : adjB p q = true) :
    LInv ps (joined rows a b) ∧ Tog (joined rows a b) p q := by
  have mem : ∀ r ∈ rows, ∀ x ∈ r, x ∈ ps := fun r hr x hx => h.perm.mem_iff.mp (List.mem_flatten.mpr ⟨r, hr, hx⟩)
  have hpp := mem _ (getD_in ha) p hp
  have hqp := mem _ (getD_in hb) q hq
  have cpq : Conn ps p q := .step .refl hqp x
  refine ⟨⟨(joined_perm ha hb ne).trans h.perm, fun r m => ?_, fun r m y hy z hz => ?_⟩, ?_⟩
  · rcases mem_joined m with m | e
    · exact h.ne r m
    · rw [e]
      intro z
      have := List.mem_append.mpr (.inl hp : p ∈ rows.getD a [] ∨ p ∈ rows.getD b [])
      rw [z] at this
      cases this
  · rcases mem_joined m with m | e
    · exact h.conn r m y hy z hz
    · rw [e] at hy hz
      have ca := h.conn _ (getD_in ha)
      have cb := h.conn _ (getD_in hb)
      have cqp : Conn ps q p := Conn.symm hpp cpq
      rcases List.mem_append.mp hy with hy | hy <;> rcases List.mem_append.mp hz with hz | hz
      · exact ca y hy z hz
      · exact ((ca y hy p hp).trans cpq).trans (cb q hq z hz)
      · exact ((cb y hy q hq).trans cqp).trans (ca p hp z hz)
      · exact cb y hy z hz
  · exact ⟨_, List.mem_append.mpr (.inr (List.mem_singleton.mpr rfl)), List.mem_append.mpr (.inl hp), List.mem_append.mpr (.inr hq)⟩
theorem LInv.tang {ps : List Pr} {rows : List (List Pr)} (nd : ps.Nodup) (h : LInv ps rows) (all : ∀ p ∈ ps, ∀ q ∈ ps, crossL p q = true → Tog rows p q) : Tang ps rows := by
  refine ⟨h.perm, h.ne, h.conn, fun r hr p hp q hq a => ?_⟩
  have hpp : p ∈ ps := h.perm.mem_iff.mp (List.mem_flatten.mpr ⟨r, hr, hp⟩)
  have one := (nodup_flat (h.perm.nodup_iff.mpr nd)).2
  rcases adj_cross a with c | c
  · obtain ⟨s, hs, h1, h2⟩ := all p hpp q hq c
    rw [one r hr s hs p hp h1]
    exact h2
  · obtain ⟨s, hs, h1, h2⟩ := all q hq p hpp c
    rw [one r hr s hs p hp h2]
    exact h1
/-- the row that a pair stands in -/
theorem row_ix {ps : List Pr} {rows : List (List Pr)} (nd : ps.Nodup) (h : LInv ps rows) {p : Pr} (hp : p ∈ ps) : ∃ a, a < rows.length ∧ p ∈ rows.getD a [] ∧ ((List.range rows.length).filter fun k => decide (p ∈ rows.getD k [])) = [a] := by
  obtain ⟨r, hr, hpr⟩ := List.mem_flatten.mp (h.perm.mem_iff.mpr hp)
  obtain ⟨a, ha⟩ := List.getElem?_of_mem hr
  have hal := (List.getElem?_eq_some_iff.mp ha).1
  have er : r = rows.getD a [] := by
    rw [getD_at hal] at ha
    exact (Option.some.inj ha).symm
  refine ⟨a, hal, er ▸ hpr, ?_⟩
  have ndf := h.perm.nodup_iff.mpr nd
  have ndr := rows_nodup ndf h.ne
  have one : ∀ k, k < rows.length → p ∈ rows.getD k [] → k = a := fun k hk hpk => by
    have e := (nodup_flat ndf).2 _ (getD_in hk) _ (getD_in hal) p hpk (er ▸ hpr)
    have e1 : (rows.map sortP)[k]? = some (sortP (rows.getD k [])) := by rw [List.getElem?_map, getD_at hk]; rfl
    have e2 : (rows.map sortP)[a]? = some (sortP (rows.getD k [])) := by rw [List.getElem?_map, getD_at hal, e]; rfl
    exact nd_ix ndr e1 e2
  have pm : ((List.range rows.length).filter fun k => decide (p ∈ rows.getD k [])).Perm [a] := by
    refine (List.perm_ext_iff_of_nodup (List.nodup_range.filter _) (List.pairwise_singleton _ _)).mpr fun k => ?_
    rw [List.mem_filter, List.mem_range, decide_eq_true_iff, List.mem_singleton]
    exact ⟨fun z => one k z.1 z.2, fun z => by rw [z]; exact ⟨hal, er ▸ hpr⟩⟩
  exact List.perm_singleton.mp pm
/-! ### rows in order -/
def encR (r : List Pr) : PyData := .list (r.map prD)
theorem alike_prs : ∀ r s : List Pr, PySem.W.alikeAll (r.map prD) (s.map prD) = true
  | [], _ => by simp [PySem.W.alikeAll]
  | _ :: _, [] => by simp [PySem.W.alikeAll]
  | p :: r, q :: s => by
    have h : PySem.W.alike (prD p) (prD q) = true := by simp [prD, PySem.W.alike, PySem.W.alikeAll]
    rw [List.map_cons, List.map_cons, PySem.W.alikeAll, h, alike_prs r s]
    rfl
theorem alike_rows (r s : List Pr) : PySem.W.alike (encR r) (encR s) = true := by
  unfold encR
  rw [PySem.W.alike]
  exact alike_prs r s
theorem lt_rows {p q : Pr} (r s : List Pr) (h : p.1 < q.1) : PySem.W.dataLt (encR (p :: r)) (encR (q :: s)) = true ∧ PySem.W.dataLt (encR (q :: s)) (encR (p :: r)) = false := by
  have al : ∀ p q : Pr, PySem.W.alike (prD p) (prD q) = true := fun p q => by simp [prD, PySem.W.alike, PySem.W.alikeAll]
  have lt : ∀ p q : Pr, PySem.W.dataLt (prD p) (prD q) = decide (p.1 < q.1 ∨ (p.1 = q.1 ∧ p.2 < q.2)) := fun p q => PySem.W.dataLt_ii p.1 p.2 q.1 q.2
  have one : ∀ (p q : Pr) (r s : List Pr), p ≠ q → PySem.W.dataLt (encR (p :: r)) (encR (q :: s)) = PySem.W.dataLt (prD p) (prD q) := fun p q r s ne => by
    unfold encR
    rw [PySem.W.dataLt_list, List.map_cons, List.map_cons, PySem.W.dataLt_cons (al p q), prD_eqv, decide_eq_false ne, if_neg Bool.false_ne_true]
  have ne : p ≠ q := fun e => by rw [e] at h; omega
  refine ⟨?_, ?_⟩
  · rw [one p q r s ne, lt]
    exact decide_eq_true (.inl h)
  · rw [one q p s r (Ne.symm ne), lt]
    exact decide_eq_false (by omega)
theorem rows_le {r s : List Pr} (hr : r ≠ []) (hs : s ≠ []) (h : hd r < hd s) : PySem.W.dataLe false encR r s = true ∧ PySem.W.dataLe false encR s r = false := by
  cases r with
  | nil => exact absurd rfl hr
  | cons p r =>
    cases s with
    | nil => exact absurd rfl hs
    | cons q s =>
      obtain ⟨h1, h2⟩ := lt_rows (p := p) (q := q) r s h
      refine ⟨?_, ?_⟩
      · show (!PySem.W.dataLt (encR (q :: s)) (encR (p :: r))) = true
        rw [h2]
        rfl
      · show (!PySem.W.dataLt (encR (p :: r)) (encR (q :: s))) = false
        rw [h1]
        rfl
theorem asc_case {F : List (List Pr)} (asc : F.Pairwise fun r s => hd r < hd s) {a b : List Pr} (ha : a ∈ F) (hb : b ∈ F) : a = b ∨ hd a < hd b ∨ hd b < hd a := by
  induction asc with
  | nil => cases ha
  | cons h _ ih =>
    rcases List.mem_cons.mp ha with ea | ha
    · rcases List.mem_cons.mp hb with eb | hb
      · exact .inl (by rw [ea, eb])
      · exact .inr (.inl (by rw [ea]; exact h b hb))
    · rcases List.mem_cons.mp hb with eb | hb
      · exact .inr (.inr (by rw [eb]; exact h a ha))
      · exact ih ha hb
theorem rows_sorted {F S : List (List Pr)} (asc : F.Pairwise fun r s => hd r < hd s) (ne : ∀ r ∈ F, r ≠ []) (pm : F.Perm S) : S.mergeSort (PySem.W.dataLe false encR) = F := by
  have tl : PySem.W.TotalLe (PySem.W.dataLe false encR) := PySem.W.sortLe_total (PyProof.Rows.listOrd PyProof.Rows.itemOrd) false fun b : List Pr => PySem.W.keyToks (encR b)
  have h1 : (S.mergeSort (PySem.W.dataLe false encR)).Pairwise fun a b => PySem.W.dataLe false encR a b = true := List.pairwise_mergeSort tl.trans (fun a b => by
    rcases tl.total a b with h | h
    · rw [h]
      rfl
    · rw [h, Bool.or_true]) S
  have h2 : F.Pairwise fun a b => PySem.W.dataLe false encR a b = true := asc.imp_of_mem fun {a b} ha hb h => (rows_le (ne a ha) (ne b hb) h).1
  have p2 : (S.mergeSort (PySem.W.dataLe false encR)).Perm F := (List.mergeSort_perm S _).trans pm.symm
  refine List.Perm.eq_of_pairwise (le := fun a b => PySem.W.dataLe false encR a b = true) (fun a b ha hb q1 q2 => ?_) h1 h2 p2
  have ha := p2.mem_iff.mp ha
  rcases asc_case asc ha hb with e | e | e
  · exact e
  · have := (rows_le (ne a ha) (ne b hb) e).2
    rw [q2] at this
    cases this
  · have := (rows_le (ne b hb) (ne a ha) e).2
    rw [q1] at this
    cases this
/-! ### in the heap -/
/-- the length of the list in a slot -/
def lenSlot (i : Nat) (σ : L2.St) (H : Hp) : Nat := match σ[i]? with
  | some (some (V.ref l)) => (match H l with | some (.lst xs) => xs.length | _ => 0)
  | _ => 0
def intSlot (i : Nat) (σ : L2.St) : Nat := match σ[i]? with
  | some (some (V.int k)) => k.toNat
  | _ => 0
theorem lenSlot_at {i : Nat} {σ : L2.St} {H : Hp} {l : Addr} {xs : List V} (h : σ[i]? = some (some (.ref l))) (hl : H l = some (.lst xs)) : lenSlot i σ H = xs.length := by
  unfold lenSlot
  rw [h]
  show (match H l with | some (.lst xs) => xs.length | _ => 0) = _
  rw [hl]
theorem intSlot_at {i : Nat} {σ : L2.St} {k : Int} (h : σ[i]? = some (some (.int k))) : intSlot i σ = k.toNat := by
  unfold intSlot
  rw [h]
theorem meas_step {σ σ' : L2.St} {H H' : Hp} {a a' c c' : Addr} {xs xs' zs zs' : List V} {k k' : Int} (h1 : σ[1]? = some (some (.ref a))) (g1 : H a = some (.lst xs)) (h3 : σ[3]? = some (some (.ref c))) (g3 : H c = some (.lst zs)) (h4 : σ[4]? = some (some (.int k)))
    (h1' : σ'[1]? = some (some (.ref a'))) (g1' : H' a' = some (.lst xs')) (h3' : σ'[3]? = some (some (.ref c'))) (g3' : H' c' = some (.lst zs')) (h4' : σ'[4]? = some (some (.int k'))) (lt : xs'.length + zs'.length - k'.toNat < xs.length + zs.length - k.toNat) :
    lenSlot 1 σ' H' + lenSlot 3 σ' H' - intSlot 4 σ' < lenSlot 1 σ H + lenSlot 3 σ H - intSlot 4 σ := by
  rw [lenSlot_at h1 g1, lenSlot_at h3 g3, intSlot_at h4, lenSlot_at h1' g1', lenSlot_at h3' g3', intSlot_at h4']
  exact lt
theorem meas1_step {σ σ' : L2.St} {H H' : Hp} {a a' : Addr} {xs xs' : List V} (h1 : σ[1]? = some (some (.ref a))) (g1 : H a = some (.lst xs)) (h1' : σ'[1]? = some (some (.ref a'))) (g1' : H' a' = some (.lst xs')) (lt : xs'.length < xs.length) : lenSlot 1 σ' H' < lenSlot 1 σ H := by
  rw [lenSlot_at h1 g1, lenSlot_at h1' g1']
  exact lt
theorem sm_upd {H H' : Hp} {p : Addr} {o : HO} (s : Same H H') : Same (upd H p o) (upd H' p o) := fun b u e => by
  by_cases c : b = p
  · subst c
    rw [upd_same] at e ⊢
    exact e
  · rw [upd_ne c] at e ⊢
    exact s _ _ e
/-- a row that stands still, its pairs of old -/
def RowG (H G : Hp) (v : V) (r : List Pr) : Prop := ∃ (l : Addr) (zs : List V), v = .ref l ∧ H l = none ∧ G l = some (.lst zs) ∧ PairsAt H zs r
/-- a new row, apart from the list p -/
def RowFr (H H' : Hp) (p : Addr) (v : V) (r : List Pr) : Prop := ∃ (l : Addr) (zs : List V), v = .ref l ∧ H l = none ∧ l ≠ p ∧ H' l = some (.lst zs) ∧ PairsAt H' zs r
theorem RowFr.row {H H' : Hp} {p : Addr} {v : V} {r : List Pr} (h : RowFr H H' p v r) : RowsAt H' v r := by
  obtain ⟨l, zs, rfl, _, _, h1, h2⟩ := h
  exact ⟨l, zs, rfl, h1, h2⟩
theorem pairs_any_filter {ps : List Pr} {p : Pr} {f : Pr → Bool} (h : p ∈ ps) : (((ps.filter f).map prD).any fun z => PyData.eqv z (prD p)) = f p := by
  rw [List.any_map, Bool.eq_iff_iff, List.any_eq_true]
  constructor
  · rintro ⟨x, hx, e⟩
    have e2 : PyData.eqv (prD x) (prD p) = true := e
    rw [prD_eqv, decide_eq_true_iff] at e2
    rw [← e2]
    exact (List.mem_filter.mp hx).2
  · intro e
    exact ⟨p, List.mem_filter.mpr ⟨h, e⟩, by show PyData.eqv (prD p) (prD p) = true; rw [prD_eqv]; exact decide_eq_true rfl⟩
/-- pairs of old, told in a later heap -/
theorem pairs_back {H Hc : Hp} (s : Same H Hc) : ∀ {ys : List V} {qs : List Pr}, (∀ y ∈ ys, ∃ q, PairAt H y q) → PairsAt Hc ys qs → PairsAt H ys qs
  | _, _, _, .nil => .nil
  | _, _, h, .cons a b => by
    obtain ⟨q, hq⟩ := h _ List.mem_cons_self
    have e := (hq.mono s).inj a
    subst e
    exact .cons hq (pairs_back s (fun y m => h y (List.mem_cons_of_mem _ m)) b)
theorem pairs_any_mem (r : List Pr) (p : Pr) : ((r.map prD).any fun z => PyData.eqv z (prD p)) = decide (p ∈ r) := by
  rw [List.any_map, Bool.eq_iff_iff, List.any_eq_true, decide_eq_true_iff]
  constructor
  · rintro ⟨x, hx, e⟩
    have e2 : PyData.eqv (prD x) (prD p) = true := e
    rw [prD_eqv, decide_eq_true_iff] at e2
    rw [← e2]
    exact hx
  · intro e
    exact ⟨p, e, by show PyData.eqv (prD p) (prD p) = true; rw [prD_eqv]; exact decide_eq_true rfl⟩
theorem LInv.few {ps : List Pr} {rows : List (List Pr)} (h : LInv ps rows) : rows.length ≤ ps.length := by
  rw [← h.perm.length_eq]
  have ne := h.ne
  clear h
  induction rows with
  | nil => exact Nat.le_refl _
  | cons r t ih =>
    have h1 := ih fun s m => ne s (List.mem_cons_of_mem _ m)
    have h2 : 0 < r.length := List.length_pos_iff.mpr (ne r List.mem_cons_self)
    rw [List.flatten_cons, List.length_append, List.length_cons]
    omega
theorem LInv.row_few {ps : List Pr} {rows : List (List Pr)} (h : LInv ps rows) {r : List Pr} (m : r ∈ rows) : r.length ≤ ps.length := by
  rw [← h.perm.length_eq]
  clear h
  induction rows with
  | nil => cases m
  | cons s t ih =>
    rw [List.flatten_cons, List.length_append]
    rcases List.mem_cons.mp m with e | m
    · rw [e]
      omega
    · have := ih m
      omega
/-- which rows hold a pair, and which are left, as the comprehensions make them -/
def inRow (rows : List (List Pr)) (p : Pr) : V → Bool
  | .int k => decide (p ∈ rows.getD k.toNat [])
  | _ => false
def notTwo (a b : Nat) : V → Bool
  | .int k => decide (k ≠ (a : Int)) && decide (k ≠ (b : Int))
  | _ => false
theorem inRow_list (rows : List (List Pr)) (p : Pr) (n : Nat) : (((List.range n).map fun i : Nat => V.int (i : Int)).filter (inRow rows p)) = ((List.range n).filter fun k => decide (p ∈ rows.getD k [])).map fun i : Nat => V.int (i : Int) := by
  rw [List.filter_map]
  congr 2
theorem notTwo_list (xs : List V) (a b n : Nat) : (((List.range n).map fun i : Nat => V.int (i : Int)).filter (notTwo a b)).map (layV xs) = ((List.range n).filter fun k => decide (k ≠ a) && decide (k ≠ b)).map fun k => xs.getD k .non := by
  rw [List.filter_map, List.map_map]
  have e1 : (notTwo a b ∘ fun i : Nat => V.int (i : Int)) = fun k => decide (k ≠ a) && decide (k ≠ b) := by
    funext k
    show (decide ((k : Int) ≠ (a : Int)) && decide ((k : Int) ≠ (b : Int))) = _
    congr 1
    · rw [decide_eq_decide]
      omega
    · rw [decide_eq_decide]
      omega
  have e2 : (layV xs ∘ fun i : Nat => V.int (i : Int)) = fun k => xs.getD k .non := by
    funext k
    show xs.getD ((k : Int)).toNat .non = _
    rw [show ((k : Int)).toNat = k by omega]
  rw [e1, e2]
theorem rows_pick {H : Hp} {xs : List V} {rows : List (List Pr)} (h : Paired (RowsAt H) xs rows) : ∀ L : List Nat, (∀ k ∈ L, k < rows.length) → Paired (RowsAt H) (L.map fun k => xs.getD k .non) (L.map fun k => rows.getD k [])
  | [], _ => .nil
  | k :: L, g => by
    obtain ⟨v, hv, hp⟩ := paired_get h (getD_at (g k List.mem_cons_self))
    refine .cons ?_ (rows_pick h L fun i m => g i (List.mem_cons_of_mem _ m))
    show RowsAt H (xs.getD k .non) (rows.getD k [])
    rw [List.getD_eq_getElem?_getD, hv]
    exact hp
end Pg
/-! sorted of a list of lists of pairs -/
namespace Pg
open PySem PySem.Spec PyProof.Rows L2
def RowDp (K : PySem.W.Frag) (H : Hp) (v : V) (r : List Pr) : Prop := Dp K H v (encR r)
def rSortedR (K : PySem.W.Frag) : List V → Hp → VK → Prop := fun vs H Q => ∃ (a : Addr) (xs : List V) (rows : List (List Pr)), vs = [V.ref a] ∧ SqL K H a xs ∧ Paired (RowsAt H) xs rows ∧ rows.length ≤ 10000 ∧
  ∀ (ys : List V) (p : Addr), Paired (RowsAt H) ys (rows.mergeSort (PySem.W.dataLe false encR)) → H p = none → Q (.ref p) (upd H p (.lst ys))
theorem rowsAt_dp {K : PySem.W.Frag} {H : Hp} {v : V} {r : List Pr} (h : RowsAt H v r) : Dp K H v (encR r) := by
  obtain ⟨l, xs, rfl, h1, h2⟩ := h
  exact .lst (SqL.of h1) h2.dp
theorem rows_dp {K : PySem.W.Frag} {H : Hp} : ∀ {xs : List V} {rows : List (List Pr)}, Paired (RowsAt H) xs rows → DpAll K H xs (rows.map encR)
  | _, _, .nil => .nil
  | _, _, .cons a b => .cons (rowsAt_dp a) (rows_dp b)
theorem each_of {H : Hp} : ∀ {xs : List V} {vs : List Value} {rows : List (List Pr)}, Paired (RowsAt H) xs rows → Vals xs vs → PySem.W.EachIs (fun (v : Value) (r : List Pr) => ∃ x : V, RelV x v ∧ RowsAt H x r) vs rows
  | _, _, _, .nil, .nil => .nil
  | _, _, _, .cons a b, .cons c d => .cons ⟨_, c, a⟩ (each_of b d)
theorem each_back {H : Hp} : ∀ {vs : List Value} {rows : List (List Pr)}, PySem.W.EachIs (fun (v : Value) (r : List Pr) => ∃ x : V, RelV x v ∧ RowsAt H x r) vs rows → ∃ xs : List V, Vals xs vs ∧ Paired (RowsAt H) xs rows
  | _, _, .nil => ⟨[], .nil, .nil⟩
  | _, _, .cons ⟨x, h1, h2⟩ t => by
    obtain ⟨xs, q1, q2⟩ := each_back t
    exact ⟨x :: xs, .cons h1 q1, .cons h2 q2⟩
theorem encR_depth (r : List Pr) : (encR r).depth ≤ 2 := (shp_lsD r).2
theorem crSortedR {X : Cx} (K : PySem.W.Frag) (hu : X.A.units + 64 < cLine) (e : X.K = K := by rfl) : CallR X (.builtin "sorted") (rSortedR K) := by
  subst e
  intro pins s σ H vs us Q I r ⟨a, xs, rows, hvs, hs, hp, hl, q⟩
  subst hvs
  obtain rfl := Vals.ref1 r
  obtain ⟨its, rv, hli, hz⟩ := I.list hs
  obtain ⟨as, hr⟩ := Dp.readsAll I (rows.map encR) _ its (rows_dp hp) rv
  have hlen : its.length = rows.length := by
    rw [← rv.length]
    exact paired_length hp
  refine PySem.W.sorted_data (enc := encR) (bs := rows) hli.isList (each_of hp rv) (PySem.W.readsAll_each encR hr) (PySem.W.AllAlike.of alike_rows)
    (PySem.W.Sortable.others fun b => ⟨(by intro z; cases z), fun _ => (by intro z; cases z)⟩) (by have := sizeLine_eq; omega) (fun b _ => ?_) fun out h1 h2 => ?_
  · have := encR_depth b
    omega
  · obtain ⟨ys, k1, k2⟩ := each_back h2
    obtain ⟨ep, he'⟩ := PyProof.Rows.sortedAll_at s.heap its out.toArray
    have hyl : ys.length ≤ sizeLine := by
      rw [paired_length k2, List.length_mergeSort, sizeLine_eq]
      omega
    exact ⟨.ref _, upd H (s.heap.objs.size + 1) (.lst ys), I.laid (t' := s.toks) (fun _ _ => PyProof.Rows.sortedAll_old) (Nat.le_succ _) ⟨hyl, _, ep, k1, by simpa using he'⟩, rfl, q ys _ k2 (I.hok.fresh (Nat.le_succ _))⟩
theorem shp_rowsD (F : List (List Pr)) : Shp 3 (.list (F.map encR)) := shp_lst fun x mx => by
  obtain ⟨r, _, er⟩ := List.mem_map.mp mx
  rw [← er]
  exact shp_lsD r
theorem map_sorted : ∀ {F : List (List Pr)}, (∀ r ∈ F, SrP r) → F.map sortP = F
  | [], _ => rfl
  | r :: F, h => by rw [List.map_cons, sortP_id (h r List.mem_cons_self), map_sorted fun s m => h s (List.mem_cons_of_mem _ m)]
end Pg
namespace Pg
open PySem L2
def topS (i : Nat) : Stmt := PySem.Challenge.pw_pairlings_k12_tangles.main.body.getD i (.Pass ⟨0, 0, 0, 0⟩)
structure CA where
  none_ : Addr
/-- what the top has left of the names that the defs read -/
structure Txt (K : PySem.W.Frag) (mg : Str → Option Value) (ca : CA) : Prop where
  z_isinstance : mg "isinstance" = none
  z_len : mg "len" = none
  z_list : mg "list" = none
  z_range : mg "range" = none
  z_sorted : mg "sorted" = none
  z_tuple : mg "tuple" = none
end Pg

namespace Pg
open PySem L2
section
variable {P : Program} {w : World} {K : PySem.W.Frag} {mg : Str → Option Value} {base : Heap} {ca : CA}
abbrev s_law_of_walk : Stmt := topS 10
theorem sc_law_of_walk : FnScope ["walk", "open_ones", "pairs", "point", "start", "one"] ["walk"] (defScope s_law_of_walk) := ⟨rfl, rfl, rfl, by decide +kernel, rfl, by decide +kernel, by decide +kernel⟩
/-- the pairing of a walk -/
def sp_law_of_walk (K : PySem.W.Frag) : Sp := fun vs H Q _ => ∃ (a : Addr) (ws : List Stp) (h : Nat), vs = [.ref a] ∧ SqL K H a (ws.map Stp.v) ∧ run 0 ws = some h ∧ ws.length ≤ 100 ∧
  ∀ (H' : Hp) (v : V), Same H H' → PairingAt H' v (ws.length : Int) (prs ws) → Q v H'
theorem ok_law_of_walk (T : Txt K mg ca) (D : Def K mg "_law_of_walk" ["walk"] s_law_of_walk) : Known P w K mg base CX0 1 "_law_of_walk" ["walk"] (sp_law_of_walk K) := by
  refine D.known fun f fd F => F.ok sc_law_of_walk (fun vs H Q E h => ?_) (fun cdv A outer s H vs Q E hr h => ?_)
  · obtain ⟨_, _, _, rfl, _⟩ := h
    rfl
  · obtain ⟨a, ws, h, rfl, hS, hrun, hlen, q⟩ := h
    refine ⟨_, (pss_cons (ps_set (i := 1) sc_law_of_walk.nd rfl (Or.inl rfl) (pe_lst pa_nil))
      (pss_cons (ps_set (i := 2) sc_law_of_walk.nd rfl (Or.inl rfl) (pe_lst pa_nil))
      (pss_cons (ps_for PassesOwn.never rfl (pi_range1 (by rfl) T.z_range (pa_cons (pe_callB (callLen K) (by rfl) T.z_len PySem.boot_len (pa_cons (pv 0) pa_nil)) pa_nil)) (pg_name (i := 3) sc_law_of_walk.nd rfl (Or.inl rfl))
      (pss_one (ps_if (pt_cmpR op_eq (pe_ix (ixL K) (pv 0) (pv 3) (fun _ _ => rfl)) pe_str (nomark _))
      (pss_one (ps_expr (peM K PySem.F.plainAttrs_list PySem.F.slot_list_append PySem.F.type_list_append mt_append (pv 1) (pa_cons (pv 3) pa_nil))))
      (pss_one (ps_if (pt_cmpR op_ne (pe_ix (ixL K) (pv 0) (pv 3) (fun _ _ => rfl)) pe_str (nomark _))
      (pss_cons (ps_set (i := 4) sc_law_of_walk.nd rfl (Or.inr rfl) (pe_ix (ixL K) (pv 1) (pe_ix (ixL K) (pv 0) (pv 3) (fun _ _ => rfl)) (fun _ _ => rfl)))
      (pss_cons (ps_setLc (i := 1) (own := [("one", 5)]) (g := gName 5) (tt := _) rfl sc_law_of_walk.nd rfl rfl (sw_true rfl rfl rfl (by decide +kernel)) (piL K (pv 1)) (blkOk_by (N := ["walk", "open_ones", "pairs", "point", "start", "one"]) (sc := defScope s_law_of_walk) (by decide +kernel)) (fun _ _ _ _ _ => (pg_name (i := 5) sc_law_of_walk.nd rfl (Or.inl rfl))) (fun _ _ _ _ _ => (pts_one (pt_cmpR op_ne (pv 5) (pv 4) (nomark _)))) (fun _ _ _ _ _ => (pv 5)))
      (pss_one (ps_expr (peM K PySem.F.plainAttrs_list PySem.F.slot_list_append PySem.F.type_list_append mt_append (pv 2) (pa_cons (pe_tup (pa_cons (pv 4) (pa_cons (pv 3) pa_nil))) pa_nil))))))
      pss_nil)))))
      (pss_one (ps_ret (pe_tup (pa_cons (pe_callB (callLen K) (by rfl) T.z_len PySem.boot_len (pa_cons (pv 0) pa_nil)) (pa_cons (pe_callTy (callTup K) (by rfl) T.z_tuple (by decide +kernel) (pa_cons (pe_callB (cr_sortedPP K) (by rfl) T.z_sorted (by decide +kernel) (pa_cons (pv 2) pa_nil)) pa_nil)) pa_nil)))))))), ?_⟩
    refine ⟨Nat.zero_le _, fun o ho => ?_⟩
    refine ⟨Nat.zero_le _, fun r hr' => ?_⟩
    have nor : o ≠ r := ne_of_none upd_same hr'
    have hrH : H r = none := by
      rw [upd_ne (Ne.symm nor)] at hr'
      exact hr'
    have s1 := (sm_new (o := .lst []) ho).trans (sm_new (o := .lst []) hr')
    -- for point in range(len(walk))
    refine ⟨_, rfl, a, _, rfl, .inl (s1.seq hS), _, rfl, by omega, (by rw [List.length_map]; omega), ?_⟩
    refine for_range (lo := 0) (n := ((ws.map Stp.v).length : Int).toNat) (fun i σ H' => ∃ (o : Addr) (xs : List V) (x3 x4 x5 : Option V), σ = [some (.ref a), some (.ref o), some (.ref r), x3, x4, x5] ∧
      H o = none ∧ o ≠ r ∧ Same H H' ∧ H' o = some (.lst ((osAt ws i).map V.int)) ∧ H' r = some (.lst xs) ∧ PairsAt H' xs (prAt ws i)) ?_ ?_ ?_
    · exact ⟨o, [], none, none, none, rfl, ho, nor, s1, (by rw [upd_ne nor, upd_same]; rfl), upd_same, .nil⟩
    · rintro i σ H' hi ⟨o, xs, x3, x4, x5, rfl, ho, nor, hs, hO, hR, hP⟩
      have hi' : i < ws.length := by
        rw [List.length_map] at hi
        omega
      obtain ⟨st, hst, hv⟩ := step_at hi'
      have hA : SqL K H' a (ws.map Stp.v) := hs.seq hS
      have hat : atI (ws.map Stp.v) (0 + (i : Int)) = some st.v := at_of (j := i) (by omega) hv
      have e1 := os_succ hst
      have e2 := pr_succ hst
      have hos := os_le ws i
      have hpr := pr_le ws i
      refine ⟨_, rfl, _, rfl, a, _, _, _, rfl, rfl, hA, hat, ?_⟩
      cases st with
      | opn =>
        refine ⟨rfl, _, rfl, iteT ?_⟩
        refine ⟨_, rfl, .inl ⟨rfl, _, SqL.of hO⟩, _, rfl, o, _, _, rfl, rfl, hO, szl (by rw [List.length_map]; omega), ?_⟩
        refine ⟨o, xs, _, _, _, rfl, ho, nor, sm_mut hs ho, ?_, (by rw [upd_ne (Ne.symm nor)]; exact hR), ?_⟩
        · rw [upd_same, e1]
          show _ = some (HO.lst ((osAt ws i ++ [(i : Int)]).map V.int))
          rw [List.map_append, Int.zero_add]
          rfl
        · rw [e2]
          show PairsAt _ xs (prAt ws i ++ [])
          rw [List.append_nil]
          exact upd_pairs hO hP
      | lone =>
        refine ⟨rfl, _, rfl, iteF ?_⟩
        refine ⟨_, rfl, _, rfl, a, _, _, _, rfl, rfl, hA, hat, rfl, _, rfl, iteF ?_⟩
        refine ⟨o, xs, _, _, _, rfl, ho, nor, hs, ?_, hR, ?_⟩
        · rw [e1]
          exact hO
        · rw [e2]
          show PairsAt _ xs (prAt ws i ++ [])
          rw [List.append_nil]
          exact hP
      | num k =>
        refine ⟨rfl, _, rfl, iteF ?_⟩
        refine ⟨_, rfl, _, rfl, a, _, _, _, rfl, rfl, hA, hat, rfl, _, rfl, iteT ?_⟩
        -- start = open_ones[walk[point]]
        have hk := os_num hrun hst
        have hat2 : atI ((osAt ws i).map V.int) (k : Int) = some (.int ((osAt ws i).getD k 0)) := atI_nat (by
          rw [List.getElem?_map, List.getElem?_eq_getElem hk, List.getD_eq_getElem?_getD, List.getElem?_eq_getElem hk]
          rfl)
        refine ⟨_, rfl, _, rfl, _, rfl, a, _, _, _, rfl, rfl, hA, hat, o, _, _, _, rfl, rfl, SqL.of hO, hat2, ?_⟩
        -- open_ones = [one for one in open_ones if one != start]
        with_reducible refine gn (sq (asg ?_))
        refine lcL (K := K) (a := o) (xs := (osAt ws i).map V.int) (fun x => !decide (x = .int ((osAt ws i).getD k 0))) id (fun Q q => ⟨_, rfl, q⟩) (SqL.of hO) (by rw [List.length_map]; omega) (fun x => rfl) (fun x hx H1 s1 Q q => ?_) (fun x hx _ H1 s1 Q q => ⟨_, rfl, q⟩) fun p hp => ?_
        · obtain ⟨z, hz, rfl⟩ := List.mem_map.mp hx
          exact ⟨_, rfl, _, rfl, rfl, _, rfl, q⟩
        have nrp : r ≠ p := ne_of_none hR hp
        -- pairs.append((start, point))
        refine ⟨_, rfl, .inl ⟨rfl, _, SqL.of (by rw [upd_ne nrp]; exact hR)⟩, _, rfl, _, rfl, (by show 2 ≤ sizeLine; decide), fun t ht => ?_⟩
        have hpH : H p = none := hs.free hp
        have hR2 : (upd H' p (.lst (((((osAt ws i).map V.int).filter fun x => !decide (x = .int ((osAt ws i).getD k 0))).map id)))) r = some (.lst xs) := by rw [upd_ne nrp]; exact hR
        have nrt : r ≠ t := ne_of_none hR2 ht
        have npt : p ≠ t := ne_of_none upd_same ht
        have hT : H' t = none := by
          rw [upd_ne (Ne.symm npt)] at ht
          exact ht
        refine ⟨r, _, _, rfl, rfl, (by rw [upd_ne nrt]; exact hR2), szl (by rw [paired_length hP]; omega), ?_⟩
        refine ⟨p, _, _, _, _, rfl, hpH, Ne.symm nrp, ?_, ?_, upd_same, ?_⟩
        · exact sm_mut ((hs.trans (sm_new hp)).trans (sm_new ht)) hrH
        · rw [upd_ne (Ne.symm nrp), upd_ne npt, upd_same, List.map_id, e1, List.filter_map]
          show _ = some (HO.lst (((osAt ws i).eraseIdx k).map V.int))
          rw [← filter_ne_eraseIdx _ k (osAt_asc ws i).nodup hk]
          congr 3
          refine List.filter_congr fun x _ => ?_
          show (!decide (V.int x = V.int ((osAt ws i).getD k 0))) = !decide (x = (osAt ws i).getD k 0)
          congr 1
          rw [decide_eq_decide]
          exact ⟨fun z => V.int.inj z, fun z => by rw [z]⟩
        · rw [e2]
          show PairsAt _ _ (prAt ws i ++ [((osAt ws i).getD k 0, (i : Int))])
          refine paired_append (upd_pairs (o := .lst xs) (by rw [upd_ne nrt, upd_ne nrp]; exact hR) ((PairsAt.mono (sm_new hp) hP).mono (sm_new ht))) (.cons ⟨t, rfl, ?_⟩ .nil)
          rw [upd_ne (Ne.symm nrt), upd_same, Int.zero_add]
    · rintro σ H' ⟨o, xs, x3, x4, x5, rfl, ho, nor, hs, hO, hR, hP⟩
      have hA : SqL K H' a (ws.map Stp.v) := hs.seq hS
      have e : (((ws.map Stp.v).length : Int)).toNat = ws.length := by
        rw [List.length_map]
        omega
      rw [e, prAt_all] at hP
      -- return (len(walk), tuple(sorted(pairs)))
      refine ⟨_, rfl, a, _, rfl, .inl hA, _, rfl, r, xs, _, rfl, SqL.of hR, hP, fun ys p hy hperm hp => ?_⟩
      have hlen2 := paired_length hy
      refine ⟨p, ys, rfl, .inl ⟨SqL.of upd_same, fun t ht => ?_⟩⟩
      refine ⟨(by show 2 ≤ sizeLine; decide), fun u hu => ?_⟩
      refine q _ _ (((hs.trans (sm_new hp)).trans (sm_new ht)).trans (sm_new hu)) ⟨u, t, ys, rfl, ?_, ?_, ?_⟩
      · rw [upd_same, List.length_map]
      · rw [upd_ne (ne_of_none upd_same hu), upd_same]
      · exact ((hy.mono (sm_new hp)).mono (sm_new ht)).mono (sm_new hu)
end
end Pg

namespace Pg
open PySem L2
section
variable {P : Program} {w : World} {K : PySem.W.Frag} {mg : Str → Option Value} {base : Heap} {ca : CA}
abbrev s_law_cross : Stmt := topS 13
theorem sc_law_cross : FnScope ["one", "other"] ["one", "other"] (defScope s_law_cross) := ⟨rfl, rfl, rfl, by decide +kernel, rfl, by decide +kernel, by decide +kernel⟩
def sp_law_cross (K : PySem.W.Frag) : Sp := fun vs H Q _ => ∃ (v u : V) (p q : Pr), vs = [v, u] ∧ PairAt H v p ∧ PairAt H u q ∧ Q (.bl (crossL p q)) H
theorem ok_law_cross (T : Txt K mg ca) (D : Def K mg "_law_cross" ["one", "other"] s_law_cross) : Known P w K mg base CX0 1 "_law_cross" ["one", "other"] (sp_law_cross K) := by
  refine D.known fun f fd F => F.ok sc_law_cross (fun vs H Q E h => ?_) (fun cdv A outer s H vs Q E hr h => ?_)
  · obtain ⟨_, _, _, _, rfl, _⟩ := h
    rfl
  · obtain ⟨v, u, p, q, rfl, ⟨a, rfl, ha⟩, ⟨b, rfl, hb⟩, k⟩ := h
    have a0 : atI [V.int p.1, V.int p.2] 0 = some (.int p.1) := atI_nat (j := 0) rfl
    have a1 : atI [V.int p.1, V.int p.2] 1 = some (.int p.2) := atI_nat (j := 1) rfl
    have b0 : atI [V.int q.1, V.int q.2] 0 = some (.int q.1) := atI_nat (j := 0) rfl
    have b1 : atI [V.int q.1, V.int q.2] 1 = some (.int q.2) := atI_nat (j := 1) rfl
    refine ⟨_, (pss_one (ps_ret (pe_chain3 op_lt op_lt op_lt (pe_ix (ixT K) (pv 0) pe_int (fun _ _ => rfl)) (pe_ix (ixT K) (pv 1) pe_int (fun _ _ => rfl)) (pe_ix (ixT K) (pv 0) pe_int (fun _ _ => rfl)) (pe_ix (ixT K) (pv 1) pe_int (fun _ _ => rfl))))), ?_⟩
    refine ⟨_, rfl, a, _, 0, _, rfl, rfl, SqT.of ha, a0, _, rfl, b, _, 0, _, rfl, rfl, SqT.of hb, b0, _, _, rfl, rfl, ?_⟩
    unfold crossL at k
    refine ⟨_, rfl, ?_⟩
    by_cases c : p.1 < q.1
    · rw [decide_eq_true c] at k ⊢
      refine iteT ⟨_, rfl, a, _, 1, _, rfl, rfl, SqT.of ha, a1, _, _, rfl, rfl, _, rfl, ?_⟩
      by_cases c : q.1 < p.2
      · rw [decide_eq_true c] at k ⊢
        exact iteT ⟨_, rfl, b, _, 1, _, rfl, rfl, SqT.of hb, b1, _, _, rfl, rfl, k⟩
      · rw [decide_eq_false c] at k ⊢
        exact iteF k
    · rw [decide_eq_false c] at k ⊢
      exact iteF k
end
end Pg

namespace Pg
open PySem L2
section
variable {P : Program} {w : World} {K : PySem.W.Frag} {mg : Str → Option Value} {base : Heap} {ca : CA}
abbrev s_law_tangles : Stmt := topS 18
theorem sc_law_tangles : FnScope ["pairing", "rows", "one", "other", "mine", "yours", "joined", "pair", "k", "row"] ["pairing"] (defScope s_law_tangles) := ⟨rfl, rfl, rfl, by decide +kernel, rfl, by decide +kernel, by decide +kernel⟩
/-- the tangles, as the law puts them together -/
def sp_law_tangles (K : PySem.W.Frag) : Sp := fun vs H Q _ => ∃ (v : V) (n : Int) (ps : List Pr), vs = [v] ∧ PairingAt H v n ps ∧ Ris ps ∧ ps.length ≤ 1000 ∧
  ∀ (H' : Hp) (p : Addr) (xs : List V) (rows : List (List Pr)), Same H H' → H' p = some (.lst xs) → Paired (RowsAt H') xs ((rows.map sortP).mergeSort (PySem.W.dataLe false encR)) → Tang ps rows → Q (.ref p) H'
theorem ok_law_tangles (T : Txt K mg ca) (D : Def K mg "_law_tangles" ["pairing"] s_law_tangles) (G_law_cross : Known P w K mg base CX0 1 "_law_cross" ["one", "other"] (sp_law_cross K)) : Known P w K mg base CX0 2 "_law_tangles" ["pairing"] (sp_law_tangles K) := by
  refine D.known fun f fd F => F.ok sc_law_tangles (fun vs H Q E h => ?_) (fun cdv A outer s H vs Q E hr h => ?_)
  · obtain ⟨_, _, _, rfl, _⟩ := h
    rfl
  · obtain ⟨v, n, ps, rfl, ⟨a, b, us, rfl, h1, h2, h3⟩, hris, hl, q⟩ := h
    have nd := ris_nodup hris
    have hlen := paired_length h3
    have g1 : atI [V.int n, V.ref b] 1 = some (.ref b) := atI_nat (j := 1) rfl
    refine ⟨_, (pss_cons (ps_set (i := 1) sc_law_tangles.nd rfl (Or.inr rfl) (pe_lc (own := [("pair", 7)]) (g := gName 7) (tt := tYes) rfl sc_law_tangles.nd (piT K (pe_ix (ixT K) (pv 0) pe_int (fun _ _ => rfl))) (blkOk_by (N := ["pairing", "rows", "one", "other", "mine", "yours", "joined", "pair", "k", "row"]) (sc := defScope s_law_tangles) (by decide +kernel)) (fun _ _ _ _ _ => (pg_name (i := 7) sc_law_tangles.nd rfl (Or.inl rfl))) (fun _ _ _ _ _ => pts_nil) (fun _ _ _ _ _ => (pe_lst (pa_cons (pv 7) pa_nil)))))
      (pss_cons (ps_for PassesOwn.never rfl (piT K (pe_ix (ixT K) (pv 0) pe_int (fun _ _ => rfl))) (pg_name (i := 2) sc_law_tangles.nd rfl (Or.inr rfl))
      (pss_one (ps_for PassesOwn.never rfl (piT K (pe_ix (ixT K) (pv 0) pe_int (fun _ _ => rfl))) (pg_name (i := 3) sc_law_tangles.nd rfl (Or.inr rfl))
      (pss_one (ps_if (pt_val (pe_kc G_law_cross (hr.mono (by decide)) (by rfl) pass0 (pa_cons (pv 2) (pa_cons (pv 3) pa_nil))))
      (pss_cons (ps_set (i := 4) sc_law_tangles.nd rfl (Or.inr rfl) (pe_ix (ixL K) (pe_lc (own := [("k", 8)]) (g := gName 8) (tt := _) rfl sc_law_tangles.nd (pi_range1 (by rfl) T.z_range (pa_cons (pe_callB (callLen K) (by rfl) T.z_len PySem.boot_len (pa_cons (pv 1) pa_nil)) pa_nil)) (blkOk_by (N := ["pairing", "rows", "one", "other", "mine", "yours", "joined", "pair", "k", "row"]) (sc := defScope s_law_tangles) (by decide +kernel)) (fun _ _ _ _ _ => (pg_name (i := 8) sc_law_tangles.nd rfl (Or.inl rfl))) (fun _ _ _ _ _ => (pts_one (pt_cmpR (inLD K (Room.u65 hr)) (pv 2) (pe_ix (ixL K) (pv 1) (pv 8) (fun _ _ => rfl)) rfl))) (fun _ _ _ _ _ => (pv 8))) pe_int (fun _ _ => rfl)))
      (pss_cons (ps_set (i := 5) sc_law_tangles.nd rfl (Or.inr rfl) (pe_ix (ixL K) (pe_lc (own := [("k", 8)]) (g := gName 8) (tt := _) rfl sc_law_tangles.nd (pi_range1 (by rfl) T.z_range (pa_cons (pe_callB (callLen K) (by rfl) T.z_len PySem.boot_len (pa_cons (pv 1) pa_nil)) pa_nil)) (blkOk_by (N := ["pairing", "rows", "one", "other", "mine", "yours", "joined", "pair", "k", "row"]) (sc := defScope s_law_tangles) (by decide +kernel)) (fun _ _ _ _ _ => (pg_name (i := 8) sc_law_tangles.nd rfl (Or.inl rfl))) (fun _ _ _ _ _ => (pts_one (pt_cmpR (inLD K (Room.u65 hr)) (pv 3) (pe_ix (ixL K) (pv 1) (pv 8) (fun _ _ => rfl)) rfl))) (fun _ _ _ _ _ => (pv 8))) pe_int (fun _ _ => rfl)))
      (pss_one (ps_if (pt_cmpR op_ne (pv 4) (pv 5) (nomark _))
      (pss_cons (ps_set (i := 6) sc_law_tangles.nd rfl (Or.inl rfl) (pe_op op_cat (pe_ix (ixL K) (pv 1) (pv 4) (fun _ _ => rfl)) (pe_ix (ixL K) (pv 1) (pv 5) (fun _ _ => rfl))))
      (pss_one (ps_set (i := 1) sc_law_tangles.nd rfl (Or.inr rfl) (pe_op op_cat (pe_lc (own := [("k", 8)]) (g := gName 8) (tt := _) rfl sc_law_tangles.nd (pi_range1 (by rfl) T.z_range (pa_cons (pe_callB (callLen K) (by rfl) T.z_len PySem.boot_len (pa_cons (pv 1) pa_nil)) pa_nil)) (blkOk_by (N := ["pairing", "rows", "one", "other", "mine", "yours", "joined", "pair", "k", "row"]) (sc := defScope s_law_tangles) (by decide +kernel)) (fun _ _ _ _ _ => (pg_name (i := 8) sc_law_tangles.nd rfl (Or.inl rfl))) (fun _ _ _ _ _ => (pts_one (PW.pt (pw_and (pt_cmpR op_ne (pv 8) (pv 4) (nomark _)) (pw_and1 (pt_cmpR op_ne (pv 8) (pv 5) (nomark _))))))) (fun _ _ _ _ _ => (pe_ix (ixL K) (pv 1) (pv 8) (fun _ _ => rfl)))) (pe_lst (pa_cons (pv 6) pa_nil))))))
      pss_nil))))
      pss_nil)))))
      (pss_one (ps_ret (pe_callB (crSortedR K hr.units) (by rfl) T.z_sorted (by decide +kernel) (pa_cons (pe_lc (own := [("row", 9)]) (g := gName 9) (tt := tYes) rfl sc_law_tangles.nd (piL K (pv 1)) (blkOk_by (N := ["pairing", "rows", "one", "other", "mine", "yours", "joined", "pair", "k", "row"]) (sc := defScope s_law_tangles) (by decide +kernel)) (fun _ _ _ _ _ => (pg_name (i := 9) sc_law_tangles.nd rfl (Or.inl rfl))) (fun _ _ _ _ _ => pts_nil) (fun _ _ _ _ _ => (pe_callB (cr_sortedPP K) (by rfl) T.z_sorted (by decide +kernel) (pa_cons (pv 9) pa_nil)))) pa_nil)))))), ?_⟩
    -- rows = [[pair] for pair in pairing[1]]
    with_reducible refine sq (asg ?_)
    refine lcTD (K := K) (a := b) (xs := us) RowsAt (ps.map fun p => [p]) (fun e h => h.mono e) (fun Q q => ⟨_, rfl, a, _, 1, _, rfl, rfl, SqT.of h1, g1, q⟩) (SqT.of h2) (by rw [List.length_map]; exact hlen.symm) (by omega) (fun i x r hx hb H1 D acc s1 hD Q Z k => ?_) (fun H1 r xs s1 hr1 hxs hR => ?_)
    · refine ⟨rfl, yesI ⟨_, rfl, (by show 1 ≤ sizeLine; decide), fun l hl => ?_⟩⟩
      obtain ⟨p, hp, hpa⟩ := paired_get' h3 hx
      rw [List.getElem?_map, hp] at hb
      have er := (Option.some.inj hb).symm
      subst er
      have nDl : D ≠ l := ne_of_none hD hl
      refine k _ _ (sm_new hl) ⟨l, [x], rfl, ?_, ?_⟩
      · rw [del_ne (Ne.symm nDl), upd_same]
      · exact pairs_del (sm_new hl _ _ hD) (.cons ((hpa.mono s1).mono (sm_new hl)) .nil)
    -- for one in pairing[1]
    refine ⟨_, rfl, a, _, 1, _, rfl, rfl, SqT.of (s1 _ _ h1), g1, b, rfl, ⟨_, SqT.of (s1 _ _ h2)⟩, ?_⟩
    refine for_tup (K := K) (a := b) (xs := us) (fun i σ H' => ∃ (r : Addr) (xs : List V) (rows : List (List Pr)) (x2 x3 x4 x5 x6 x7 x8 x9 : Option V), σ = [some (.ref a), some (.ref r), x2, x3, x4, x5, x6, x7, x8, x9] ∧ Same H H' ∧ H' r = some (.lst xs) ∧ Paired (RowsAt H') xs rows ∧ LInv ps rows ∧
      ∀ p ∈ ps.take i, ∀ q ∈ ps, crossL p q = true → Tog rows p q) ?_ (fun i σ H' _ ⟨_, _, _, _, _, _, _, _, _, _, _, _, s, _⟩ => SqT.of (s _ _ h2)) ?_ ?_
    · exact ⟨r, xs, _, none, none, none, none, none, none, none, none, rfl, s1, hxs, paired_mono (fun q => q.mono del_sub) hR, LInv.start ps, fun p m => by rw [List.take_zero] at m; cases m⟩
    · rintro i x σ H' hx ⟨r, xs, rows, x2, x3, x4, x5, x6, x7, x8, x9, rfl, s, hR, hP, hI, hTog⟩
      obtain ⟨p, hp, hpa⟩ := paired_get' h3 hx
      have hpm := List.mem_of_getElem? hp
      refine ⟨_, rfl, a, _, 1, _, rfl, rfl, SqT.of (s _ _ h1), g1, b, rfl, ⟨_, SqT.of (s _ _ h2)⟩, ?_⟩
      refine for_tup (K := K) (a := b) (xs := us) (fun j σ H' => ∃ (r : Addr) (xs : List V) (rows : List (List Pr)) (x3 x4 x5 x6 x7 x8 x9 : Option V), σ = [some (.ref a), some (.ref r), some x, x3, x4, x5, x6, x7, x8, x9] ∧ Same H H' ∧ H' r = some (.lst xs) ∧ Paired (RowsAt H') xs rows ∧ LInv ps rows ∧
        (∀ p ∈ ps.take i, ∀ q ∈ ps, crossL p q = true → Tog rows p q) ∧ ∀ q ∈ ps.take j, crossL p q = true → Tog rows p q) ?_ (fun i σ H' _ ⟨_, _, _, _, _, _, _, _, _, _, _, s, _⟩ => SqT.of (s _ _ h2)) ?_ ?_
      · exact ⟨r, xs, rows, x3, x4, x5, x6, x7, x8, x9, rfl, s, hR, hP, hI, hTog, fun q m => by rw [List.take_zero] at m; cases m⟩
      · rintro j y σ H' hy ⟨r, xs, rows, x3, x4, x5, x6, x7, x8, x9, rfl, s, hR, hP, hI, hTog, hTog2⟩
        obtain ⟨p2, hp2, hpa2⟩ := paired_get' h3 hy
        have hpm2 := List.mem_of_getElem? hp2
        have hxl := paired_length hP
        have hfew := hI.few
        have ext : ∀ rows' : List (List Pr), (∀ p q, Tog rows p q → Tog rows' p q) → (crossL p p2 = true → Tog rows' p p2) → ∀ q ∈ ps.take (j + 1), crossL p q = true → Tog rows' p q := fun rows' h1 h2 q m c => by
          rw [List.take_add_one, hp2] at m
          rcases List.mem_append.mp m with m | m
          · exact h1 p q (hTog2 q m c)
          · have e : q = p2 := by simpa using m
            rw [e] at c ⊢
            exact h2 c
        refine ⟨_, rfl, _, rfl, x, y, p, p2, rfl, hpa.mono s, hpa2.mono s, _, rfl, ?_⟩
        cases ec : crossL p p2 with
        | false =>
          refine iteF ⟨r, xs, rows, _, _, _, _, _, _, _, rfl, s, hR, hP, hI, hTog, ext rows (fun _ _ h => h) fun c => ?_⟩
          rw [ec] at c
          cases c
        | true =>
          refine iteT ?_
          obtain ⟨m1, hm1, hm1p, hm1f⟩ := row_ix nd hI hpm
          obtain ⟨m2, hm2, hm2p, hm2f⟩ := row_ix nd hI hpm2
          have rowAt : ∀ (k : Nat), k < rows.length → ∃ (l : Addr) (zs : List V), xs[k]? = some (.ref l) ∧ H' l = some (.lst zs) ∧ PairsAt H' zs (rows.getD k []) := fun k hk => by
            obtain ⟨v, hv, l, zs, rfl, g2, g3⟩ := paired_get hP (getD_at hk)
            exact ⟨l, zs, hv, g2, g3⟩
          -- mine
          with_reducible refine sq (asg (opp ?_))
          refine lcR (n := (rows.length : Int)) (inRow rows p) id (fun Q q => ⟨_, rfl, r, _, rfl, .inl (SqL.of hR), by rw [hxl]; exact q⟩) (by omega) (fun x => rfl) (fun k hk2 H2 s2 Q q => ?_) (fun k hk2 _ H2 s2 Q q => ⟨_, rfl, q⟩) (by omega) fun d1 hd1 => ?_
          · obtain ⟨l, zs, hv, g2, g3⟩ := rowAt k (by omega)
            refine ⟨_, rfl, _, rfl, _, rfl, r, _, _, _, rfl, rfl, SqL.of (s2 _ _ hR), atI_nat hv, prD p, (rows.getD k []).map prD, ((hpa.mono s).mono s2).dp, .lst (SqL.of (s2 _ _ g2)) (g3.mono s2).dp, (shp_prD p).shaped, (shp_lsD _).shaped, _, rfl, ?_⟩
            rw [pairs_any_mem]
            have e : inRow rows p (.int (k : Int)) = decide (p ∈ rows.getD k []) := by
              show decide (p ∈ rows.getD ((k : Int)).toNat []) = _
              rw [show ((k : Int)).toNat = k by omega]
            rw [← e]
            exact q
          rw [show ((rows.length : Int)).toNat = rows.length by omega, List.map_id, inRow_list, hm1f]
          have t1 := sm_new (o := .lst ([m1].map fun i : Nat => V.int (i : Int))) hd1
          refine ⟨d1, _, 0, _, rfl, rfl, SqL.of upd_same, atI_nat (j := 0) rfl, ?_⟩
          have hR1 := t1 _ _ hR
          -- yours
          with_reducible refine sq (asg (opp ?_))
          refine lcR (n := (rows.length : Int)) (inRow rows p2) id (fun Q q => ⟨_, rfl, r, _, rfl, .inl (SqL.of hR1), by rw [hxl]; exact q⟩) (by omega) (fun x => rfl) (fun k hk2 H2 s2 Q q => ?_) (fun k hk2 _ H2 s2 Q q => ⟨_, rfl, q⟩) (by omega) fun d2 hd2 => ?_
          · obtain ⟨l, zs, hv, g2, g3⟩ := rowAt k (by omega)
            refine ⟨_, rfl, _, rfl, _, rfl, r, _, _, _, rfl, rfl, SqL.of (s2 _ _ hR1), atI_nat hv, prD p2, (rows.getD k []).map prD, (((hpa2.mono s).mono t1).mono s2).dp, .lst (SqL.of (s2 _ _ (t1 _ _ g2))) ((g3.mono t1).mono s2).dp, (shp_prD p2).shaped, (shp_lsD _).shaped, _, rfl, ?_⟩
            rw [pairs_any_mem]
            have e : inRow rows p2 (.int (k : Int)) = decide (p2 ∈ rows.getD k []) := by
              show decide (p2 ∈ rows.getD ((k : Int)).toNat []) = _
              rw [show ((k : Int)).toNat = k by omega]
            rw [← e]
            exact q
          rw [show ((rows.length : Int)).toNat = rows.length by omega, List.map_id, inRow_list, hm2f]
          have t2 := t1.trans (sm_new (o := .lst ([m2].map fun i : Nat => V.int (i : Int))) hd2)
          refine ⟨d2, _, 0, _, rfl, rfl, SqL.of upd_same, atI_nat (j := 0) rfl, ?_⟩
          have hR2 := t2 _ _ hR
          -- if mine != yours
          refine ⟨_, rfl, _, rfl, rfl, _, rfl, ?_⟩
          rw [dint]
          by_cases em : m1 = m2
          · subst em
            rw [decide_eq_true rfl]
            refine iteF ⟨r, xs, rows, _, _, _, _, _, _, _, rfl, s.trans t2, hR2, paired_mono (fun q => q.mono t2) hP, hI, hTog, ext rows (fun _ _ h => h) fun _ => ⟨_, getD_in hm1, hm1p, hm2p⟩⟩
          · rw [decide_eq_false (by omega)]
            refine iteT ?_
            obtain ⟨l1, z1, hv1, g12, g13⟩ := rowAt m1 hm1
            obtain ⟨l2, z2, hv2, g22, g23⟩ := rowAt m2 hm2
            obtain ⟨hJ, hJt⟩ := hI.join hm1 hm2 em hm1p hm2p (cross_adj ec)
            have b1 := paired_length g13
            have b2 := paired_length g23
            have c1 := hI.row_few (getD_in hm1)
            have c2 := hI.row_few (getD_in hm2)
            -- joined = rows[mine] + rows[yours]
            refine ⟨_, rfl, _, rfl, r, _, _, _, rfl, rfl, SqL.of hR2, atI_nat hv1, _, rfl, _, rfl, r, _, _, _, rfl, rfl, SqL.of hR2, atI_nat hv2, l1, l2, z1, z2, rfl, rfl, t2 _ _ g12, t2 _ _ g22, sz (by omega), fun jn hjn => ?_⟩
            have t3 := t2.trans (sm_new (o := .lst (z1 ++ z2)) hjn)
            have hR3 := t3 _ _ hR
            -- rows = [..] + [joined]
            with_reducible refine gn (asg (opp ?_))
            refine lcR (n := (rows.length : Int)) (notTwo m1 m2) (layV xs) (fun Q q => ⟨_, rfl, r, _, rfl, .inl (SqL.of hR3), by rw [hxl]; exact q⟩) (by omega) (fun x => rfl) (fun k hk2 H2 s2 Q q => ?_) (fun k hk2 _ H2 s2 Q q => ?_) (by omega) fun d3 hd3 => ?_
            · have q2 : Q (decide ((k : Int) ≠ (m1 : Int)) && decide ((k : Int) ≠ (m2 : Int))) H2 := q
              refine ⟨_, rfl, _, rfl, rfl, _, rfl, ?_⟩
              rw [dint]
              by_cases e1 : (k : Int) = (m1 : Int)
              · rw [decide_eq_true e1]
                rw [decide_eq_false (by intro z; exact z e1), Bool.false_and] at q2
                exact iteF q2
              · rw [decide_eq_false e1]
                rw [decide_eq_true e1, Bool.true_and] at q2
                refine iteT ⟨_, rfl, _, rfl, rfl, _, rfl, ?_⟩
                rw [dint]
                by_cases e2 : (k : Int) = (m2 : Int)
                · rw [decide_eq_true e2]
                  rw [decide_eq_false (by intro z; exact z e2)] at q2
                  exact q2
                · rw [decide_eq_false e2]
                  rw [decide_eq_true e2] at q2
                  exact q2
            · obtain ⟨l, zs, hv, g2, g3⟩ := rowAt k (by omega)
              have e2 : layV xs (.int (k : Int)) = .ref l := by
                show xs.getD ((k : Int)).toNat .non = _
                rw [show ((k : Int)).toNat = k by omega, List.getD_eq_getElem?_getD, hv]
                rfl
              rw [e2] at q
              exact ⟨_, rfl, _, rfl, r, _, _, _, rfl, rfl, SqL.of (s2 _ _ hR3), atI_nat hv, q⟩
            rw [show ((rows.length : Int)).toNat = rows.length by omega, notTwo_list]
            have t4 := t3.trans (sm_new (o := .lst (((List.range rows.length).filter fun k => decide (k ≠ m1) && decide (k ≠ m2)).map fun k => xs.getD k .non)) hd3)
            have hjn4 := sm_new (o := .lst (((List.range rows.length).filter fun k => decide (k ≠ m1) && decide (k ≠ m2)).map fun k => xs.getD k .non)) hd3 _ _ (upd_same (H := upd (upd H' d1 (.lst ([m1].map fun i : Nat => V.int (i : Int)))) d2 (.lst ([m2].map fun i : Nat => V.int (i : Int)))) (a := jn) (o := .lst (z1 ++ z2)))
            refine ⟨_, rfl, (by show 1 ≤ sizeLine; decide), fun jl hjl => ?_⟩
            have t5 := t4.trans (sm_new (o := .lst [.ref jn]) hjl)
            have hjn5 := sm_new (o := .lst [.ref jn]) hjl _ _ hjn4
            have hfl := List.length_filter_le (fun k => decide (k ≠ m1) && decide (k ≠ m2)) (List.range rows.length)
            rw [List.length_range] at hfl
            refine ⟨d3, jl, _, _, rfl, rfl, sm_new hjl _ _ upd_same, upd_same, sz (by rw [List.length_map]; show _ + 1 ≤ _; omega), fun r2 hr2 => ?_⟩
            have t6 := t5.trans (sm_new (o := .lst ((((List.range rows.length).filter fun k => decide (k ≠ m1) && decide (k ≠ m2)).map fun k => xs.getD k .non) ++ [.ref jn])) hr2)
            have hjn6 := sm_new (o := .lst ((((List.range rows.length).filter fun k => decide (k ≠ m1) && decide (k ≠ m2)).map fun k => xs.getD k .non) ++ [.ref jn])) hr2 _ _ hjn5
            refine ⟨r2, _, joined rows m1 m2, _, _, _, _, _, _, _, rfl, s.trans t6, upd_same, ?_, hJ, fun p m q hq c => joined_tog (hTog p m q hq c), ext _ (fun _ _ h => joined_tog h) fun _ => hJt⟩
            exact paired_push (rows_pick (paired_mono (fun q => q.mono t6) hP) _ fun k hk => List.mem_range.mp (List.mem_filter.mp hk).1) ⟨jn, z1 ++ z2, rfl, hjn6, paired_append (g13.mono t6) (g23.mono t6)⟩
      · rintro σ H' ⟨r, xs, rows, x3, x4, x5, x6, x7, x8, x9, rfl, s, hR, hP, hI, hTog, hTog2⟩
        rw [hlen, List.take_length] at hTog2
        refine ⟨r, xs, rows, _, _, _, _, _, _, _, _, rfl, s, hR, hP, hI, fun p' m q hq c => ?_⟩
        rw [List.take_add_one, hp] at m
        rcases List.mem_append.mp m with m | m
        · exact hTog p' m q hq c
        · have e : p' = p := by simpa using m
          rw [e] at c ⊢
          exact hTog2 q hq c
    · rintro σ H' ⟨r, xs, rows, x2, x3, x4, x5, x6, x7, x8, x9, rfl, s, hR, hP, hI, hTog⟩
      rw [hlen, List.take_length] at hTog
      have hT := hI.tang nd hTog
      have hxl := paired_length hP
      have hfew := hI.few
      -- return sorted([sorted(row) for row in rows])
      with_reducible refine retn (cb (cns ?_))
      refine lcLD (K := K) (a := r) (xs := xs) RowsAt (rows.map sortP) (fun e h => h.mono e) (fun Q q => ⟨_, rfl, q⟩) (SqL.of hR) (by rw [List.length_map]; exact hxl.symm) (by omega) (fun i x r hx hb H1 D acc s1 hD Q Z k => ?_) (fun H1 d ys s1 hd1 hys hRR => ?_)
      · obtain ⟨row, hrow, l, zs, rfl, g2, g3⟩ := paired_get' hP hx
        rw [List.getElem?_map, hrow] at hb
        have er := (Option.some.inj hb).symm
        subst er
        refine ⟨rfl, yesI ⟨_, rfl, l, zs, row, rfl, SqL.of (s1 _ _ g2), g3.mono s1, fun us p hu hperm hp => ?_⟩⟩
        have nDp : D ≠ p := ne_of_none hD hp
        refine k _ _ (sm_new hp) ⟨p, us, rfl, ?_, ?_⟩
        · rw [del_ne (Ne.symm nDp), upd_same]
        · exact pairs_del (sm_new hp _ _ hD) (hu.mono (sm_new hp))
      · refine ⟨d, ys, rows.map sortP, rfl, SqL.of hys, paired_mono (fun q => q.mono del_sub) hRR, by rw [List.length_map]; omega, fun zs p hz hp => ?_⟩
        exact q _ p zs rows ((s.trans s1).trans (sm_new hp)) upd_same (paired_mono (fun q => q.mono (sm_new hp)) hz) hT
end
end Pg

namespace Pg
open PySem L2
section
variable {P : Program} {w : World} {K : PySem.W.Frag} {mg : Str → Option Value} {base : Heap} {ca : CA}
abbrev s_law_cell_at : Stmt := topS 6
theorem sc_law_cell_at : FnScope ["script", "k"] ["script", "k"] (defScope s_law_cell_at) := ⟨rfl, rfl, rfl, by decide +kernel, rfl, by decide +kernel, by decide +kernel⟩
def cellAt (ns : List Int) (k : Int) : Int := ns.getD k.toNat 0
def sp_law_cell_at (K : PySem.W.Frag) : Sp := fun vs H Q _ => ∃ (a : Addr) (ns : List Int) (k : Int), vs = [.ref a, .int k] ∧ SqL K H a (ns.map V.int) ∧ 0 ≤ k ∧ Q (.int (cellAt ns k)) H
theorem ok_law_cell_at (T : Txt K mg ca) (D : Def K mg "_law_cell_at" ["script", "k"] s_law_cell_at) : Known P w K mg base CX0 1 "_law_cell_at" ["script", "k"] (sp_law_cell_at K) := by
  refine D.known fun f fd F => F.ok sc_law_cell_at (fun vs H Q E h => ?_) (fun cdv A outer s H vs Q E hr h => ?_)
  · obtain ⟨_, _, _, rfl, _⟩ := h
    rfl
  · obtain ⟨a, ns, k, rfl, hS, hk, q⟩ := h
    refine ⟨_, (pss_cons (ps_if (pt_cmpR op_lt (pv 1) (pe_callB (callLen K) (by rfl) T.z_len PySem.boot_len (pa_cons (pv 0) pa_nil)) (nomark _))
      (pss_one (ps_ret (pe_ix (ixL K) (pv 0) (pv 1) (fun _ _ => rfl))))
      pss_nil)
      (pss_one (ps_ret pe_int))), ?_⟩
    refine ⟨_, rfl, _, rfl, a, _, rfl, .inl hS, _, _, rfl, rfl, _, rfl, ?_⟩
    refine ite2 (fun e => ?_) (fun e => ?_)
    · have e1 := of_decide_eq_true e
      rw [List.length_map] at e1
      have g : (ns.map V.int)[k.toNat]? = some (.int (cellAt ns k)) := by
        have hl : k.toNat < ns.length := by omega
        rw [List.getElem?_map, List.getElem?_eq_getElem hl]
        show some (V.int ns[k.toNat]) = _
        rw [cellAt, List.getD_eq_getElem?_getD, List.getElem?_eq_getElem hl]
        rfl
      exact ⟨_, rfl, _, rfl, a, _, k, _, rfl, rfl, hS, at_of (j := k.toNat) (by omega) g, q⟩
    · have e1 : ¬ k < (ns.map V.int).length := fun z => e (decide_eq_true z)
      rw [List.length_map] at e1
      have g : cellAt ns k = 0 := by
        rw [cellAt, List.getD_eq_getElem?_getD, List.getElem?_eq_none (by omega)]
        rfl
      rw [g] at q
      exact q
end
end Pg

namespace Pg
open PySem L2
section
variable {P : Program} {w : World} {K : PySem.W.Frag} {mg : Str → Option Value} {base : Heap} {ca : CA}
abbrev s_law_choice : Stmt := topS 8
theorem sc_law_choice : FnScope ["state", "many", "found", "mixed"] ["state", "many"] (defScope s_law_choice) := ⟨rfl, rfl, rfl, by decide +kernel, rfl, by decide +kernel, by decide +kernel⟩
/-- some number below many, whatever the state; the state is changed -/
def sp_law_choice (K : PySem.W.Frag) : Sp := fun vs H Q _ => ∃ (a : Addr) (c m : Int) (b : Bool), vs = [.ref a, .int m] ∧ H a = some (.lst [.int c, .bl b]) ∧ 0 < m ∧ m < 1000 ∧
  ∀ c' r : Int, 0 ≤ r → r < m → Q (.int r) (upd H a (.lst [.int c', .bl b]))
theorem ok_law_choice (T : Txt K mg ca) (D : Def K mg "_law_choice" ["state", "many"] s_law_choice) : Known P w K mg base CX0 1 "_law_choice" ["state", "many"] (sp_law_choice K) := by
  refine D.known fun f fd F => F.ok sc_law_choice (fun vs H Q E h => ?_) (fun cdv A outer s H vs Q E hr h => ?_)
  · obtain ⟨_, _, _, _, rfl, _⟩ := h
    rfl
  · obtain ⟨a, c, m, b, rfl, hS, h0, h1, q⟩ := h
    have g0 : atI [V.int c, V.bl b] 0 = some (.int c) := atI_nat (j := 0) rfl
    have g1 : atI [V.int c, V.bl b] 1 = some (.bl b) := atI_nat (j := 1) rfl
    have hL : SqL K H a [V.int c, V.bl b] := SqL.of hS
    refine ⟨_, (pss_cons (ps_if (pt_val (pe_ix (ixL K) (pv 0) pe_int (fun _ _ => rfl)))
      (pss_cons (ps_set (i := 2) sc_law_choice.nd rfl (Or.inl rfl) (pe_op op_mod (pe_ix (ixL K) (pv 0) pe_int (fun _ _ => rfl)) (pv 1)))
      (pss_cons (ps_asg (pe_op op_fdiv (pe_ix (ixL K) (pv 0) pe_int (fun _ _ => rfl)) (pv 1)) (pg_sub (pv 0) pe_int set_list))
      (pss_one (ps_ret (pv 2)))))
      pss_nil)
      (pss_cons (ps_asg (pe_op op_mod (pe_op op_add (pe_op op_mul (pe_ix (ixL K) (pv 0) pe_int (fun _ _ => rfl)) pe_int) pe_int) pe_int) (pg_sub (pv 0) pe_int set_list))
      (pss_cons (ps_set (i := 3) sc_law_choice.nd rfl (Or.inl rfl) (pe_op op_mod (pe_op op_add (pe_op op_add (pe_op op_mul (pe_ix (ixL K) (pv 0) pe_int (fun _ _ => rfl)) (pe_ix (ixL K) (pv 0) pe_int (fun _ _ => rfl))) (pe_op op_mul pe_int (pe_ix (ixL K) (pv 0) pe_int (fun _ _ => rfl)))) pe_int) pe_int))
      (pss_one (ps_ret (pe_op op_mod (pe_op op_fdiv (pv 3) pe_int) (pv 1))))))), ?_⟩
    refine ⟨_, rfl, a, _, 1, _, rfl, rfl, hL, g1, _, rfl, ?_⟩
    cases b with
    | true =>
      refine iteT ?_
      refine ⟨_, rfl, a, _, 0, _, rfl, rfl, hL, g0, _, rfl, _, _, rfl, rfl, h0, ?_⟩
      refine ⟨_, rfl, a, _, 0, _, rfl, rfl, hL, g0, _, rfl, _, _, rfl, rfl, ⟨h0, by omega⟩, ?_⟩
      refine ⟨_, rfl, a, _, 0, 0, rfl, rfl, hS, rfl, ?_⟩
      exact ⟨_, rfl, q _ _ (Int.emod_nonneg _ (by omega)) (Int.emod_lt_of_pos _ h0)⟩
    | false =>
      refine iteF ?_
      have k1 : (-(2 ^ 64) : Int) < 48271 ∧ (48271 : Int) < 2 ^ 64 := by decide
      refine ⟨_, rfl, a, _, 0, _, rfl, rfl, hL, g0, _, _, rfl, rfl, .inr k1, _, _, rfl, rfl, _, _, rfl, rfl, (by decide : (0 : Int) < 2147483647), ?_⟩
      refine ⟨_, rfl, a, _, 0, 0, rfl, rfl, hS, rfl, ?_⟩
      have z0 : 0 ≤ (c * 48271 + 29) % 2147483647 := Int.emod_nonneg _ (by decide)
      have z1 : (c * 48271 + 29) % 2147483647 < 2147483647 := Int.emod_lt_of_pos _ (by decide)
      have hL' : SqL K (upd H a (.lst [V.int ((c * 48271 + 29) % 2147483647), V.bl false])) a [V.int ((c * 48271 + 29) % 2147483647), V.bl false] := SqL.of upd_same
      have g0' : atI [V.int ((c * 48271 + 29) % 2147483647), V.bl false] 0 = some (.int ((c * 48271 + 29) % 2147483647)) := atI_nat (j := 0) rfl
      have k2 : (-(2 ^ 64) : Int) < (c * 48271 + 29) % 2147483647 ∧ (c * 48271 + 29) % 2147483647 < 2 ^ 64 := ⟨by omega, by omega⟩
      refine ⟨_, rfl, a, _, 0, _, rfl, rfl, hL', g0', _, rfl, a, _, 0, _, rfl, rfl, hL', g0', _, _, rfl, rfl, .inl k2, ?_⟩
      refine ⟨_, rfl, a, _, 0, _, rfl, rfl, hL', g0', _, _, rfl, rfl, .inr k2, _, _, rfl, rfl, _, _, rfl, rfl, _, _, rfl, rfl, (by decide : (0 : Int) < 2147483629), ?_⟩
      refine ⟨_, rfl, _, _, rfl, rfl, ⟨by decide, by decide⟩, _, rfl, _, _, rfl, rfl, h0, ?_⟩
      exact q _ _ (Int.emod_nonneg _ (by omega)) (Int.emod_lt_of_pos _ h0)
end
end Pg

namespace Pg
open PySem L2
section
variable {P : Program} {w : World} {K : PySem.W.Frag} {mg : Str → Option Value} {base : Heap} {ca : CA}
abbrev s_law_walk : Stmt := topS 9
theorem sc_law_walk : FnScope ["cell", "points", "plain", "state", "walk", "height", "left", "some", "step"] ["cell", "points", "plain"] (defScope s_law_walk) := ⟨rfl, rfl, rfl, by decide +kernel, rfl, by decide +kernel, by decide +kernel⟩
/-- some walk of so many points -/
def sp_law_walk (K : PySem.W.Frag) : Sp := fun vs H Q _ => ∃ (c n : Int) (b : Bool), vs = [.int c, .int n, .bl b] ∧ 0 ≤ n ∧ n ≤ 60 ∧
  ∀ (ws : List Stp) (H' : Hp) (q : Addr), run 0 ws = some 0 → (ws.length : Int) = n → Same H H' → H q = none → H' q = some (.lst (ws.map Stp.v)) → Q (.ref q) H'
theorem ok_law_walk (T : Txt K mg ca) (D : Def K mg "_law_walk" ["cell", "points", "plain"] s_law_walk) (G_law_choice : Known P w K mg base CX0 1 "_law_choice" ["state", "many"] (sp_law_choice K)) : Known P w K mg base CX0 2 "_law_walk" ["cell", "points", "plain"] (sp_law_walk K) := by
  refine D.known fun f fd F => F.ok sc_law_walk (fun vs H Q E h => ?_) (fun cdv A outer s H vs Q E hr h => ?_)
  · obtain ⟨_, _, _, rfl, _⟩ := h
    rfl
  · obtain ⟨c, n, b, rfl, h0, h1, q⟩ := h
    refine ⟨_, (pss_cons (ps_set (i := 3) sc_law_walk.nd rfl (Or.inl rfl) (pe_lst (pa_cons (pv 0) (pa_cons (pv 2) pa_nil))))
      (Evl.pss_cut (ps_if (pt_not (pt_val (pv 2)))
      (pss_one (ps_asg (pe_op op_mod (pv 0) pe_int) (pg_sub (pv 3) pe_int set_list)))
      pss_nil)
      (pss_cons (ps_set (i := 4) sc_law_walk.nd rfl (Or.inl rfl) (pe_lst pa_nil))
      (pss_cons (ps_set (i := 5) sc_law_walk.nd rfl (Or.inl rfl) pe_int)
      (pss_cons (ps_for PassesOwn.never rfl (pi_range3 (by rfl) T.z_range (pa_cons (pe_op op_sub (pv 1) pe_int) (pa_cons (pe_un un_neg pe_int) (pa_cons (pe_un un_neg pe_int) pa_nil)))) (pg_name (i := 6) sc_law_walk.nd rfl (Or.inl rfl))
      (pss_cons (ps_set (i := 7) sc_law_walk.nd rfl (Or.inl rfl) (pe_listRg rfl (by rfl) T.z_list (prg_1 (by rfl) T.z_range (pv 5))))
      (Evl.pss_cut (ps_if (pt_cmpR op_le (pv 5) (pv 6) (nomark _))
      (pss_one (ps_expr (peM K PySem.F.plainAttrs_list PySem.F.slot_list_append PySem.F.type_list_append mt_append (pv 7) (pa_cons pe_str pa_nil))))
      pss_nil)
      (Evl.pss_cut (ps_if (pt_cmpR op_lt (pv 5) (pv 6) (nomark _))
      (pss_one (ps_expr (peM K PySem.F.plainAttrs_list PySem.F.slot_list_append PySem.F.type_list_append mt_append (pv 7) (pa_cons pe_str pa_nil))))
      pss_nil)
      (pss_cons (ps_set (i := 8) sc_law_walk.nd rfl (Or.inl rfl) (pe_ix (ixL K) (pv 7) (pe_kc G_law_choice (hr.mono (by decide)) (by rfl) pass0 (pa_cons (pv 3) (pa_cons (pe_callB (callLen K) (by rfl) T.z_len PySem.boot_len (pa_cons (pv 7) pa_nil)) pa_nil))) (fun _ _ => rfl)))
      (pss_cons (ps_expr (peM K PySem.F.plainAttrs_list PySem.F.slot_list_append PySem.F.type_list_append mt_append (pv 4) (pa_cons (pv 8) pa_nil)))
      (pss_one (ps_if (pt_cmpR op_eq (pv 8) pe_str (nomark _))
      (pss_one (ps_set (i := 5) sc_law_walk.nd rfl (Or.inl rfl) (pe_op op_add (pv 5) pe_int)))
      (pss_one (ps_if (pt_cmpR op_ne (pv 8) pe_str (nomark _))
      (pss_one (ps_set (i := 5) sc_law_walk.nd rfl (Or.inl rfl) (pe_op op_sub (pv 5) pe_int)))
      pss_nil))))))))))
      (pss_one (ps_ret (pv 4)))))))), ?_⟩
    -- state = [cell, plain]
    refine ⟨_, rfl, _, rfl, (by show 2 ≤ sizeLine; decide), fun a ha => ?_⟩
    -- if not plain
    refine ⟨fun σ' H' => ∃ c', σ' = [some (.int c), some (.int n), some (.bl b), some (.ref a), none, none, none, none, none] ∧ H' = upd H a (.lst [.int c', .bl b]), ?_, ?_⟩
    · refine ⟨_, rfl, _, rfl, ?_⟩
      cases b with
      | true => exact iteF ⟨c, rfl, rfl⟩
      | false =>
        refine iteT ?_
        refine ⟨_, rfl, _, _, rfl, rfl, (by decide : (0 : Int) < 2147483647), _, rfl, a, _, 0, 0, rfl, rfl, upd_same, rfl, ?_⟩
        exact ⟨c % 2147483647, rfl, upd_upd⟩
    rintro σ' H' ⟨c1, rfl, rfl⟩
    -- walk = []; height = 0
    refine ⟨Nat.zero_le _, fun w hw => ?_⟩
    have naw : a ≠ w := ne_of_none upd_same hw
    have hwH : H w = none := by
      rw [upd_ne (Ne.symm naw)] at hw
      exact hw
    -- for left in range(points - 1, -1, -1)
    refine ⟨_, rfl, _, _, rfl, rfl, _, rfl, _, rfl, n - 1, -1, -1, (n - 1 - -1).toNat, rfl, RgC.neg (by omega) (by omega) (by decide) (by decide), ?_⟩
    refine for_rangeC (fun i σ H' => ∃ (ws : List Stp) (h : Nat) (c' : Int) (x6 x7 x8 : Option V), σ = [some (.int c), some (.int n), some (.bl b), some (.ref a), some (.ref w), some (.int (h : Int)), x6, x7, x8] ∧ run 0 ws = some h ∧ (h : Int) + i ≤ n ∧ ws.length = i ∧
      Same H H' ∧ H' a = some (.lst [.int c', .bl b]) ∧ H' w = some (.lst (ws.map Stp.v))) ?_ ?_ ?_
    · refine ⟨[], 0, c1, none, none, none, rfl, rfl, by simpa using h0, rfl, ?_, ?_, upd_same⟩
      · exact (sm_new ha).trans (sm_new hw)
      · rw [upd_ne naw, upd_same]
    · rintro i σ H' hi ⟨ws, h, c', x6, x7, x8, rfl, hrun, hle, hlen, hs, hA, hW⟩
      have hi' : (i : Int) < n := by omega
      -- some = list(range(height))
      refine ⟨_, rfl, _, rfl, ⟨by decide, by decide, by omega, by omega, by omega⟩, fun o ho => ?_⟩
      have nao : a ≠ o := ne_of_none hA ho
      have nwo : w ≠ o := ne_of_none hW ho
      let opts : List Stp := (List.range h).map Stp.num ++ ((if (h : Int) ≤ n - 1 + i * -1 then [.lone] else []) ++ (if (h : Int) < n - 1 + i * -1 then [.opn] else []))
      refine ⟨fun σ' H2 => σ' = [some (.int c), some (.int n), some (.bl b), some (.ref a), some (.ref w), some (.int (h : Int)), some (.int (n - 1 + i * -1)), some (.ref o), x8] ∧
        H2 = upd H' o (.lst (((List.range h).map Stp.num ++ (if (h : Int) ≤ n - 1 + i * -1 then [Stp.lone] else [])).map Stp.v)), ?_, ?_⟩
      · have e0 : rgV 0 (h : Int) = ((List.range h).map Stp.num).map Stp.v := by
          unfold rgV
          rw [List.map_map]
          have : ((h : Int) - 0).toNat = h := by omega
          rw [this]
          refine List.map_congr_left fun j _ => ?_
          show V.int (0 + (j : Int)) = V.int (j : Int)
          rw [Int.zero_add]
        refine ⟨_, rfl, _, rfl, _, _, rfl, rfl, _, rfl, ite2 (fun e => ?_) (fun e => ?_)⟩
        · have e1 := of_decide_eq_true e
          refine ⟨_, rfl, .inl ⟨rfl, _, SqL.of upd_same⟩, o, _, _, rfl, rfl, upd_same, szl (by rw [rgV_length]; omega), rfl, ?_⟩
          rw [upd_upd, if_pos e1, List.map_append, ← e0]
          rfl
        · have e1 : ¬ (h : Int) ≤ n - 1 + i * -1 := fun z => e (decide_eq_true z)
          refine ⟨rfl, ?_⟩
          rw [if_neg e1, List.append_nil, ← e0]
      rintro σ' H2 ⟨rfl, rfl⟩
      refine ⟨fun σ' H2 => σ' = [some (.int c), some (.int n), some (.bl b), some (.ref a), some (.ref w), some (.int (h : Int)), some (.int (n - 1 + i * -1)), some (.ref o), x8] ∧
        H2 = upd H' o (.lst (opts.map Stp.v)), ?_, ?_⟩
      · refine ⟨_, rfl, _, rfl, _, _, rfl, rfl, _, rfl, ite2 (fun e => ?_) (fun e => ?_)⟩
        · have e1 := of_decide_eq_true e
          refine ⟨_, rfl, .inl ⟨rfl, _, SqL.of upd_same⟩, o, _, _, rfl, rfl, upd_same, szl ?_, rfl, ?_⟩
          · rw [List.length_map, List.length_append, List.length_map, List.length_range]
            split <;> simp <;> omega
          · rw [upd_upd]
            show _ = upd H' o (.lst (List.map Stp.v ((List.range h).map Stp.num ++ (_ ++ _))))
            rw [if_pos e1, ← List.append_assoc, List.map_append (l₂ := [Stp.opn])]
            rfl
        · have e1 : ¬ (h : Int) < n - 1 + i * -1 := fun z => e (decide_eq_true z)
          refine ⟨rfl, ?_⟩
          show _ = upd H' o (.lst (List.map Stp.v ((List.range h).map Stp.num ++ (_ ++ _))))
          rw [if_neg e1, List.append_nil]
      rintro σ' H2 ⟨rfl, rfl⟩
      have hno : 0 < opts.length := by
        show 0 < ((List.range h).map Stp.num ++ (_ ++ _)).length
        by_cases z : h = 0
        · rw [if_pos (by omega)]
          simp
          omega
        · rw [List.length_append, List.length_map, List.length_range]
          omega
      have hno2 : opts.length ≤ 62 := by
        show ((List.range h).map Stp.num ++ (_ ++ _)).length ≤ 62
        rw [List.length_append, List.length_map, List.length_range, List.length_append]
        split <;> split <;> simp <;> omega
      -- step = some[_law_choice(state, len(some))]
      refine ⟨_, rfl, _, rfl, _, rfl, o, _, rfl, .inl (SqL.of upd_same), a, c', _, b, rfl, by rw [upd_ne nao]; exact hA, ?_, ?_, fun c2 r hr0 hr1 => ?_⟩
      · rw [List.length_map]; omega
      · rw [List.length_map]; omega
      rw [List.length_map] at hr1
      have hr2 : r.toNat < opts.length := by omega
      have hat : (opts.map Stp.v)[r.toNat]? = some (opts[r.toNat]).v := by rw [List.getElem?_map, List.getElem?_eq_getElem hr2]; rfl
      have ho2 : (upd (upd H' o (.lst (opts.map Stp.v))) a (.lst [.int c2, .bl b])) o = some (.lst (opts.map Stp.v)) := by rw [upd_ne (Ne.symm nao), upd_same]
      refine ⟨o, _, r, _, rfl, rfl, SqL.of ho2, at_of (j := r.toNat) (by omega) hat, ?_⟩
      have hW2 : (upd (upd H' o (.lst (opts.map Stp.v))) a (.lst [.int c2, .bl b])) w = some (.lst (ws.map Stp.v)) := by rw [upd_ne (Ne.symm naw), upd_ne nwo]; exact hW
      -- walk.append(step)
      refine ⟨_, rfl, .inl ⟨rfl, _, SqL.of hW2⟩, _, rfl, w, _, _, rfl, rfl, hW2, szl (by rw [List.length_map, hlen]; omega), ?_⟩
      have hmem : opts[r.toNat] ∈ opts := List.getElem_mem hr2
      have fin : ∀ (h2 : Nat) x6 x7 x8, run 0 (ws ++ [opts[r.toNat]]) = some h2 → (h2 : Int) + ((i + 1 : Nat) : Int) ≤ n → ∃ (ws2 : List Stp) (h : Nat) (c' : Int) (y6 y7 y8 : Option V), [some (V.int c), some (.int n), some (.bl b), some (.ref a), some (.ref w), some (.int (h2 : Int)), x6, x7, x8] =
          [some (V.int c), some (.int n), some (.bl b), some (.ref a), some (.ref w), some (.int (h : Int)), y6, y7, y8] ∧ run 0 ws2 = some h ∧ (h : Int) + ((i + 1 : Nat) : Int) ≤ n ∧ ws2.length = i + 1 ∧
          Same H (upd (upd (upd H' o (.lst (opts.map Stp.v))) a (.lst [.int c2, .bl b])) w (.lst (ws.map Stp.v ++ [(opts[r.toNat]).v]))) ∧
          (upd (upd (upd H' o (.lst (opts.map Stp.v))) a (.lst [.int c2, .bl b])) w (.lst (ws.map Stp.v ++ [(opts[r.toNat]).v]))) a = some (.lst [.int c', .bl b]) ∧
          (upd (upd (upd H' o (.lst (opts.map Stp.v))) a (.lst [.int c2, .bl b])) w (.lst (ws.map Stp.v ++ [(opts[r.toNat]).v]))) w = some (.lst (ws2.map Stp.v)) := fun h2 x6 x7 x8 r1 r2 =>
        ⟨ws ++ [opts[r.toNat]], h2, c2, x6, x7, x8, rfl, r1, r2, by rw [List.length_append, hlen]; rfl, sm_mut (sm_mut (hs.trans (sm_new ho)) ha) hwH, by rw [upd_ne naw, upd_same], by rw [upd_same, List.map_append]; rfl⟩
      revert fin
      generalize opts[r.toNat] = st at hmem ⊢
      intro fin
      cases st with
      | lone =>
        refine ⟨_, rfl, rfl, _, rfl, iteF ?_⟩
        refine ⟨_, rfl, rfl, _, rfl, iteF ?_⟩
        have hc : (h : Int) ≤ n - 1 + i * -1 := by
          rcases List.mem_append.mp hmem with m | m
          · obtain ⟨_, _, z⟩ := List.mem_map.mp m
            cases z
          · by_cases z : (h : Int) ≤ n - 1 + i * -1
            · exact z
            · rw [if_neg z, if_neg (by omega)] at m
              cases m
        exact fin h _ _ _ (run_lone hrun) (by omega)
      | opn =>
        refine ⟨_, rfl, rfl, _, rfl, iteT ?_⟩
        have hc : (h : Int) < n - 1 + i * -1 := by
          rcases List.mem_append.mp hmem with m | m
          · obtain ⟨_, _, z⟩ := List.mem_map.mp m
            cases z
          · by_cases z : (h : Int) < n - 1 + i * -1
            · exact z
            · rw [if_neg z] at m
              split at m <;> simp at m
        refine ⟨_, rfl, _, _, rfl, rfl, ?_⟩
        exact fin (h + 1) _ _ _ (run_opn hrun) (by omega)
      | num k =>
        refine ⟨_, rfl, rfl, _, rfl, iteF ?_⟩
        refine ⟨_, rfl, rfl, _, rfl, iteT ?_⟩
        have hk : k < h := by
          rcases List.mem_append.mp hmem with m | m
          · obtain ⟨j, hj, z⟩ := List.mem_map.mp m
            cases z
            exact List.mem_range.mp hj
          · exfalso
            split at m <;> split at m <;> simp at m
        refine ⟨_, rfl, _, _, rfl, rfl, ?_⟩
        have e : (h : Int) - 1 = ((h - 1 : Nat) : Int) := by omega
        have g := fin (h - 1) (some (.int (n - 1 + i * -1))) (some (.ref o)) (some (.int (k : Int))) (run_num hrun hk) (by omega)
        rw [← e] at g
        exact g
    · rintro σ H' ⟨ws, h, c', x6, x7, x8, rfl, hrun, hle, hlen, hs, hA, hW⟩
      have hz : h = 0 := by omega
      subst hz
      exact ⟨_, rfl, q ws H' w hrun (by omega) hs hwH hW⟩
end
end Pg

namespace Pg
open PySem L2
section
variable {P : Program} {w : World} {K : PySem.W.Frag} {mg : Str → Option Value} {base : Heap} {ca : CA}
abbrev s_law_points : Stmt := topS 11
theorem sc_law_points : FnScope ["cell", "most"] ["cell", "most"] (defScope s_law_points) := ⟨rfl, rfl, rfl, by decide +kernel, rfl, by decide +kernel, by decide +kernel⟩
def sp_law_points (K : PySem.W.Frag) : Sp := fun vs H Q _ => ∃ (c m : Int), vs = [.int c, .int m] ∧ 0 ≤ m ∧ m ≤ 60 ∧ ∀ n : Int, 0 ≤ n → n ≤ 60 → Q (.int n) H
theorem ok_law_points (T : Txt K mg ca) (D : Def K mg "_law_points" ["cell", "most"] s_law_points) : Known P w K mg base CX0 1 "_law_points" ["cell", "most"] (sp_law_points K) := by
  refine D.known fun f fd F => F.ok sc_law_points (fun vs H Q E h => ?_) (fun cdv A outer s H vs Q E hr h => ?_)
  · obtain ⟨_, _, rfl, _⟩ := h
    rfl
  · obtain ⟨c, m, rfl, h0, h1, q⟩ := h
    refine ⟨_, (pss_cons (ps_if (pt_cmpR op_eq (pe_op op_mod (pe_op op_fdiv (pv 0) pe_int) pe_int) pe_int (nomark _))
      (pss_one (ps_ret (pe_op op_mod (pe_op op_fdiv (pv 0) pe_int) pe_int)))
      pss_nil)
      (pss_one (ps_ret (pe_op op_mod (pv 0) (pe_op op_add (pv 1) pe_int))))), ?_⟩
    refine ⟨_, rfl, _, _, rfl, rfl, ⟨by decide, by decide⟩, _, _, rfl, rfl, (by decide : (0 : Int) < 8), rfl, _, rfl, ite2 (fun _ => ?_) (fun _ => ?_)⟩
    · refine ⟨_, rfl, _, _, rfl, rfl, ⟨by decide, by decide⟩, _, _, rfl, rfl, (by decide : (0 : Int) < 61), ?_⟩
      have a1 := Int.emod_nonneg (c / 512) (by decide : (61 : Int) ≠ 0)
      have a2 := Int.emod_lt_of_pos (c / 512) (by decide : (0 : Int) < 61)
      exact q _ a1 (by omega)
    · have hm : (0 : Int) < m + 1 := by omega
      refine ⟨_, rfl, _, rfl, _, _, rfl, rfl, _, _, rfl, rfl, hm, ?_⟩
      have a1 := Int.emod_nonneg c (by omega : (m + 1 : Int) ≠ 0)
      have a2 := Int.emod_lt_of_pos c hm
      exact q _ a1 (by omega)
end
end Pg

namespace Pg
open PySem L2
section
variable {P : Program} {w : World} {K : PySem.W.Frag} {mg : Str → Option Value} {base : Heap} {ca : CA}
abbrev s_law_drawn : Stmt := topS 12
theorem sc_law_drawn : FnScope ["script", "start", "most", "cell"] ["script", "start", "most"] (defScope s_law_drawn) := ⟨rfl, rfl, rfl, by decide +kernel, rfl, by decide +kernel, by decide +kernel⟩
/-- some walk -/
def sp_law_drawn (K : PySem.W.Frag) : Sp := fun vs H Q _ => ∃ (a : Addr) (ns : List Int) (k m : Int), vs = [.ref a, .int k, .int m] ∧ SqL K H a (ns.map V.int) ∧ 0 ≤ k ∧ 0 ≤ m ∧ m ≤ 60 ∧
  ∀ (ws : List Stp) (H' : Hp) (q : Addr), run 0 ws = some 0 → ws.length ≤ 60 → Same H H' → H q = none → H' q = some (.lst (ws.map Stp.v)) → Q (.ref q) H'
theorem ok_law_drawn (T : Txt K mg ca) (D : Def K mg "_law_drawn" ["script", "start", "most"] s_law_drawn) (G_law_cell_at : Known P w K mg base CX0 1 "_law_cell_at" ["script", "k"] (sp_law_cell_at K)) (G_law_walk : Known P w K mg base CX0 2 "_law_walk" ["cell", "points", "plain"] (sp_law_walk K)) (G_law_points : Known P w K mg base CX0 1 "_law_points" ["cell", "most"] (sp_law_points K)) : Known P w K mg base CX0 3 "_law_drawn" ["script", "start", "most"] (sp_law_drawn K) := by
  refine D.known fun f fd F => F.ok sc_law_drawn (fun vs H Q E h => ?_) (fun cdv A outer s H vs Q E hr h => ?_)
  · obtain ⟨_, _, _, _, rfl, _⟩ := h
    rfl
  · obtain ⟨a, ns, k, m, rfl, hS, hk, h0, h1, q⟩ := h
    refine ⟨_, (pss_cons (ps_set (i := 3) sc_law_drawn.nd rfl (Or.inl rfl) (pe_kc G_law_cell_at (hr.mono (by decide)) (by rfl) pass0 (pa_cons (pv 0) (pa_cons (pv 1) pa_nil))))
      (pss_one (ps_ret (pe_kc G_law_walk (hr.mono (by decide)) (by rfl) pass0 (pa_cons (pe_kc G_law_cell_at (hr.mono (by decide)) (by rfl) pass0 (pa_cons (pv 0) (pa_cons (pe_op op_add (pv 1) pe_int) pa_nil))) (pa_cons (pe_kc G_law_points (hr.mono (by decide)) (by rfl) pass0 (pa_cons (pv 3) (pa_cons (pv 2) pa_nil))) (pa_cons (pe_cmpR op_eq (pe_op op_mod (pe_op op_fdiv (pv 3) pe_int) pe_int) pe_int (nomark _)) pa_nil))))))), ?_⟩
    refine ⟨_, rfl, _, rfl, a, ns, k, rfl, hS, hk, ?_⟩
    refine ⟨_, rfl, _, rfl, _, _, rfl, rfl, a, ns, k + 1, rfl, hS, by omega, ?_⟩
    refine ⟨_, rfl, _, rfl, _, m, rfl, h0, h1, fun n n0 n1 => ?_⟩
    refine ⟨_, rfl, _, _, rfl, rfl, ⟨by decide, by decide⟩, _, _, rfl, rfl, (by decide : (0 : Int) < 2), rfl, ?_⟩
    exact ⟨_, n, _, rfl, n0, n1, fun ws H' p r1 r2 r3 r4 r5 => q ws H' p r1 (by omega) r3 r4 r5⟩
end
end Pg

namespace Pg
open PySem L2
section
variable {P : Program} {w : World} {K : PySem.W.Frag} {mg : Str → Option Value} {base : Heap} {ca : CA}
abbrev s_cross : Stmt := topS 1
theorem sc_cross : FnScope ["one", "other"] ["one", "other"] (defScope s_cross) := ⟨rfl, rfl, rfl, by decide +kernel, rfl, by decide +kernel, by decide +kernel⟩
def sp_cross (K : PySem.W.Frag) : Sp := fun vs H Q _ => ∃ (v u : V) (p q : Pr), vs = [v, u] ∧ PairAt H v p ∧ PairAt H u q ∧ Q (.bl (crossB p q)) H
theorem ok_cross (T : Txt K mg ca) (D : Def K mg "cross" ["one", "other"] s_cross) : Known P w K mg base CX0 1 "cross" ["one", "other"] (sp_cross K) := by
  refine D.known fun f fd F => F.ok sc_cross (fun vs H Q E h => ?_) (fun cdv A outer s H vs Q E hr h => ?_)
  · obtain ⟨_, _, _, _, rfl, _⟩ := h
    rfl
  · obtain ⟨v, u, p, q, rfl, ⟨a, rfl, ha⟩, ⟨b, rfl, hb⟩, k⟩ := h
    have a0 : atI [V.int p.1, V.int p.2] 0 = some (.int p.1) := atI_nat (j := 0) rfl
    have a1 : atI [V.int p.1, V.int p.2] 1 = some (.int p.2) := atI_nat (j := 1) rfl
    have b0 : atI [V.int q.1, V.int q.2] 0 = some (.int q.1) := atI_nat (j := 0) rfl
    have b1 : atI [V.int q.1, V.int q.2] 1 = some (.int q.2) := atI_nat (j := 1) rfl
    refine ⟨_, (pss_one (ps_ret (pe_and (pe_cmpR op_lt (pe_ix (ixT K) (pv 1) pe_int (fun _ _ => rfl)) (pe_ix (ixT K) (pv 0) pe_int (fun _ _ => rfl)) (nomark _)) (pe_one (pe_cmpR op_lt (pe_ix (ixT K) (pv 0) pe_int (fun _ _ => rfl)) (pe_ix (ixT K) (pv 1) pe_int (fun _ _ => rfl)) (nomark _)))))), ?_⟩
    refine ⟨_, rfl, b, _, 0, _, rfl, rfl, SqT.of hb, b0, _, rfl, a, _, 1, _, rfl, rfl, SqT.of ha, a1, _, _, rfl, rfl, _, rfl, ?_⟩
    unfold crossB at k
    by_cases c : q.1 < p.2
    · rw [decide_eq_true c] at k ⊢
      exact ⟨_, rfl, a, _, 1, _, rfl, rfl, SqT.of ha, a1, _, rfl, b, _, 1, _, rfl, rfl, SqT.of hb, b1, _, _, rfl, rfl, k⟩
    · rw [decide_eq_false c] at k ⊢
      exact k
end
end Pg

namespace Pg
open PySem L2
section
variable {P : Program} {w : World} {K : PySem.W.Frag} {mg : Str → Option Value} {base : Heap} {ca : CA}
abbrev s_hang : Stmt := topS 3
theorem sc_hang : FnScope ["one", "other"] ["one", "other"] (defScope s_hang) := ⟨rfl, rfl, rfl, by decide +kernel, rfl, by decide +kernel, by decide +kernel⟩
def sp_hang (K : PySem.W.Frag) : Sp := fun vs H Q _ => ∃ (v u : V) (p q : Pr), vs = [v, u] ∧ PairAt H v p ∧ PairAt H u q ∧ Q (.bl (adjB p q)) H
theorem ok_hang (T : Txt K mg ca) (D : Def K mg "hang" ["one", "other"] s_hang) (G_cross : Known P w K mg base CX0 1 "cross" ["one", "other"] (sp_cross K)) : Known P w K mg base CX0 2 "hang" ["one", "other"] (sp_hang K) := by
  refine D.known fun f fd F => F.ok sc_hang (fun vs H Q E h => ?_) (fun cdv A outer s H vs Q E hr h => ?_)
  · obtain ⟨_, _, _, _, rfl, _⟩ := h
    rfl
  · obtain ⟨v, u, p, q, rfl, hp, hq, k⟩ := h
    obtain ⟨a, rfl, ha⟩ := hp
    obtain ⟨b, rfl, hb⟩ := hq
    have a0 : atI [V.int p.1, V.int p.2] 0 = some (.int p.1) := atI_nat (j := 0) rfl
    have b0 : atI [V.int q.1, V.int q.2] 0 = some (.int q.1) := atI_nat (j := 0) rfl
    unfold adjB at k
    refine ⟨_, (pss_one (ps_ret (pe_or (pe_and (pe_kc G_cross (hr.mono (by decide)) (by rfl) pass0 (pa_cons (pv 0) (pa_cons (pv 1) pa_nil))) (pe_one (pe_cmpR op_lt (pe_ix (ixT K) (pv 0) pe_int (fun _ _ => rfl)) (pe_ix (ixT K) (pv 1) pe_int (fun _ _ => rfl)) (nomark _)))) (pe_one (pe_and (pe_kc G_cross (hr.mono (by decide)) (by rfl) pass0 (pa_cons (pv 1) (pa_cons (pv 0) pa_nil))) (pe_one (pe_cmpR op_lt (pe_ix (ixT K) (pv 1) pe_int (fun _ _ => rfl)) (pe_ix (ixT K) (pv 0) pe_int (fun _ _ => rfl)) (nomark _)))))))), ?_⟩
    refine ⟨_, rfl, _, rfl, .ref a, .ref b, p, q, rfl, ⟨a, rfl, ha⟩, ⟨b, rfl, hb⟩, _, rfl, ?_⟩
    cases e1 : crossB p q with
    | false =>
      rw [e1, Bool.false_and, Bool.false_or] at k
      refine iteF ⟨_, rfl, iteF ?_⟩
      refine ⟨_, rfl, _, rfl, .ref b, .ref a, q, p, rfl, ⟨b, rfl, hb⟩, ⟨a, rfl, ha⟩, _, rfl, ?_⟩
      cases e2 : crossB q p with
      | false =>
        rw [e2, Bool.false_and] at k
        exact iteF k
      | true =>
        rw [e2, Bool.true_and] at k
        exact iteT ⟨_, rfl, b, _, 0, _, rfl, rfl, SqT.of hb, b0, _, rfl, a, _, 0, _, rfl, rfl, SqT.of ha, a0, _, _, rfl, rfl, k⟩
    | true =>
      rw [e1, Bool.true_and] at k
      refine iteT ⟨_, rfl, a, _, 0, _, rfl, rfl, SqT.of ha, a0, _, rfl, b, _, 0, _, rfl, rfl, SqT.of hb, b0, _, _, rfl, rfl, _, rfl, ?_⟩
      by_cases c : p.1 < q.1
      · rw [decide_eq_true c] at k ⊢
        exact iteT k
      · rw [decide_eq_false c, Bool.false_or] at k
        rw [decide_eq_false c]
        refine iteF ?_
        refine ⟨_, rfl, _, rfl, .ref b, .ref a, q, p, rfl, ⟨b, rfl, hb⟩, ⟨a, rfl, ha⟩, _, rfl, ?_⟩
        cases e2 : crossB q p with
        | false =>
          rw [e2, Bool.false_and] at k
          exact iteF k
        | true =>
          rw [e2, Bool.true_and] at k
          exact iteT ⟨_, rfl, b, _, 0, _, rfl, rfl, SqT.of hb, b0, _, rfl, a, _, 0, _, rfl, rfl, SqT.of ha, a0, _, _, rfl, rfl, k⟩
end
end Pg

namespace Pg
open PySem L2
section
variable {P : Program} {w : World} {K : PySem.W.Frag} {mg : Str → Option Value} {base : Heap} {ca : CA}
abbrev s_tangles : Stmt := topS 4
theorem sc_tangles : FnScope ["pairing", "left", "found", "tangle", "at", "near", "pair"] ["pairing"] (defScope s_tangles) := ⟨rfl, rfl, rfl, by decide +kernel, rfl, by decide +kernel, by decide +kernel⟩
/-- the tangles, new lists -/
def sp_tangles (K : PySem.W.Frag) : Sp := fun vs H Q _ => ∃ (v : V) (n : Int) (ps : List Pr), vs = [v] ∧ PairingAt H v n ps ∧ Ris ps ∧ ps.length ≤ 1000 ∧
  ∀ (H' : Hp) (p : Addr) (xs : List V) (F : List (List Pr)), Same H H' → H p = none → H' p = some (.lst xs) → Paired (RowFr H H' p) xs F → TInv ps F [] → Q (.ref p) H'
theorem ok_tangles (T : Txt K mg ca) (D : Def K mg "tangles" ["pairing"] s_tangles) (G_hang : Known P w K mg base CX0 2 "hang" ["one", "other"] (sp_hang K)) : Known P w K mg base CX0 3 "tangles" ["pairing"] (sp_tangles K) := by
  refine D.known fun f fd F => F.ok sc_tangles (fun vs H Q E h => ?_) (fun cdv A outer s H vs Q E hr h => ?_)
  · obtain ⟨_, _, _, rfl, _⟩ := h
    rfl
  · obtain ⟨v, n, ps, rfl, ⟨a, b, xs, rfl, h1, h2, h3⟩, hris, hl, q⟩ := h
    have nd := ris_nodup hris
    have hlen := paired_length h3
    refine ⟨_, (pss_cons (ps_set (i := 1) sc_tangles.nd rfl (Or.inl rfl) (pe_callTy (callLst K) (by rfl) T.z_list (by decide +kernel) (pa_cons (pe_ix (ixT K) (pv 0) pe_int (fun _ _ => rfl)) pa_nil)))
      (pss_cons (ps_set (i := 2) sc_tangles.nd rfl (Or.inl rfl) (pe_lst pa_nil))
      (pss_cons (ps_while PassesOwn.never (pt_cmpR op_gt (pe_callB (callLen K) (by rfl) T.z_len PySem.boot_len (pa_cons (pv 1) pa_nil)) pe_int (nomark _))
      (pss_cons (ps_set (i := 3) sc_tangles.nd rfl (Or.inr rfl) (pe_lst (pa_cons (peM K PySem.F.plainAttrs_list PySem.F.slot_list_pop PySem.F.type_list_pop mt_popAt (pv 1) (pa_cons pe_int pa_nil)) pa_nil)))
      (pss_cons (ps_set (i := 4) sc_tangles.nd rfl (Or.inr rfl) pe_int)
      (pss_cons (ps_while PassesOwn.never (pt_cmpR op_lt (pv 4) (pe_callB (callLen K) (by rfl) T.z_len PySem.boot_len (pa_cons (pv 3) pa_nil)) (nomark _))
      (pss_cons (ps_set (i := 5) sc_tangles.nd rfl (Or.inr rfl) (pe_lc (own := [("pair", 6)]) (g := gName 6) (tt := _) rfl sc_tangles.nd (piL K (pv 1)) (blkOk_by (N := ["pairing", "left", "found", "tangle", "at", "near", "pair"]) (sc := defScope s_tangles) (by decide +kernel)) (fun _ _ _ _ _ => (pg_name (i := 6) sc_tangles.nd rfl (Or.inl rfl))) (fun _ _ _ _ _ => (pts_one (pt_val (pe_kc G_hang (hr.mono (by decide)) (by rfl) pass0 (pa_cons (pe_ix (ixL K) (pv 3) (pv 4) (fun _ _ => rfl)) (pa_cons (pv 6) pa_nil)))))) (fun _ _ _ _ _ => (pv 6))))
      (pss_cons (ps_expr (peM K PySem.F.plainAttrs_list PySem.F.slot_list_extend PySem.F.type_list_extend mt_extend (pv 3) (pa_cons (pv 5) pa_nil)))
      (pss_cons (ps_setLc (i := 1) (own := [("pair", 6)]) (g := gName 6) (tt := _) rfl sc_tangles.nd rfl rfl (sw_true rfl rfl rfl (by decide +kernel)) (piL K (pv 1)) (blkOk_by (N := ["pairing", "left", "found", "tangle", "at", "near", "pair"]) (sc := defScope s_tangles) (by decide +kernel)) (fun _ _ _ _ _ => (pg_name (i := 6) sc_tangles.nd rfl (Or.inl rfl))) (fun _ _ _ _ _ => (pts_one (pt_cmpR (ninLD K (Room.u65 hr)) (pv 6) (pv 5) rfl))) (fun _ _ _ _ _ => (pv 6)))
      (pss_one (ps_set (i := 4) sc_tangles.nd rfl (Or.inr rfl) (pe_op op_add (pv 4) pe_int)))))))
      (pss_one (ps_expr (peM K PySem.F.plainAttrs_list PySem.F.slot_list_append PySem.F.type_list_append mt_append (pv 2) (pa_cons (pe_callB (cr_sortedPP K) (by rfl) T.z_sorted (by decide +kernel) (pa_cons (pv 3) pa_nil)) pa_nil))))))))
      (pss_one (ps_ret (pv 2)))))), ?_⟩
    -- left = list(pairing[1])
    refine ⟨_, rfl, a, _, 1, _, rfl, rfl, SqT.of h1, atI_nat (j := 1) rfl, b, _, rfl, .inr (SqT.of h2), fun l0 hl0 => ?_⟩
    refine ⟨Nat.zero_le _, fun f hf => ?_⟩
    have hlH := sm_new (o := .lst xs) hl0
    have nlf : l0 ≠ f := ne_of_none upd_same hf
    have hfH : H f = none := hlH.free hf
    refine while_by (fun σ H' => ∃ (G : Hp) (lf : Addr) (ls ys : List V) (left : List Pr) (FF : List (List Pr)) (x3 x4 x5 x6 : Option V), σ = [some (.ref a), some (.ref lf), some (.ref f), x3, x4, x5, x6] ∧ Same H G ∧ Same G H' ∧ G f = none ∧ G lf = none ∧ lf ≠ f ∧
      H' lf = some (.lst ls) ∧ H' f = some (.lst ys) ∧ PairsAt H ls left ∧ Paired (RowG H G) ys FF ∧ TInv ps FF left ∧ FF.length + left.length ≤ ps.length) (fun σ H' => lenSlot 1 σ H') ?_ ?_ ?_
    · exact ⟨H, l0, xs, [], ps, [], none, none, none, none, rfl, Same.refl _, hlH.trans (sm_new hf), hfH, hl0, nlf, by rw [upd_ne nlf, upd_same], upd_same, h3, .nil, TInv.start hris, by show 0 + ps.length ≤ _; omega⟩
    · rintro σ H' ⟨G, lf, ls, ys, left, FF, x3, x4, x5, x6, rfl, sG, sH, gf, glf, nlf, hL, hF, hP, hR, hT, hcnt⟩
      have hll := paired_length hP
      refine ⟨_, rfl, lf, _, rfl, .inl (SqL.of hL), _, _, rfl, rfl, _, rfl, ?_⟩
      cases left with
      | nil =>
        cases hP
        refine iteF ?_
        refine ⟨_, rfl, q H' f ys FF (sG.trans sH) hfH hF ?_ hT⟩
        exact paired_mono (fun {v r} h => by
          obtain ⟨l, zs, rfl, g1, g2, g3⟩ := h
          exact ⟨l, zs, rfl, g1, ne_of_none g2 gf, sH _ _ g2, (g3.mono sG).mono sH⟩) hR
      | cons t0 rest =>
        cases hP with
        | cons hp0 hPr =>
        rename_i v0 lr
        have hlr := paired_length hPr
        rw [decide_eq_true (by show (0 : Int) < ((v0 :: lr).length : Nat); rw [List.length_cons]; omega)]
        refine iteT ?_
        have hrl : rest.length < ps.length := by
          rw [List.length_cons] at hcnt
          omega
        -- tangle = [left.pop(0)]
        refine ⟨_, rfl, .inl ⟨rfl, _, SqL.of hL⟩, lf, v0 :: lr, 0, 0, v0, rfl, rfl, hL, by decide, by decide, ?_, rfl, (by show 1 ≤ sizeLine; decide), fun tg htg => ?_⟩
        · exact (ixN_seq (ixn (n := (v0 :: lr).length) (i := 0) (j := 0) rfl (by rw [List.length_cons]; omega))).1
        have eE : (v0 :: lr).eraseIdx 0 = lr := rfl
        rw [eE] at htg ⊢
        have hL2 : (upd H' lf (.lst lr)) lf = some (.lst lr) := upd_same
        have ntl : lf ≠ tg := ne_of_none hL2 htg
        have hF2 : (upd H' lf (.lst lr)) f = some (.lst ys) := by
          rw [upd_ne (Ne.symm nlf)]
          exact hF
        have ntf : f ≠ tg := ne_of_none hF2 htg
        have htgH' : H' tg = none := by
          rw [upd_ne (Ne.symm ntl)] at htg
          exact htg
        have gtg : G tg = none := sH.free htgH'
        have sH2 : Same G (upd (upd H' lf (.lst lr)) tg (.lst [v0])) := (sm_mut sH glf).trans (sm_new htg)
        -- while at < len(tangle)
        refine while_by (fun σ H2 => ∃ (lf : Addr) (at' : Nat) (ls ts : List V) (lfp tl : List Pr) (x5 x6 : Option V), σ = [some (.ref a), some (.ref lf), some (.ref f), some (.ref tg), some (.int (at' : Int)), x5, x6] ∧ Same G H2 ∧ G lf = none ∧ lf ≠ f ∧ lf ≠ tg ∧
          H2 lf = some (.lst ls) ∧ H2 f = some (.lst ys) ∧ H2 tg = some (.lst ts) ∧ PairsAt H ls lfp ∧ PairsAt H ts tl ∧ NInv ps t0 rest tl lfp at' ∧ at' ≤ tl.length ∧ tl.length + lfp.length = rest.length + 1) (fun σ H2 => lenSlot 1 σ H2 + lenSlot 3 σ H2 - intSlot 4 σ) ?_ ?_ ?_
        · refine ⟨lf, 0, lr, [v0], rest, [t0], _, _, rfl, sH2, glf, nlf, ntl, ?_, ?_, upd_same, hPr, .cons hp0 .nil, NInv.start hT.ris, Nat.zero_le _, by show 1 + rest.length = _; omega⟩
          · rw [upd_ne ntl]
            exact hL2
          · rw [upd_ne ntf]
            exact hF2
        · rintro σ H2 ⟨lf, at', ls, ts, lfp, tl, x5, x6, rfl, s2, glf2, nlf2, nlt2, hL2, hF2, hT2, hPl, hPt, hN, hat, hsum⟩
          have htl := paired_length hPt
          have hlf := paired_length hPl
          refine ⟨_, rfl, _, rfl, tg, _, rfl, .inl (SqL.of hT2), _, _, rfl, rfl, _, rfl, ?_⟩
          have sH2' := sG.trans s2
          by_cases c : at' < tl.length
          · rw [decide_eq_true (by omega)]
            refine iteT ?_
            have hpt : tl[at']? = some tl[at'] := List.getElem?_eq_getElem c
            obtain ⟨vt, hvt, hpp⟩ := paired_get hPt hpt
            have ehang : ∀ x ∈ ls, ∃ p2, PairAt H x p2 ∧ prOf H x = p2 ∧ p2 ∈ lfp := fun x hx => by
              obtain ⟨y, hy, hya⟩ := paired_mem hPl hx
              exact ⟨y, hya, hya.of, hy⟩
            -- near = [pair for pair in left if hang(tangle[at], pair)]
            with_reducible refine sq (asg ?_)
            refine lcL (K := K) (a := lf) (xs := ls) (fun x => adjB tl[at'] (prOf H x)) id (fun Q q => ⟨_, rfl, q⟩) (SqL.of hL2) (by omega) (fun x => rfl) (fun x hx H3 s3 Q q => ?_) (fun x hx _ H3 s3 Q q => ⟨_, rfl, q⟩) fun nr hnr => ?_
            · obtain ⟨p2, h2a, h2b, _⟩ := ehang x hx
              rw [h2b] at q
              exact ⟨_, rfl, _, rfl, tg, _, _, _, rfl, rfl, SqL.of (s3 _ _ hT2), atI_nat hvt, _, rfl, vt, x, _, _, rfl, (hpp.mono sH2').mono s3, (h2a.mono sH2').mono s3, _, rfl, q⟩
            rw [List.map_id]
            have s3 := sm_new (o := .lst (ls.filter fun x => adjB tl[at'] (prOf H x))) hnr
            have hPn : PairsAt H (ls.filter fun x => adjB tl[at'] (prOf H x)) (lfp.filter (adjB tl[at'])) := filt_pairs _ hPl
            have hnl := paired_length hPn
            have hfl := List.length_filter_le (adjB tl[at']) lfp
            have hnrH := (s2.trans s3)
            have ntn : tg ≠ nr := ne_of_none hT2 hnr
            -- tangle.extend(near)
            refine ⟨_, rfl, .inl ⟨rfl, _, SqL.of (s3 _ _ hT2)⟩, _, rfl, tg, nr, ts, _, rfl, rfl, s3 _ _ hT2, upd_same, sz (by omega), ?_⟩
            have hL3 : (upd (upd H2 nr (.lst (ls.filter fun x => adjB tl[at'] (prOf H x)))) tg (.lst (ts ++ ls.filter fun x => adjB tl[at'] (prOf H x)))) lf = some (.lst ls) := by
              rw [upd_ne nlt2]
              exact s3 _ _ hL2
            have hNr3 : (upd (upd H2 nr (.lst (ls.filter fun x => adjB tl[at'] (prOf H x)))) tg (.lst (ts ++ ls.filter fun x => adjB tl[at'] (prOf H x)))) nr = some (.lst (ls.filter fun x => adjB tl[at'] (prOf H x))) := by
              rw [upd_ne (Ne.symm ntn), upd_same]
            have s4 : Same G (upd (upd H2 nr (.lst (ls.filter fun x => adjB tl[at'] (prOf H x)))) tg (.lst (ts ++ ls.filter fun x => adjB tl[at'] (prOf H x)))) := sm_mut hnrH gtg
            have s4H := sG.trans s4
            -- left = [pair for pair in left if pair not in near]
            with_reducible refine sq (asg ?_)
            refine lcL (K := K) (a := lf) (xs := ls) (fun x => !adjB tl[at'] (prOf H x)) id (fun Q q => ⟨_, rfl, q⟩) (SqL.of hL3) (by omega) (fun x => rfl) (fun x hx H5 s5 Q q => ?_) (fun x hx _ H5 s5 Q q => ⟨_, rfl, q⟩) fun l2 hl2 => ?_
            · obtain ⟨p2, h2a, h2b, h2c⟩ := ehang x hx
              refine ⟨_, rfl, _, rfl, prD p2, (lfp.filter (adjB tl[at'])).map prD, ((h2a.mono s4H).mono s5).dp, .lst (SqL.of (s5 _ _ hNr3)) (((hPn.mono s4H).mono s5).dp), (shp_prD p2).shaped, (shp_lsD _).shaped, _, rfl, ?_⟩
              have e : (((lfp.filter (adjB tl[at'])).map prD).any fun z => PyData.eqv z (prD p2)) = adjB tl[at'] p2 := pairs_any_filter h2c
              rw [e]
              rw [h2b] at q
              exact q
            rw [List.map_id]
            have s6 := sm_new (o := .lst (ls.filter fun x => !adjB tl[at'] (prOf H x))) hl2
            have s6G := s4.trans s6
            have gl2 : G l2 = none := s4.free hl2
            have hPl2 : PairsAt H (ls.filter fun x => !adjB tl[at'] (prOf H x)) (lfp.filter fun q => !adjB tl[at'] q) := filt_pairs (fun q => !adjB tl[at'] q) hPl
            have hF4 : (upd (upd H2 nr (.lst (ls.filter fun x => adjB tl[at'] (prOf H x)))) tg (.lst (ts ++ ls.filter fun x => adjB tl[at'] (prOf H x)))) f = some (.lst ys) := by
              rw [upd_ne ntf]
              exact s3 _ _ hF2
            have hT4 : (upd (upd H2 nr (.lst (ls.filter fun x => adjB tl[at'] (prOf H x)))) tg (.lst (ts ++ ls.filter fun x => adjB tl[at'] (prOf H x)))) tg = some (.lst (ts ++ ls.filter fun x => adjB tl[at'] (prOf H x))) := upd_same
            have hsplit : (lfp.filter (adjB tl[at'])).length + (lfp.filter fun q => !adjB tl[at'] q).length = lfp.length := by
              have e := (List.filter_append_perm (adjB tl[at']) lfp).length_eq
              rw [List.length_append] at e
              exact e
            have hls2 := paired_length hPl2
            refine ⟨_, rfl, _, _, rfl, rfl, ?_⟩
            refine ⟨⟨l2, at' + 1, _, _, _, _, _, _, rfl, s6G, gl2, (ne_of_none hF4 hl2).symm, (ne_of_none hT4 hl2).symm, upd_same, s6 _ _ hF4, s6 _ _ hT4, hPl2, paired_append hPt hPn, hN.step (fun q m => hT.perm.mem_iff.mp (List.mem_append.mpr (.inr m))) hpt, by rw [List.length_append]; omega, by rw [List.length_append]; omega⟩, ?_⟩
            refine meas_step rfl hL2 rfl hT2 rfl rfl upd_same rfl (s6 _ _ hT4) rfl ?_
            rw [List.length_append]
            omega
          · rw [decide_eq_false (by omega)]
            refine iteF ?_
            have hPt2 : PairsAt H2 ts tl := hPt.mono sH2'
            -- found.append(sorted(tangle))
            refine ⟨_, rfl, .inl ⟨rfl, _, SqL.of hF2⟩, _, rfl, tg, ts, tl, rfl, SqL.of hT2, hPt2, fun zs p hz hzp hpn => ?_⟩
            have sp' := sm_new (o := .lst zs) hpn
            have hyl := paired_length hR
            have htl1 : 1 ≤ tl.length := by
              cases tl with
              | nil => exact absurd hN.head (by intro z; cases z)
              | cons _ _ => rw [List.length_cons]; omega
            have gp : G p = none := s2.free hpn
            have npf : f ≠ p := ne_of_none hF2 hpn
            have nlp : lf ≠ p := ne_of_none hL2 hpn
            refine ⟨f, ys, _, rfl, rfl, sp' _ _ hF2, szl (by rw [List.length_cons] at hcnt; omega), ?_⟩
            refine ⟨⟨upd G p (.lst zs), lf, ls, ys ++ [.ref p], lfp, FF ++ [sortP tl], _, _, _, _, rfl, sG.trans (sm_new gp), sm_mut (sm_upd s2) (by rw [upd_ne npf]; exact gf), by rw [upd_ne npf]; exact gf, by rw [upd_ne nlp]; exact glf2, nlf2, ?_, upd_same, hPl, ?_, hN.finish nd hT (by omega), ?_⟩, ?_⟩
            · rw [upd_ne nlf2]
              exact sp' _ _ hL2
            · refine paired_push (paired_mono (fun {v r} h => ?_) hR) ⟨p, zs, rfl, sH2'.free hpn, upd_same, ?_⟩
              · obtain ⟨l, zs, rfl, g1, g2, g3⟩ := h
                exact ⟨l, zs, rfl, g1, sm_new gp _ _ g2, g3⟩
              · refine pairs_back sH2' (fun y hy => ?_) hz
                obtain ⟨q, _, hq⟩ := paired_mem hPt (hzp.mem_iff.mp hy)
                exact ⟨q, hq⟩
            · rw [List.length_append]
              rw [List.length_cons] at hcnt
              show FF.length + 1 + lfp.length ≤ ps.length
              omega
            · refine meas1_step rfl hL rfl (by rw [upd_ne nlf2]; exact sp' _ _ hL2) ?_
              rw [List.length_cons]
              omega
        · rintro σ H Q Q' k ⟨x, hx, y, hy, p, ys, e1, hs, i, j, e2, e3, b, hb, q⟩
          exact ⟨x, hx, y, hy, p, ys, e1, hs, i, j, e2, e3, b, hb, k _ _ q⟩
    · rintro σ H Q Q' k ⟨y, hy, p, ys, e1, hs, i, j, e2, e3, b, hb, q⟩
      exact ⟨y, hy, p, ys, e1, hs, i, j, e2, e3, b, hb, k _ _ q⟩
end
end Pg

namespace Pg
open PySem L2
section
variable {P : Program} {w : World} {K : PySem.W.Frag} {mg : Str → Option Value} {base : Heap} {ca : CA}
abbrev s_law_is_rows : Stmt := topS 17
theorem sc_law_is_rows : FnScope ["found", "pairing", "row", "pair"] ["found", "pairing"] (defScope s_law_is_rows) := ⟨rfl, rfl, rfl, by decide +kernel, rfl, by decide +kernel, by decide +kernel⟩
/-- lists of pairs of a pairing, none empty -/
def sp_law_is_rows (K : PySem.W.Frag) : Sp := fun vs H Q _ => ∃ (l : Addr) (u : V) (n : Int) (ps : List Pr) (xs : List V) (rows : List (List Pr)), vs = [.ref l, u] ∧ PairingAt H u n ps ∧ H l = some (.lst xs) ∧ Paired (RowsAt H) xs rows ∧
  (∀ r ∈ rows, r ≠ [] ∧ ∀ p ∈ r, p ∈ ps) ∧ Q (.bl true) H
theorem ok_law_is_rows (T : Txt K mg ca) (D : Def K mg "_law_is_rows" ["found", "pairing"] s_law_is_rows) : Known P w K mg base CX0 1 "_law_is_rows" ["found", "pairing"] (sp_law_is_rows K) := by
  refine D.known fun f fd F => F.ok sc_law_is_rows (fun vs H Q E h => ?_) (fun cdv A outer s H vs Q E hr h => ?_)
  · obtain ⟨_, _, _, _, _, _, rfl, _⟩ := h
    rfl
  · obtain ⟨l, u, n, ps, xs, rows, rfl, hu, hx, hR, hg, q⟩ := h
    obtain ⟨a, b, us, rfl, h1, h2, h3⟩ := hu
    refine ⟨_, (pss_cons (ps_if (pt_not (pt_val (pe_callB (callIsi K) (by rfl) T.z_isinstance (by decide +kernel) (pa_cons (pv 0) (pa_cons (pe_bltn (v := .ty "list") (by rfl) T.z_list (by decide +kernel) rfl) pa_nil)))))
      (pss_one (ps_ret pe_bl))
      pss_nil)
      (pss_cons (ps_for PassesOwn.never rfl (piL K (pv 0)) (pg_name (i := 2) sc_law_is_rows.nd rfl (Or.inl rfl))
      (pss_cons (ps_if (PW.pt (pw_or (pt_not (pt_val (pe_callB (callIsi K) (by rfl) T.z_isinstance (by decide +kernel) (pa_cons (pv 2) (pa_cons (pe_bltn (v := .ty "list") (by rfl) T.z_list (by decide +kernel) rfl) pa_nil))))) (pw_or1 (pt_cmpR op_eq (pe_callB (callLen K) (by rfl) T.z_len PySem.boot_len (pa_cons (pv 2) pa_nil)) pe_int (nomark _)))))
      (pss_one (ps_ret pe_bl))
      pss_nil)
      (pss_one (ps_for PassesOwn.never rfl (piL K (pv 2)) (pg_name (i := 3) sc_law_is_rows.nd rfl (Or.inl rfl))
      (pss_one (ps_if (PW.pt (pw_or (pt_not (pt_val (pe_callB (callIsi K) (by rfl) T.z_isinstance (by decide +kernel) (pa_cons (pv 3) (pa_cons (pe_bltn (v := .ty "tuple") (by rfl) T.z_tuple (by decide +kernel) rfl) pa_nil))))) (pw_or1 (pt_cmpR (ninTupD K (Room.u65 hr)) (pv 3) (pe_ix (ixT K) (pv 1) pe_int (fun _ _ => rfl)) rfl))))
      (pss_one (ps_ret pe_bl))
      pss_nil))))))
      (pss_one (ps_ret pe_bl)))), ?_⟩
    refine ⟨_, rfl, .ref l, .ty "list", .type "list", .type "list", true, rfl, .ty _, .base (.lst hx), kit_ty (by decide +kernel), _, rfl, iteF ?_⟩
    refine ⟨_, rfl, l, rfl, ⟨_, SqL.of hx⟩, ?_⟩
    refine for_list (K := K) (a := l) (xs := xs) (fun i σ H' => ∃ x2 x3, σ = [some (.ref l), some (.ref a), x2, x3] ∧ H' = H) ⟨none, none, rfl, rfl⟩ (fun i σ H' _ ⟨_, _, _, e⟩ => by rw [e]; exact SqL.of hx) ?_ ?_
    · rintro i x σ H' hxi ⟨x2, x3, rfl, rfl⟩
      obtain ⟨r, hr1, lr, rs, rfl, hlr, hrs⟩ := paired_get' hR hxi
      obtain ⟨hne, hmem⟩ := hg r (List.mem_of_getElem? hr1)
      have hrl := paired_length hrs
      have hpos : 0 < r.length := List.length_pos_iff.mpr hne
      refine ⟨_, rfl, .ref lr, .ty "list", .type "list", .type "list", true, rfl, .ty _, .base (.lst hlr), kit_ty (by decide +kernel), _, rfl, iteF ?_⟩
      refine ⟨_, rfl, lr, _, rfl, .inl (SqL.of hlr), rfl, _, rfl, ?_⟩
      rw [dint, decide_eq_false (by omega)]
      refine iteF ?_
      refine ⟨_, rfl, lr, rfl, ⟨_, SqL.of hlr⟩, ?_⟩
      refine for_list (K := K) (a := lr) (xs := rs) (fun j σ H'' => ∃ x3, σ = [some (.ref l), some (.ref a), some (.ref lr), x3] ∧ H'' = H') ⟨x3, rfl, rfl⟩ (fun i σ H' _ ⟨_, _, e⟩ => by rw [e]; exact SqL.of hlr) ?_ ?_
      · rintro j y σ H'' hy ⟨x3, rfl, rfl⟩
        obtain ⟨p, hp, t, rfl, ht⟩ := paired_get' hrs hy
        have hpm := hmem p (List.mem_of_getElem? hp)
        refine ⟨_, rfl, .ref t, .ty "tuple", .type "tuple", .type "tuple", true, rfl, .ty _, .base (.tup ht), kit_ty (by decide +kernel), _, rfl, iteF ?_⟩
        have dpp : PairAt H'' (.ref t) p := ⟨t, rfl, ht⟩
        refine ⟨_, rfl, _, rfl, a, _, 1, _, rfl, rfl, SqT.of h1, atI_nat (j := 1) rfl, prD p, ps.map prD, dpp.dp, .tup (SqT.of h2) h3.dp, (shp_prD p).shaped, (shp_prsD ps).shaped, _, rfl, ?_⟩
        rw [pairs_any hpm]
        exact iteF ⟨_, rfl, rfl⟩
      · rintro σ H'' ⟨x3, rfl, rfl⟩
        exact ⟨_, _, rfl, rfl⟩
    · rintro σ H' ⟨x2, x3, rfl, rfl⟩
      exact q
end
end Pg

namespace Pg
open PySem L2
section
variable {P : Program} {w : World} {K : PySem.W.Frag} {mg : Str → Option Value} {base : Heap} {ca : CA}
abbrev s_law : Stmt := topS 19
theorem sc_law : FnScope ["script", "pairing", "due", "turn", "found", "row"] ["script"] (defScope s_law) := ⟨rfl, rfl, rfl, by decide +kernel, rfl, by decide +kernel, by decide +kernel⟩
def sp_law (K : PySem.W.Frag) : Sp := fun vs H Q _ => ∃ (a : Addr) (ns : List Int), vs = [.ref a] ∧ SqL K H a (ns.map V.int) ∧ ns.length ≤ 63 ∧ ∀ H', Q (.bl true) H'
theorem ok_law {f : Addr} {fd : FuncData} (T : Txt K mg ca) (F : Fun K "law" "law" s_law f fd) (G_law_of_walk : Known P w K mg base CX0 1 "_law_of_walk" ["walk"] (sp_law_of_walk K)) (G_law_tangles : Known P w K mg base CX0 2 "_law_tangles" ["pairing"] (sp_law_tangles K)) (G_law_drawn : Known P w K mg base CX0 3 "_law_drawn" ["script", "start", "most"] (sp_law_drawn K)) (G_tangles : Known P w K mg base CX0 3 "tangles" ["pairing"] (sp_tangles K)) (G_law_is_rows : Known P w K mg base CX0 1 "_law_is_rows" ["found", "pairing"] (sp_law_is_rows K)) : FnOk P w K mg base CX0 4 f fd ["script"] (sp_law K) := by
  refine F.ok sc_law (fun vs H Q E h => ?_) (fun cdv A outer s H vs Q E hr h => ?_)
  · obtain ⟨_, _, rfl, _⟩ := h
    rfl
  · obtain ⟨a, ns, rfl, hS, hlen, q⟩ := h
    refine ⟨_, (pss_cons (ps_set (i := 1) sc_law.nd rfl (Or.inl rfl) (pe_kc G_law_of_walk (hr.mono (by decide)) (by rfl) pass0 (pa_cons (pe_kc G_law_drawn (hr.mono (by decide)) (by rfl) pass0 (pa_cons (pv 0) (pa_cons pe_int (pa_cons pe_int pa_nil)))) pa_nil)))
      (pss_cons (ps_set (i := 2) sc_law.nd rfl (Or.inl rfl) (pe_kc G_law_tangles (hr.mono (by decide)) (by rfl) pass0 (pa_cons (pv 1) pa_nil)))
      (pss_cons (ps_for PassesOwn.never rfl (pi_range1 (by rfl) T.z_range (pa_cons pe_int pa_nil)) (pg_name (i := 3) sc_law.nd rfl (Or.inl rfl))
      (pss_cons (ps_set (i := 4) sc_law.nd rfl (Or.inl rfl) (pe_kc G_tangles (hr.mono (by decide)) (by rfl) pass0 (pa_cons (pv 1) pa_nil)))
      (pss_cons (ps_if (PW.pt (pw_or (pt_not (pt_val (pe_kc G_law_is_rows (hr.mono (by decide)) (by rfl) pass0 (pa_cons (pv 4) (pa_cons (pv 1) pa_nil))))) (pw_or1 (pt_cmpR (neD K hr.units) (pv 4) (pv 2) (nomark _)))))
      (pss_one (ps_ret pe_bl))
      pss_nil)
      (pss_cons (ps_for PassesOwn.never rfl (piL K (pv 4)) (pg_name (i := 5) sc_law.nd rfl (Or.inl rfl))
      (pss_one (ps_expr (peM0 K PySem.F.plainAttrs_list PySem.F.slot_list_clear PySem.F.type_list_clear mt_clear (pv 5)))))
      (pss_one (ps_expr (peM K PySem.F.plainAttrs_list PySem.F.slot_list_append PySem.F.type_list_append mt_append (pv 4) (pa_cons (pe_lst pa_nil) pa_nil))))))))
      (pss_one (ps_ret pe_bl))))), ?_⟩
    refine ⟨_, rfl, a, ns, 0, 12, rfl, hS, by decide, by decide, by decide, fun ws H1 w1 hrun hlw s1 _ hw1 => ?_⟩
    refine ⟨w1, ws, 0, rfl, SqL.of hw1, hrun, by omega, fun H2 v s2 hp => ?_⟩
    have hl := prs_len ws
    obtain ⟨n, hn⟩ : ∃ n : Int, (ws.length : Int) = n := ⟨_, rfl⟩
    rw [hn] at hp
    have hris : Ris (prs ws) := srp_ris (sortP_sorted (clo 0 [] ws)) (prs_nodup hrun)
    revert hl hp hris
    generalize prs ws = ps
    intro hl hp hris
    have nd := ris_nodup hris
    refine ⟨_, rfl, v, n, ps, rfl, hp, hris, by omega, fun H3 d dx rows s3 hd hdp hTang => ?_⟩
    refine ⟨2, rfl, by decide, by decide, ?_⟩
    refine for_range (lo := 0) (n := (2 : Int).toNat) (fun i σ H' => ∃ x3 x4 x5, σ = [some (.ref a), some v, some (.ref d), x3, x4, x5] ∧ Same H3 H') ⟨none, none, none, rfl, Same.refl _⟩ ?_ ?_
    · rintro i σ H' hi ⟨x3, x4, x5, rfl, hs⟩
      refine ⟨_, rfl, v, n, ps, rfl, (hp.mono s3).mono hs, hris, by omega, fun H4 p xs F s4 hpn hxs hF hTI => ?_⟩
      have hFT := hTI.tang
      have eFs : F.map sortP = F := map_sorted hTI.srt
      have hp4 := ((hp.mono s3).mono hs).mono s4
      have hrows : Paired (RowsAt H4) xs F := paired_mono (fun q => q.row) hF
      have hsub : ∀ r ∈ F, r ≠ [] ∧ ∀ p ∈ r, p ∈ ps := fun r m => ⟨hTI.ne r m, fun p hp => hFT.perm.mem_iff.mp (List.mem_flatten.mpr ⟨r, m, hp⟩)⟩
      have hperm : F.Perm (rows.map sortP) := by
        have e := tang_uniq nd hFT hTang
        rw [eFs] at e
        exact e
      rw [rows_sorted hTI.asc hTI.ne hperm] at hdp
      refine ⟨_, rfl, _, rfl, p, v, n, ps, xs, F, rfl, hp4, hxs, hrows, hsub, _, rfl, iteF ?_⟩
      have sD := hs.trans s4
      refine ⟨_, rfl, _, rfl, .list (F.map encR), .list (F.map encR), .lst (SqL.of hxs) (rows_dp hrows), .lst (SqL.of (sD _ _ hd)) (rows_dp (paired_mono (fun q => q.mono sD) hdp)), (shp_rowsD F).shaped, (shp_rowsD F).shaped, _, rfl, ?_⟩
      rw [(shp_rowsD F).refl]
      refine iteF ?_
      have hH3p : H' p = none := hpn
      -- for row in found: row.clear()
      refine ⟨_, rfl, p, rfl, ⟨_, SqL.of hxs⟩, ?_⟩
      refine for_list (K := K) (a := p) (xs := xs) (fun j σ H5 => ∃ x5, σ = [some (.ref a), some v, some (.ref d), some (.int (0 + (i : Int))), some (.ref p), x5] ∧ Same H' H5 ∧ H5 p = some (.lst xs) ∧ ∀ x ∈ xs, ∃ (l : Addr) (zs : List V), x = .ref l ∧ H' l = none ∧ l ≠ p ∧ H5 l = some (.lst zs)) ?_ (fun j σ H5 _ ⟨_, _, _, e, _⟩ => SqL.of e) ?_ ?_
      · refine ⟨x5, rfl, s4, hxs, fun x m => ?_⟩
        obtain ⟨r, _, l, zs, rfl, g1, g2, g3, _⟩ := paired_mem hF m
        exact ⟨l, zs, rfl, g1, g2, g3⟩
      · rintro j x σ H5 hx ⟨x5, rfl, s5, hx5, hall⟩
        obtain ⟨l, zs, rfl, g1, g2, g3⟩ := hall x (List.mem_of_getElem? hx)
        refine ⟨_, rfl, .inl ⟨rfl, _, SqL.of g3⟩, l, _, rfl, rfl, g3, ?_⟩
        refine ⟨_, rfl, sm_mut s5 g1, by rw [upd_ne (Ne.symm g2)]; exact hx5, fun y m => ?_⟩
        obtain ⟨l', zs', rfl, k1, k2, k3⟩ := hall y m
        by_cases e : l' = l
        · subst e
          exact ⟨l', [], rfl, k1, k2, upd_same⟩
        · exact ⟨l', zs', rfl, k1, k2, by rw [upd_ne e]; exact k3⟩
      · rintro σ H5 ⟨x5, rfl, s5, hx5, _⟩
        have hxl := paired_length hF
        have hFl : F.length ≤ 1000 := by
          have := (LInv.few (ps := ps) (rows := F) ⟨hFT.perm, hFT.ne, hFT.conn⟩)
          omega
        refine ⟨_, rfl, .inl ⟨rfl, _, SqL.of hx5⟩, Nat.zero_le _, fun e he => ?_⟩
        refine ⟨p, xs, _, rfl, rfl, sm_new he _ _ hx5, szl (by omega), ?_⟩
        exact ⟨_, _, _, rfl, sm_mut ((hs.trans s5).trans (sm_new he)) (hs.free hH3p)⟩
    · rintro σ H' ⟨x3, x4, x5, rfl, hs⟩
      exact q _
end
end Pg

namespace Pg
open PySem L2
theorem def_mk {K : PySem.W.Frag} {mg : Str → Option Value} {h : Heap} (X : K.In h) (G : h.Ns mainGlobals mg) {x : Str} {st : Stmt} {ps : List Str} {f : Addr} {oc : Value} {od an : Option Addr} {osl : Array (Option Value)} {kV doc pm cdv ct : Value}
    (a : PySem.W.nsIn K mainGlobals x = some (some (.ref f))) (l : K.lookup f = some ⟨oc, od, .func (PySem.W.fnOf x x (defArgs st) (defBody st) (defScope st) .none kV doc pm an cdv ct), osl⟩) (c : PySem.W.codeIn K cdv x = true) (k : PySem.W.keepIn K (.ref f) = true)
    (b : ∀ (kV doc pm : Value) (an : Option Addr) (cdv ct : Value) (us : List Value), us.length = ps.length → bindArgs (PySem.W.fnOf x x (defArgs st) (defBody st) (defScope st) .none kV doc pm an cdv ct) ⟨us, []⟩ = pure (ps.zip us)) : Def K mg x ps st :=
  ⟨f, _, PySem.W.mg_of X G a, (fun_mk l c k).binds b, fun_mk l c k⟩
theorem all_mk {l : PySem.W.OpenLaw} {w : World} {K : PySem.W.Frag} {h : Heap} {mg : Str → Option Value} {fa f0 f1 f2 f3 f4 f5 f6 f7 f8 f9 f10 f11 f12 : Addr} {od0 an0 : Option Addr} {sl0 : Array (Option Value)} {oc0 kV0 dc0 pm0 cd0 ct0 : Value} {od1 an1 : Option Addr} {sl1 : Array (Option Value)} {oc1 kV1 dc1 pm1 cd1 ct1 : Value} {od2 an2 : Option Addr} {sl2 : Array (Option Value)} {oc2 kV2 dc2 pm2 cd2 ct2 : Value} {od3 an3 : Option Addr} {sl3 : Array (Option Value)} {oc3 kV3 dc3 pm3 cd3 ct3 : Value} {od4 an4 : Option Addr} {sl4 : Array (Option Value)} {oc4 kV4 dc4 pm4 cd4 ct4 : Value} {od5 an5 : Option Addr} {sl5 : Array (Option Value)} {oc5 kV5 dc5 pm5 cd5 ct5 : Value} {od6 an6 : Option Addr} {sl6 : Array (Option Value)} {oc6 kV6 dc6 pm6 cd6 ct6 : Value} {od7 an7 : Option Addr} {sl7 : Array (Option Value)} {oc7 kV7 dc7 pm7 cd7 ct7 : Value} {od8 an8 : Option Addr} {sl8 : Array (Option Value)} {oc8 kV8 dc8 pm8 cd8 ct8 : Value} {od9 an9 : Option Addr} {sl9 : Array (Option Value)} {oc9 kV9 dc9 pm9 cd9 ct9 : Value} {od10 an10 : Option Addr} {sl10 : Array (Option Value)} {oc10 kV10 dc10 pm10 cd10 ct10 : Value} {od11 an11 : Option Addr} {sl11 : Array (Option Value)} {oc11 kV11 dc11 pm11 cd11 ct11 : Value} {od12 an12 : Option Addr} {sl12 : Array (Option Value)} {oc12 kV12 dc12 pm12 cd12 ct12 : Value} (X : K.In h) (G : h.Ns mainGlobals mg) (hfa : mg "law" = some (.ref fa))
    (a0 : PySem.W.nsIn K mainGlobals "_law_of_walk" = some (some (.ref f0))) (l0 : K.lookup f0 = some ⟨oc0, od0, .func (PySem.W.fnOf "_law_of_walk" "_law_of_walk" (defArgs s_law_of_walk) (defBody s_law_of_walk) (defScope s_law_of_walk) .none kV0 dc0 pm0 an0 cd0 ct0), sl0⟩) (c0 : PySem.W.codeIn K cd0 "_law_of_walk" = true) (k0 : PySem.W.keepIn K (.ref f0) = true)
    (a1 : PySem.W.nsIn K mainGlobals "_law_cross" = some (some (.ref f1))) (l1 : K.lookup f1 = some ⟨oc1, od1, .func (PySem.W.fnOf "_law_cross" "_law_cross" (defArgs s_law_cross) (defBody s_law_cross) (defScope s_law_cross) .none kV1 dc1 pm1 an1 cd1 ct1), sl1⟩) (c1 : PySem.W.codeIn K cd1 "_law_cross" = true) (k1 : PySem.W.keepIn K (.ref f1) = true)
    (a2 : PySem.W.nsIn K mainGlobals "_law_tangles" = some (some (.ref f2))) (l2 : K.lookup f2 = some ⟨oc2, od2, .func (PySem.W.fnOf "_law_tangles" "_law_tangles" (defArgs s_law_tangles) (defBody s_law_tangles) (defScope s_law_tangles) .none kV2 dc2 pm2 an2 cd2 ct2), sl2⟩) (c2 : PySem.W.codeIn K cd2 "_law_tangles" = true) (k2 : PySem.W.keepIn K (.ref f2) = true)
    (a3 : PySem.W.nsIn K mainGlobals "_law_cell_at" = some (some (.ref f3))) (l3 : K.lookup f3 = some ⟨oc3, od3, .func (PySem.W.fnOf "_law_cell_at" "_law_cell_at" (defArgs s_law_cell_at) (defBody s_law_cell_at) (defScope s_law_cell_at) .none kV3 dc3 pm3 an3 cd3 ct3), sl3⟩) (c3 : PySem.W.codeIn K cd3 "_law_cell_at" = true) (k3 : PySem.W.keepIn K (.ref f3) = true)
    (a4 : PySem.W.nsIn K mainGlobals "_law_choice" = some (some (.ref f4))) (l4 : K.lookup f4 = some ⟨oc4, od4, .func (PySem.W.fnOf "_law_choice" "_law_choice" (defArgs s_law_choice) (defBody s_law_choice) (defScope s_law_choice) .none kV4 dc4 pm4 an4 cd4 ct4), sl4⟩) (c4 : PySem.W.codeIn K cd4 "_law_choice" = true) (k4 : PySem.W.keepIn K (.ref f4) = true)
    (a5 : PySem.W.nsIn K mainGlobals "_law_walk" = some (some (.ref f5))) (l5 : K.lookup f5 = some ⟨oc5, od5, .func (PySem.W.fnOf "_law_walk" "_law_walk" (defArgs s_law_walk) (defBody s_law_walk) (defScope s_law_walk) .none kV5 dc5 pm5 an5 cd5 ct5), sl5⟩) (c5 : PySem.W.codeIn K cd5 "_law_walk" = true) (k5 : PySem.W.keepIn K (.ref f5) = true)
    (a6 : PySem.W.nsIn K mainGlobals "_law_points" = some (some (.ref f6))) (l6 : K.lookup f6 = some ⟨oc6, od6, .func (PySem.W.fnOf "_law_points" "_law_points" (defArgs s_law_points) (defBody s_law_points) (defScope s_law_points) .none kV6 dc6 pm6 an6 cd6 ct6), sl6⟩) (c6 : PySem.W.codeIn K cd6 "_law_points" = true) (k6 : PySem.W.keepIn K (.ref f6) = true)
    (a7 : PySem.W.nsIn K mainGlobals "_law_drawn" = some (some (.ref f7))) (l7 : K.lookup f7 = some ⟨oc7, od7, .func (PySem.W.fnOf "_law_drawn" "_law_drawn" (defArgs s_law_drawn) (defBody s_law_drawn) (defScope s_law_drawn) .none kV7 dc7 pm7 an7 cd7 ct7), sl7⟩) (c7 : PySem.W.codeIn K cd7 "_law_drawn" = true) (k7 : PySem.W.keepIn K (.ref f7) = true)
    (a8 : PySem.W.nsIn K mainGlobals "cross" = some (some (.ref f8))) (l8 : K.lookup f8 = some ⟨oc8, od8, .func (PySem.W.fnOf "cross" "cross" (defArgs s_cross) (defBody s_cross) (defScope s_cross) .none kV8 dc8 pm8 an8 cd8 ct8), sl8⟩) (c8 : PySem.W.codeIn K cd8 "cross" = true) (k8 : PySem.W.keepIn K (.ref f8) = true)
    (a9 : PySem.W.nsIn K mainGlobals "hang" = some (some (.ref f9))) (l9 : K.lookup f9 = some ⟨oc9, od9, .func (PySem.W.fnOf "hang" "hang" (defArgs s_hang) (defBody s_hang) (defScope s_hang) .none kV9 dc9 pm9 an9 cd9 ct9), sl9⟩) (c9 : PySem.W.codeIn K cd9 "hang" = true) (k9 : PySem.W.keepIn K (.ref f9) = true)
    (a10 : PySem.W.nsIn K mainGlobals "tangles" = some (some (.ref f10))) (l10 : K.lookup f10 = some ⟨oc10, od10, .func (PySem.W.fnOf "tangles" "tangles" (defArgs s_tangles) (defBody s_tangles) (defScope s_tangles) .none kV10 dc10 pm10 an10 cd10 ct10), sl10⟩) (c10 : PySem.W.codeIn K cd10 "tangles" = true) (k10 : PySem.W.keepIn K (.ref f10) = true)
    (a11 : PySem.W.nsIn K mainGlobals "_law_is_rows" = some (some (.ref f11))) (l11 : K.lookup f11 = some ⟨oc11, od11, .func (PySem.W.fnOf "_law_is_rows" "_law_is_rows" (defArgs s_law_is_rows) (defBody s_law_is_rows) (defScope s_law_is_rows) .none kV11 dc11 pm11 an11 cd11 ct11), sl11⟩) (c11 : PySem.W.codeIn K cd11 "_law_is_rows" = true) (k11 : PySem.W.keepIn K (.ref f11) = true)
    (a12 : PySem.W.nsIn K mainGlobals "law" = some (some (.ref f12))) (l12 : K.lookup f12 = some ⟨oc12, od12, .func (PySem.W.fnOf "law" "law" (defArgs s_law) (defBody s_law) (defScope s_law) .none kV12 dc12 pm12 an12 cd12 ct12), sl12⟩) (c12 : PySem.W.codeIn K cd12 "law" = true) (k12 : PySem.W.keepIn K (.ref f12) = true)
    (z_isinstance : PySem.W.nsIn K mainGlobals "isinstance" = some none)
    (z_len : PySem.W.nsIn K mainGlobals "len" = some none)
    (z_list : PySem.W.nsIn K mainGlobals "list" = some none)
    (z_range : PySem.W.nsIn K mainGlobals "range" = some none)
    (z_sorted : PySem.W.nsIn K mainGlobals "sorted" = some none)
    (z_tuple : PySem.W.nsIn K mainGlobals "tuple" = some none) :
    ∃ fd : FuncData, (∀ (s : Shared) (v : Value), BindsTo s fd ⟨[v], []⟩ [("script", v)]) ∧ ∀ base : Heap, K.In base → base.Ns mainGlobals mg → FnOk l.prog w K mg base CX0 4 fa fd ["script"] (sp_law K) := by
  have e := hfa.symm.trans (PySem.W.mg_of X G a12)
  cases e
  have D_law_of_walk : Def K mg "_law_of_walk" ["walk"] s_law_of_walk := def_mk X G a0 l0 c0 k0 fun _ _ _ _ _ _ us hl => match us, hl with | [_], _ => rfl
  have D_law_cross : Def K mg "_law_cross" ["one", "other"] s_law_cross := def_mk X G a1 l1 c1 k1 fun _ _ _ _ _ _ us hl => match us, hl with | [_, _], _ => rfl
  have D_law_tangles : Def K mg "_law_tangles" ["pairing"] s_law_tangles := def_mk X G a2 l2 c2 k2 fun _ _ _ _ _ _ us hl => match us, hl with | [_], _ => rfl
  have D_law_cell_at : Def K mg "_law_cell_at" ["script", "k"] s_law_cell_at := def_mk X G a3 l3 c3 k3 fun _ _ _ _ _ _ us hl => match us, hl with | [_, _], _ => rfl
  have D_law_choice : Def K mg "_law_choice" ["state", "many"] s_law_choice := def_mk X G a4 l4 c4 k4 fun _ _ _ _ _ _ us hl => match us, hl with | [_, _], _ => rfl
  have D_law_walk : Def K mg "_law_walk" ["cell", "points", "plain"] s_law_walk := def_mk X G a5 l5 c5 k5 fun _ _ _ _ _ _ us hl => match us, hl with | [_, _, _], _ => rfl
  have D_law_points : Def K mg "_law_points" ["cell", "most"] s_law_points := def_mk X G a6 l6 c6 k6 fun _ _ _ _ _ _ us hl => match us, hl with | [_, _], _ => rfl
  have D_law_drawn : Def K mg "_law_drawn" ["script", "start", "most"] s_law_drawn := def_mk X G a7 l7 c7 k7 fun _ _ _ _ _ _ us hl => match us, hl with | [_, _, _], _ => rfl
  have D_cross : Def K mg "cross" ["one", "other"] s_cross := def_mk X G a8 l8 c8 k8 fun _ _ _ _ _ _ us hl => match us, hl with | [_, _], _ => rfl
  have D_hang : Def K mg "hang" ["one", "other"] s_hang := def_mk X G a9 l9 c9 k9 fun _ _ _ _ _ _ us hl => match us, hl with | [_, _], _ => rfl
  have D_tangles : Def K mg "tangles" ["pairing"] s_tangles := def_mk X G a10 l10 c10 k10 fun _ _ _ _ _ _ us hl => match us, hl with | [_], _ => rfl
  have D_law_is_rows : Def K mg "_law_is_rows" ["found", "pairing"] s_law_is_rows := def_mk X G a11 l11 c11 k11 fun _ _ _ _ _ _ us hl => match us, hl with | [_, _], _ => rfl
  have D_law : Def K mg "law" ["script"] s_law := def_mk X G a12 l12 c12 k12 fun _ _ _ _ _ _ us hl => match us, hl with | [_], _ => rfl
  have T : Txt K mg ⟨fa⟩ := ⟨PySem.W.mg_none_of X G z_isinstance, PySem.W.mg_none_of X G z_len, PySem.W.mg_none_of X G z_list, PySem.W.mg_none_of X G z_range, PySem.W.mg_none_of X G z_sorted, PySem.W.mg_none_of X G z_tuple⟩
  refine ⟨PySem.W.fnOf "law" "law" (defArgs s_law) (defBody s_law) (defScope s_law) .none kV12 dc12 pm12 an12 cd12 ct12, fun s v => .of_eq rfl, fun base _ _ => ?_⟩
  have G_law_of_walk := ok_law_of_walk (P := l.prog) (w := w) (base := base) T D_law_of_walk
  have G_law_cross := ok_law_cross (P := l.prog) (w := w) (base := base) T D_law_cross
  have G_law_tangles := ok_law_tangles (P := l.prog) (w := w) (base := base) T D_law_tangles G_law_cross
  have G_law_cell_at := ok_law_cell_at (P := l.prog) (w := w) (base := base) T D_law_cell_at
  have G_law_choice := ok_law_choice (P := l.prog) (w := w) (base := base) T D_law_choice
  have G_law_walk := ok_law_walk (P := l.prog) (w := w) (base := base) T D_law_walk G_law_choice
  have G_law_points := ok_law_points (P := l.prog) (w := w) (base := base) T D_law_points
  have G_law_drawn := ok_law_drawn (P := l.prog) (w := w) (base := base) T D_law_drawn G_law_cell_at G_law_walk G_law_points
  have G_cross := ok_cross (P := l.prog) (w := w) (base := base) T D_cross
  have G_hang := ok_hang (P := l.prog) (w := w) (base := base) T D_hang G_cross
  have G_tangles := ok_tangles (P := l.prog) (w := w) (base := base) T D_tangles G_hang
  have G_law_is_rows := ok_law_is_rows (P := l.prog) (w := w) (base := base) T D_law_is_rows
  exact ok_law T (fun_mk (st := s_law) l12 c12 k12) G_law_of_walk G_law_tangles G_law_drawn G_tangles G_law_is_rows
end Pg

open PySem PySem.W PyProof.Rows
set_option maxRecDepth 100000 in
set_option maxHeartbeats 0 in
theorem PySem.Challenge.cw_pairlings_k12_tangles_holds : PySem.Challenge.rw_pairlings_k12_tangles.Holds := by
  w_on; o_law; k_head; (case hw => w_witness2)
  k_fill
  refine L2.walk_of (l := PySem.Challenge.rw_pairlings_k12_tangles) (n := 63) (k := 4) (x := "script") (CX := fun _ => L2.CX0) (sp := fun w => Pg.sp_law _) rfl (by decide) rfl ⟨rfl, by decide, by decide⟩ (fun w h Y => PySem.W.kIn_of Y) ?F (fun _ _ a ns hl _ hS => ⟨a, ns, rfl, hS, hl, fun _ => rfl⟩) (fun _ _ _ _ _ h => h)
  case F =>
    intro w mg fa h KX G hmg
    refine' Pg.all_mk KX G hmg ?a0 ?l0 ?c0 ?k0 ?a1 ?l1 ?c1 ?k1 ?a2 ?l2 ?c2 ?k2 ?a3 ?l3 ?c3 ?k3 ?a4 ?l4 ?c4 ?k4 ?a5 ?l5 ?c5 ?k5 ?a6 ?l6 ?c6 ?k6 ?a7 ?l7 ?c7 ?k7 ?a8 ?l8 ?c8 ?k8 ?a9 ?l9 ?c9 ?k9 ?a10 ?l10 ?c10 ?k10 ?a11 ?l11 ?c11 ?k11 ?a12 ?l12 ?c12 ?k12 ?z_isinstance ?z_len ?z_list ?z_range ?z_sorted ?z_tuple
    (case a0 => k_is)
    (case l0 => k_is)
    (case c0 => k_is)
    (case k0 => k_is)
    (case a1 => k_is)
    (case l1 => k_is)
    (case c1 => k_is)
    (case k1 => k_is)
    (case a2 => k_is)
    (case l2 => k_is)
    (case c2 => k_is)
    (case k2 => k_is)
    (case a3 => k_is)
    (case l3 => k_is)
    (case c3 => k_is)
    (case k3 => k_is)
    (case a4 => k_is)
    (case l4 => k_is)
    (case c4 => k_is)
    (case k4 => k_is)
    (case a5 => k_is)
    (case l5 => k_is)
    (case c5 => k_is)
    (case k5 => k_is)
    (case a6 => k_is)
    (case l6 => k_is)
    (case c6 => k_is)
    (case k6 => k_is)
    (case a7 => k_is)
    (case l7 => k_is)
    (case c7 => k_is)
    (case k7 => k_is)
    (case a8 => k_is)
    (case l8 => k_is)
    (case c8 => k_is)
    (case k8 => k_is)
    (case a9 => k_is)
    (case l9 => k_is)
    (case c9 => k_is)
    (case k9 => k_is)
    (case a10 => k_is)
    (case l10 => k_is)
    (case c10 => k_is)
    (case k10 => k_is)
    (case a11 => k_is)
    (case l11 => k_is)
    (case c11 => k_is)
    (case k11 => k_is)
    (case a12 => k_is)
    (case l12 => k_is)
    (case c12 => k_is)
    (case k12 => k_is)
    (case z_isinstance => k_is)
    (case z_len => k_is)
    (case z_list => k_is)
    (case z_range => k_is)
    (case z_sorted => k_is)
    (case z_tuple => k_is)
