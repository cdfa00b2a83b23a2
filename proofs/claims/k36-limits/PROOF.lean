import PyProof.Rows.All
import Wide.All
import OpenK.AllK
import Wide.FinOn
import HandS.ForMost
import HandS.Codes
import HandS.Deep
import HandS.TupAny
import HandS.TupMul
import HandS.SortInts
import HandS.Strs
import HandS.SetBool
import HandS.Head0
import HandS.Head1
import HandS.Head2
import HandS.HeadEnd
import HandS.HeadHook1
import HandS.HeadHook2
import HandS.HeadHook3
import HandS.HeadHook4
import PySem.Challenge.RW_tideland_k36_limits_of_all_chips
set_option Elab.async false
set_option linter.all false
set_option maxRecDepth 100000
set_option maxHeartbeats 0
set_option pp.deepTerms false
set_option pp.deepTerms.threshold 12
set_option pp.maxSteps 900
namespace Tl
open PySem PySem.Spec PyProof.Rows L2
section
variable {P : Program} {w : World} {K : PySem.W.Frag} {mg : Str → Option Value} {base : Heap}
/-! ### general -/
theorem cdiv_lit {i j : Int} (h : (decide (0 < j) && decide (j < 1073741824)) = true) : CDiv i j := by
  obtain ⟨a, b⟩ := Bool.and_eq_true_iff.mp h
  exact ⟨of_decide_eq_true a, of_decide_eq_true b⟩
theorem hu65 {A : Around} {k : Nat} (hr : Room k A) : A.units + 65 < cLine := by have := hr.un; omega
theorem getElem?_mapInt {ns : List Int} {i : Nat} (h : i < ns.length) : (ns.map V.int)[i]? = some (V.int ns[i]) := by
  rw [List.getElem?_map, List.getElem?_eq_getElem h]; rfl
theorem upd_upd' {H : Hp} {a : Addr} {o u : HO} : upd (upd H a o) a u = upd H a u := upd_upd
theorem dget_of {H : Hp} {a : Addr} {x : Str} {kvs : List (Key × V)} {o : Option V} (e : H a = some (.dK kvs)) (hv : valV kvs (.inr x) = o) : DGet H a (.str x) o := hv ▸ DGet.k (k := .inr x) e
theorem dput_of {H : Hp} {a : Addr} {x : Str} {v : V} {kvs : List (Key × V)} (e : H a = some (.dK kvs)) (hl : kvs.length < sizeLine) : DPut H a (.str x) v (upd H a (.dK (putK kvs (.inr x) v))) := DPut.k (k := .inr x) e hl
theorem Same.new {H : Hp} {p : Addr} {o : HO} (h : H p = none) : Same H (upd H p o) := fun b u e => by
  rw [upd_ne (ne_of_none e h)]; exact e
theorem cutV_map {ns : List Int} {lo hi : Option Int} : ∃ ms : List Int, cutV (ns.map V.int) lo hi = ms.map V.int ∧ ms.length ≤ ns.length := by
  refine ⟨(ns.drop (HT.sIx ns.length 0 lo)).take (HT.sIx ns.length ns.length hi - HT.sIx ns.length 0 lo), ?_, ?_⟩
  · unfold cutV
    rw [List.length_map, List.map_take, List.map_drop]
  · rw [List.length_take, List.length_drop]
    omega
/-! ### comprehensions whose parts leave the heap as it is -/
theorem filt_all {α : Type} {xs : List α} : xs.filter (fun _ => true) = xs := List.filter_eq_self.mpr fun _ _ => rfl
theorem take_snoc {α : Type} {xs : List α} {i : Nat} {x : α} (h : xs[i]? = some x) : xs.take (i + 1) = xs.take i ++ [x] := by
  obtain ⟨lt, e⟩ := List.getElem?_eq_some_iff.mp h
  rw [List.take_succ_eq_append_getElem lt, e]
theorem filter_take_le {α : Type} {xs : List α} {i : Nat} (p : α → Bool) : ((xs.take i).filter p).length ≤ xs.length :=
  Nat.le_trans (List.length_filter_le _ _) (by rw [List.length_take]; omega)
theorem set_none_twice {σ : L2.St} {j : Nat} {v : Option V} : ((σ.set j none).set j v).set j none = σ.set j none := by
  rw [List.set_set, List.set_set]
theorem seq_out {K : PySem.W.Frag} {H : Hp} {D a : Addr} {xs : List V} {o : HO} (hs : SqL K H a xs) (hD : H D = none) : SqL K (upd H D o) a xs := (Same.new hD).seq hs
theorem tup_out {K : PySem.W.Frag} {H H' : Hp} {a : Addr} {xs : List V} (k : Same H H') (hs : SqT K H a xs) : SqT K H' a xs := by
  rcases hs with (h | ⟨o, h⟩) | h
  · exact .inl (.inl (k _ _ h))
  · exact .inl (.inr ⟨o, k _ _ h⟩)
  · exact .inr h
section
variable {a D : Addr} {xs : List V} {tt : TT} {te : TE} {σ : L2.St} {H1 : Hp} {Qd : Hp → Prop} {j : Nat}
/-- what one turn of such a comprehension asks -/
theorem lc_turnP (p : V → Bool) (f : V → V) (hD : H1 D = none) (hl : xs.length < sizeLine)
    (ht : ∀ x acc (Qk : Bool → Hp → Prop), x ∈ xs → Qk (p x) (upd H1 D (.lst acc)) → tt ((σ.set j none).set j (some x)) (upd H1 D (.lst acc)) Qk)
    (he : ∀ x acc (Qk : VK), x ∈ xs → p x = true → Qk (f x) (upd H1 D (.lst acc)) → te ((σ.set j none).set j (some x)) (upd H1 D (.lst acc)) Qk)
    (i : Nat) (x : V) (H : Hp) (hx : xs[i]? = some x) (hH : H = upd H1 D (.lst (((xs.take i).filter p).map f))) :
    gName j x (wipe σ [j]) H fun σ2 H2 => wipe σ2 [j] = wipe σ [j] ∧ tt σ2 H2 fun b H3 =>
      if b = true then te σ2 H3 fun y H4 => ∃ acc, H4 D = some (.lst acc) ∧ acc.length < sizeLine ∧ upd H4 D (.lst (acc ++ [y])) = upd H1 D (.lst (((xs.take (i + 1)).filter p).map f))
      else H3 = upd H1 D (.lst (((xs.take (i + 1)).filter p).map f)) := by
  subst hH
  have mem : x ∈ xs := List.mem_of_getElem? hx
  refine ⟨set_none_twice, ht x _ _ mem ?_⟩
  rw [take_snoc hx, List.filter_append]
  cases e : p x with
  | false =>
    rw [if_neg Bool.false_ne_true]
    simp [e]
  | true =>
    rw [if_pos rfl]
    refine he x _ _ mem e ⟨_, upd_same, ?_, ?_⟩
    · rw [List.length_map]
      exact Nat.lt_of_le_of_lt (filter_take_le p) hl
    · rw [upd_upd]
      simp [e]
theorem lc_listP {K : PySem.W.Frag} (p : V → Bool) (f : V → V) (hs : SqL K H1 a xs) (hD : H1 D = none) (hl : xs.length < sizeLine)
    (ht : ∀ x acc (Qk : Bool → Hp → Prop), x ∈ xs → Qk (p x) (upd H1 D (.lst acc)) → tt ((σ.set j none).set j (some x)) (upd H1 D (.lst acc)) Qk)
    (he : ∀ x acc (Qk : VK), x ∈ xs → p x = true → Qk (f x) (upd H1 D (.lst acc)) → te ((σ.set j none).set j (some x)) (upd H1 D (.lst acc)) Qk)
    (hd : Qd (upd H1 D (.lst ((xs.filter p).map f)))) :
    ∃ W : Nat → Nat → Hp → Prop, (∃ m, W 0 m (upd H1 D (.lst []))) ∧ ∀ i m H, W i m H →
      ((Itl K a).stop i H ∧ Qd H) ∨ ((Itl K a).go i H ∧ ∃ Nx : Hp → Prop, (∀ H', Nx H' → ∃ m', m' < m ∧ W (i + 1) m' H') ∧ ∀ x H', (Itl K a).yld i H x H' → gName j x (wipe σ [j]) H' fun σ2 H2 => wipe σ2 [j] = wipe σ [j] ∧ tt σ2 H2 fun b H3 =>
        if b = true then te σ2 H3 fun y H4 => ∃ acc, H4 D = some (.lst acc) ∧ acc.length < sizeLine ∧ Nx (upd H4 D (.lst (acc ++ [y]))) else Nx H3) := by
  refine lc_list (xs := xs) (fun i H => H = upd H1 D (.lst (((xs.take i).filter p).map f))) rfl (fun i H _ e => by rw [e]; exact seq_out hs hD) (fun i x H hx e => lc_turnP p f hD hl ht he i x H hx e) fun H e => ?_
  rw [List.take_length] at e
  rw [e]
  exact hd
theorem lc_tupP {K : PySem.W.Frag} (p : V → Bool) (f : V → V) (hs : SqT K H1 a xs) (hD : H1 D = none) (hl : xs.length < sizeLine)
    (ht : ∀ x acc (Qk : Bool → Hp → Prop), x ∈ xs → Qk (p x) (upd H1 D (.lst acc)) → tt ((σ.set j none).set j (some x)) (upd H1 D (.lst acc)) Qk)
    (he : ∀ x acc (Qk : VK), x ∈ xs → p x = true → Qk (f x) (upd H1 D (.lst acc)) → te ((σ.set j none).set j (some x)) (upd H1 D (.lst acc)) Qk)
    (hd : Qd (upd H1 D (.lst ((xs.filter p).map f)))) :
    ∃ W : Nat → Nat → Hp → Prop, (∃ m, W 0 m (upd H1 D (.lst []))) ∧ ∀ i m H, W i m H →
      ((Itt K a).stop i H ∧ Qd H) ∨ ((Itt K a).go i H ∧ ∃ Nx : Hp → Prop, (∀ H', Nx H' → ∃ m', m' < m ∧ W (i + 1) m' H') ∧ ∀ x H', (Itt K a).yld i H x H' → gName j x (wipe σ [j]) H' fun σ2 H2 => wipe σ2 [j] = wipe σ [j] ∧ tt σ2 H2 fun b H3 =>
        if b = true then te σ2 H3 fun y H4 => ∃ acc, H4 D = some (.lst acc) ∧ acc.length < sizeLine ∧ Nx (upd H4 D (.lst (acc ++ [y]))) else Nx H3) := by
  refine lc_tup (xs := xs) (fun i H => H = upd H1 D (.lst (((xs.take i).filter p).map f))) rfl (fun i H _ e => by rw [e]; exact tup_out (Same.new hD) hs) (fun i x H hx e => lc_turnP p f hD hl ht he i x H hx e) fun H e => ?_
  rw [List.take_length] at e
  rw [e]
  exact hd
/-- the items of a range -/
def rngV (lo : Int) (n : Nat) : List V := (List.range n).map fun i => V.int (lo + (i : Nat))
theorem rngV_get {lo : Int} {n i : Nat} (h : i < n) : (rngV lo n)[i]? = some (V.int (lo + (i : Nat))) := by
  unfold rngV
  rw [List.getElem?_map, List.getElem?_range h]
  rfl
theorem rngV_len {lo : Int} {n : Nat} : (rngV lo n).length = n := by simp [rngV]
theorem lc_rangeP {lo : Int} {n : Nat} (p : V → Bool) (f : V → V) (hD : H1 D = none) (hl : n < sizeLine)
    (ht : ∀ x acc (Qk : Bool → Hp → Prop), x ∈ rngV lo n → Qk (p x) (upd H1 D (.lst acc)) → tt ((σ.set j none).set j (some x)) (upd H1 D (.lst acc)) Qk)
    (he : ∀ x acc (Qk : VK), x ∈ rngV lo n → p x = true → Qk (f x) (upd H1 D (.lst acc)) → te ((σ.set j none).set j (some x)) (upd H1 D (.lst acc)) Qk)
    (hd : Qd (upd H1 D (.lst (((rngV lo n).filter p).map f)))) :
    ∃ W : Nat → Nat → Hp → Prop, (∃ m, W 0 m (upd H1 D (.lst []))) ∧ ∀ i m H, W i m H →
      ((Itr lo n).stop i H ∧ Qd H) ∨ ((Itr lo n).go i H ∧ ∃ Nx : Hp → Prop, (∀ H', Nx H' → ∃ m', m' < m ∧ W (i + 1) m' H') ∧ ∀ x H', (Itr lo n).yld i H x H' → gName j x (wipe σ [j]) H' fun σ2 H2 => wipe σ2 [j] = wipe σ [j] ∧ tt σ2 H2 fun b H3 =>
        if b = true then te σ2 H3 fun y H4 => ∃ acc, H4 D = some (.lst acc) ∧ acc.length < sizeLine ∧ Nx (upd H4 D (.lst (acc ++ [y]))) else Nx H3) := by
  refine lc_range (fun i H => H = upd H1 D (.lst ((((rngV lo n).take i).filter p).map f))) rfl (fun i H hi e => lc_turnP p f hD (by rw [rngV_len]; exact hl) ht he i _ H (rngV_get hi) e) fun H e => ?_
  rw [List.take_of_length_le (by rw [rngV_len]; exact Nat.le_refl _)] at e
  rw [e]
  exact hd
end
/-! ### rules whose reading names the written part K itself (so that a comprehension's block may use them) -/
section
variable {X : Cx} {K : PySem.W.Frag}
theorem ix_listK (h : X.K = K := by rfl) : IxR X (rIxL K) := h ▸ ix_list
theorem ix_tupK (h : X.K = K := by rfl) : IxR X (rIxT K) := h ▸ ix_tup
theorem ix_seqK (h : X.K = K := by rfl) : IxR X (rIx K) := h ▸ ix_seq
theorem sl_listK (h : X.K = K := by rfl) : SlR X (rSlL K) := h ▸ sl_list
theorem sl_tupK (h : X.K = K := by rfl) : SlR X (rSlT K) := h ▸ sl_tup
theorem op_in_seqK (h : X.K = K := by rfl) : OpR X (compareOp .In) (rIn K false) := h ▸ op_in_seq
theorem op_notIn_seqK (h : X.K = K := by rfl) : OpR X (compareOp .NotIn) (rIn K true) := h ▸ op_notIn_seq
theorem op_eqDK (hu : X.A.units + 64 < cLine) (h : X.K = K := by rfl) : OpR X (compareOp .Eq) (rEqD K) := h ▸ op_eqD hu
theorem op_neDK (hu : X.A.units + 64 < cLine) (h : X.K = K := by rfl) : OpR X (compareOp .NotEq) (rNeD K) := h ▸ op_neD hu
theorem op_inDK (hu : X.A.units + 65 < cLine) (h : X.K = K := by rfl) : OpR X (compareOp .In) (rInD K) := h ▸ op_inD hu
theorem op_notInDK (hu : X.A.units + 65 < cLine) (h : X.K = K := by rfl) : OpR X (compareOp .NotIn) (rNotInD K) := h ▸ op_notInD hu
theorem op_catAK (h : X.K = K := by rfl) : OpR X (binaryOp .Add) (rCatA K) := h ▸ op_catA
theorem op_repTK (h : X.K = K := by rfl) : OpR X (binaryOp .Mult) (rRepT K) := h ▸ op_repT
def rLenS (K : PySem.W.Frag) : List V → Hp → VK → Prop := fun xs H Q => ∃ p ys, xs = [V.ref p] ∧ (SqL K H p ys ∨ SqT K H p ys) ∧ Q (.int ys.length) H
theorem call_len_seqK (h : X.K = K := by rfl) : CallR X (.builtin "len") (rLenS K) := h ▸ call_len_seq
def rListOf (K : PySem.W.Frag) : List V → Hp → VK → Prop := fun xs H Q => ∃ p ys, xs = [V.ref p] ∧ (SqL K H p ys ∨ SqT K H p ys) ∧ ∀ l, H l = none → Q (.ref l) (upd H l (.lst ys))
theorem call_list_ofK (h : X.K = K := by rfl) : CallR X (.type "list") (rListOf K) := h ▸ call_list_of
def rTupOf (K : PySem.W.Frag) : List V → Hp → VK → Prop := fun xs H Q => ∃ p ys, xs = [V.ref p] ∧ ((SqL K H p ys ∧ ∀ l, H l = none → Q (.ref l) (upd H l (.tup ys))) ∨ SqT K H p ys ∧ Q (.ref p) H)
theorem call_tuple_ofK (h : X.K = K := by rfl) : CallR X (.type "tuple") (rTupOf K) := h ▸ call_tuple_of
theorem cr_maxK (hc : X.calm = true) (h : X.K = K := by rfl) : CallR X (.builtin "max") (rMax K) := h ▸ cr_max hc
theorem cr_minK (hc : X.calm = true) (h : X.K = K := by rfl) : CallR X (.builtin "min") (rMin K) := h ▸ cr_min hc
theorem cr_sumK (hc : X.calm = true) (h : X.K = K := by rfl) : CallR X (.builtin "sum") (rSum K) := h ▸ cr_sum hc
theorem cr_anyK (hc : X.calm = true) (h : X.K = K := by rfl) : CallR X (.builtin "any") (rAny K) := h ▸ cr_any hc
theorem cr_allK (hc : X.calm = true) (h : X.K = K := by rfl) : CallR X (.builtin "all") (rAll K) := h ▸ cr_all hc
theorem cr_sortedIK (h : X.K = K := by rfl) : CallR X (.builtin "sorted") (rSortedI K) := h ▸ cr_sortedI
theorem mt_indexK (h : X.K = K := by rfl) : MtR X "list.index" (rIndex K) := h ▸ mt_index
theorem mt_indexDK (hu : X.A.units + 65 < cLine) (h : X.K = K := by rfl) : MtR X "list.index" (rIndexD K) := h ▸ mt_indexD hu
theorem bmK {e : Expr} {T : String} {r : V → List V → Hp → VK → Prop} {to : TE} {t : TA} (p : PE X e (tBM X.K T r to t)) (h : X.K = K := by rfl) : PE X e (tBM K T r to t) := h ▸ p
theorem bm0K {e : Expr} {T : String} {r : V → List V → Hp → VK → Prop} {to : TE} (p : PE X e (tBM0 X.K T r to)) (h : X.K = K := by rfl) : PE X e (tBM0 K T r to) := h ▸ p
theorem fldK {e : Expr} {t : TE} {f : Str} (p : PE X e (tFld X.K t f)) (h : X.K = K := by rfl) : PE X e (tFld K t f) := h ▸ p
theorem sfldK {st : Stmt} {t u : TE} {f : Str} (p : PS X st (sFld X.K t u f)) (h : X.K = K := by rfl) : PS X st (sFld K t u f) := h ▸ p
theorem sfldaugK {st : Stmt} {t u : TE} {r : V → V → Hp → VK → Prop} {f : Str} (p : PS X st (sFldAug X.K t u r f)) (h : X.K = K := by rfl) : PS X st (sFldAug K t u r f) := h ▸ p
theorem gtupK {e : Expr} {n : Nat} {t : TGs} (p : PG X e (gTup X.K n t)) (h : X.K = K := by rfl) : PG X e (gTup K n t) := h ▸ p
theorem truthK {e : Expr} {ta : TE} (p : PT X e (fun σ H Q => ta σ H fun x H' => ∃ k, TruV X.K x H' k ∧ Q k H')) (h : X.K = K := by rfl) : PT X e (fun σ H Q => ta σ H fun x H' => ∃ k, TruV K x H' k ∧ Q k H') := h ▸ p
theorem pi_listK {tg l : Expr} {t : TE} (p : PE X l t) (h : X.K = K := by rfl) : PI X tg l (iList K t) := h ▸ pi_list p
theorem pi_tupK {tg l : Expr} {t : TE} (p : PE X l t) (h : X.K = K := by rfl) : PI X tg l (iTup K t) := h ▸ pi_tup p
theorem pienumK {tg l : Expr} {t : TA} (p : PI X tg l (iEnum X.K t)) (h : X.K = K := by rfl) : PI X tg l (iEnum K t) := h ▸ p
theorem pizipK {tg l : Expr} {t : TA} (p : PI X tg l (iZip X.K t)) (h : X.K = K := by rfl) : PI X tg l (iZip K t) := h ▸ p
theorem pirevK {tg l : Expr} {t : TA} (p : PI X tg l (iRev X.K t)) (h : X.K = K := by rfl) : PI X tg l (iRev K t) := h ▸ p
end

/-! a set comprehension whose set may be of any kind: what the empty set is (z), what adding asks (ad) -/
abbrev AddR := V → Addr → Hp → (Hp → Prop) → Prop
def SetGo (z : Addr → HO) (ad : AddR) (J : It) (g : TG) (tt : TT) (te : TE) (vs : List Nat) (σ : L2.St) (D : Addr) (Qd : Hp → Prop) (W : Nat → Nat → Hp → Prop) (i m : Nat) (H : Hp) : Prop :=
  (J.stop i H ∧ Qd H) ∨ (J.go i H ∧ ∃ Nx : Hp → Prop, (∀ H', Nx H' → ∃ m', m' < m ∧ W (i + 1) m' H') ∧ ∀ x H', J.yld i H x H' →
    g x (wipe σ vs) H' fun σ2 H2 => wipe σ2 vs = wipe σ vs ∧ tt σ2 H2 fun b H3 => if b = true then te σ2 H3 fun y H4 => ad y D H4 Nx else Nx H3)
def tSet (z : Addr → HO) (ad : AddR) (wi : TI) (g : TG) (tt : TT) (te : TE) (vs : List Nat) : TE := fun σ H Q =>
  wi σ H fun J H1 => ∀ D, H1 D = none → ∃ W : Nat → Nat → Hp → Prop, (∃ m, W 0 m (upd H1 D (z D))) ∧ ∀ i m H, W i m H → SetGo z ad J g tt te vs σ D (fun H => Q (.ref D) H) W i m H
section
variable {X : Cx}
/-- a fresh set stands for z -/
def FreshSet (P : Program) (w : World) (z : Addr → HO) : Prop := ∀ (H : Hp) (h : Heap),
  ObjOk P w H (h.push { cls := .type "set", dict := none, data := .set #[] 0 (.fresh 0 0 (!w.params.followText "set-order")) }) h.objs.size (z h.objs.size)
/-- adding does what ad says -/
def AddsBy (P : Program) (w : World) (ad : AddR) : Prop := ∀ (Y : Cx), Y.prog = P → Y.w = w → ∀ (pins : List (Addr × Obj)) (σ : L2.St) (H : Hp) (s : Shared) (D : Addr) (y : V) (u : Value) (N : Hp → Prop),
  Inv Y pins σ H s → RelV y u → ad y D H N → wpAny (model P w) Y.A (call (.builtin "set.add") [.ref D, u]) (fun _ s' => ∃ H', Inv Y pins σ H' s' ∧ N H') (fun _ _ => False) s
theorem tset_core {z : Addr → HO} {ad : AddR} (fz : FreshSet X.prog X.w z) (az : AddsBy X.prog X.w ad)
    {pins : List (Addr × Obj)} {s : Shared} {σ : L2.St} {H : Hp} {Q : VK} {elt tg iter : Expr} {ifs : List Expr} {scope : Scope} {own : List (PySem.Str × Nat)} {pos p2 : Pos} {wi : TI} {g : TG} {tt : TT} {te : TE} {Qf : Value → Shared → Prop}
    (calm : X.calm = true) (nN : X.N.Nodup) (I : Inv X pins σ H s) (pi : PI X tg iter wi) (bk : BlkOk X.N X.env.scope scope own)
    (pgA : ∀ (s : Shared) (H : Hp) (C : Addr) (cl : List (PySem.Str × Addr)) (fp : List Addr), PG (X.blk s H scope (compEnvC scope cl C X.env) fp) tg g)
    (ptA : ∀ (s : Shared) (H : Hp) (C : Addr) (cl : List (PySem.Str × Addr)) (fp : List Addr), PTs (X.blk s H scope (compEnvC scope cl C X.env) fp) ifs tt)
    (peA : ∀ (s : Shared) (H : Hp) (C : Addr) (cl : List (PySem.Str × Addr)) (fp : List Addr), PE (X.blk s H scope (compEnvC scope cl C X.env) fp) elt te)
    (fs : ∀ x, foldedSetIterable iter X.env x = pure x) (h : tSet z ad wi g tt te (own.map (·.2)) σ H Q)
    (out : ∀ D C s' m H', Inv X pins σ H' s' → Q (.ref D) H' → s'.heap.Ns C m → FpOk X pins H' C → compPost (model X.prog X.w) X.A X.xe none Qf (.ref D) C (.ok .next) s') :
    wpAny (model X.prog X.w) X.A (comprehension (.SetComp elt [⟨tg, iter, ifs, 0⟩] scope pos) scope X.env p2 (newSet (.type "set")) false (eval iter X.env) none) Qf X.xe s := by
  have cells : ∀ y ∈ scope.names, y.2 = .free → ∃ c, X.env.cells.lookup y.1 = some c := by
    intro y hy e
    exact I.ok.has _ (bk.free y hy e)
  refine wpAny_comprehension_free (use := none) rfl fs (closure_ok cells) bk.kind (fun y hy e => (bk.uniq y hy).trans (congrArg some e)) ?_
  refine thn (pi.run pins s σ H _ I h) fun xv s1 hx => thn hx fun itv s2 h2 => ?_
  obtain ⟨it, fp, tn, J, H2, rfl, I2, T, st2, f2, q⟩ := h2
  refine PpSet.newSet_ok (newEnv_comp ?_)
  -- the set's address, the heap behind its making
  generalize hD : s2.heap.objs.size = D
  have free2 : H2 D = none := I2.hok.fresh (Nat.le_of_eq hD)
  obtain ⟨W, ⟨m0, w0⟩, turn⟩ := q D free2
  generalize hs3 : ({ s2 with heap := s2.heap.push { cls := .type "set", dict := none, data := .set #[] 0 (.fresh 0 0 (!X.w.params.followText "set-order")) } } : Shared) = s3
  have heap3 : s3.heap = s2.heap.push { cls := .type "set", dict := none, data := .set #[] 0 (.fresh 0 0 (!X.w.params.followText "set-order")) } := by subst hs3; rfl
  have kept3 : ∀ b o, s2.heap.get? b = some o → s3.heap.get? b = some o := fun b o e => by rw [heap3]; exact Heap.get?_push_of_some _ e
  have I3 : Inv X pins σ (upd H2 D (z D)) s3 := by
    subst hs3
    subst hD
    exact I2.laid (t' := s2.toks) (fun b o e => Heap.get?_push_of_some _ e) (Nat.le_refl _) (fz _ _)
  have below : ∀ b ∈ fp, b < s2.heap.objs.size := fun b hb => (T.obj _ _ st2 b hb).elim fun o e => Heap.lt_size e.1
  have f3 : ∀ b ∈ fp, FpOk X pins (upd H2 D (z D)) b ∧ b < s3.heap.objs.size := by
    intro b hb
    have lt := below b hb
    have ne : b ≠ D := hD ▸ Nat.ne_of_lt lt
    refine ⟨⟨(upd_ne ne).trans (f2 b hb).1, (f2 b hb).2⟩, ?_⟩
    rw [heap3, Heap.size_push]
    exact Nat.lt_succ_of_lt lt
  have st3 : tn 0 s3.heap := T.keep _ _ _ st2 fun b _ o e => kept3 b o e
  have I4 := block_start I3 bk nN f3
  generalize hH3 : upd H2 D (z D) = H3 at I3 I4 w0 f3
  have pg := pgA s3 H3 s3.heap.objs.size (cellsFrom (s3.heap.objs.size + 1) scope.names (cloFrom X.env.cells scope.names [])) fp
  have pt := ptA s3 H3 s3.heap.objs.size (cellsFrom (s3.heap.objs.size + 1) scope.names (cloFrom X.env.cells scope.names [])) fp
  have pe := peA s3 H3 s3.heap.objs.size (cellsFrom (s3.heap.objs.size + 1) scope.names (cloFrom X.env.cells scope.names [])) fp
  show codeAny _ _ (.compStart (.SetComp elt [⟨tg, iter, ifs, 0⟩] scope pos) 0 (.ref it) (.ref D) (compEnvC scope (cellsFrom (s3.heap.objs.size + 1) scope.names (cloFrom X.env.cells scope.names [])) s3.heap.objs.size X.env))
    (compPost (model X.prog X.w) X.A X.xe none Qf (.ref D) s3.heap.objs.size) { s3 with heap := pushCells (s3.heap.push { cls := .type "dict", data := .dict #[] }) scope.names }
  generalize hce : compEnvC scope (cellsFrom (s3.heap.objs.size + 1) scope.names (cloFrom X.env.cells scope.names [])) s3.heap.objs.size X.env = ce at I4 pg pt pe ⊢
  have loc : ce.locals = s3.heap.objs.size := hce ▸ rfl
  generalize hs4 : ({ s3 with heap := pushCells (s3.heap.push { cls := .type "dict", data := .dict #[] }) scope.names } : Shared) = s4 at I4 ⊢
  have st4 : tn 0 s4.heap := T.keep _ _ _ st3 fun b _ o e => hs4 ▸ pushCells_keeps _ _ _ _ (Heap.get?_push_of_some _ e)
  -- the iterator's own cells stay apart from the block
  have apart : ∀ {σ' : L2.St} {H' : Hp} {s' : Shared}, Inv (X.blk s3 H3 scope ce fp) [] σ' H' s' → (∀ b ∈ fp, H' b = none) → ∀ b ∈ fp, FpOk (X.blk s3 H3 scope ce fp) [] H' b := by
    intro σ' H' s' I' hn b hb
    exact ⟨hn b hb, (I'.ok.exf b hb).1, I'.ok.exfs b hb, .inl hb, fun x c e => (I'.ok.exf b hb).2 x c e, fun p hp => absurd (show p ∈ ([] : List (Addr × Obj)) ++ [] from hp) (by simp)⟩
  have whole : codeAny (model X.prog X.w) X.A (.compLoop (.SetComp elt [⟨tg, iter, ifs, 0⟩] scope pos) 0 (.ref it) (.ref D) ce) (compPost (model X.prog X.w) X.A X.xe none Qf (.ref D) s3.heap.objs.size) s4 := by
    refine PpSet.compLoopS_any (fun n s' => ∃ i H', Inv (X.blk s3 H3 scope ce fp) [] (wipe σ (own.map (·.2))) H' s' ∧ tn i s'.heap ∧ (∀ b ∈ fp, H' b = none) ∧ W i n H') ?_ m0 ⟨0, H3, I4, st4, fun b hb => (f3 b hb).1.1, w0⟩
    rintro n s5 ⟨i, H5, I5, st5, n5, w5⟩
    rcases turn i n H5 w5 with ⟨stop, qq⟩ | ⟨go, Nx, hNx, step⟩
    · refine thnF (T.done (X.blk s3 H3 scope ce fp) rfl rfl rfl calm i [] s5 _ H5 (fun _ _ => False) I5 (apart I5 n5) st5 stop) fun r s6 ⟨hr, I6⟩ => ?_
      subst hr
      have back : Inv X pins σ H5 s6 := I3.call' (ch := fp) I6.os I6.base I6.hok I6.bare fun b hb => ⟨(f3 b hb).1.2.2.2.1, (f3 b hb).1.2.1, (f3 b hb).1.2.2.2.2.1, (f3 b hb).1.2.2.2.2.2⟩
      have gone : H5 ce.locals = none := I6.free
      obtain ⟨m, hm, _⟩ := I6.loc
      have hm : s6.heap.Ns ce.locals m := hm
      rw [loc] at gone hm
      exact out D _ s6 m H5 back qq hm (I3.fpOk (Nat.le_refl _) gone)
    · refine thnF (T.item (X.blk s3 H3 scope ce fp) rfl rfl rfl calm i [] s5 _ H5 (fun _ _ => False) I5 (apart I5 n5) st5 go) fun r s6 ⟨u, hr, h6⟩ => ?_
      subst hr
      refine thnF h6 fun _ s7 ⟨x, H7, I7, r7, y7, st7, n7⟩ => ?_
      have pinned := I7.pinned (apart I7 n7) (T.obj _ _ st7)
      refine thnF (pg.run _ s7 _ H7 x u _ pinned r7 (step x H7 y7)) fun _ s8 ⟨σ8, H8, I8, hw8, q8⟩ => ?_
      refine thnF (pt.run _ s8 σ8 H8 _ I8 q8) fun b s9 ⟨H9, I9, q9⟩ => ?_
      have next : ∀ (s' : Shared) (H' : Hp), Inv (X.blk s3 H3 scope ce fp) ([] ++ pinsAt fp s7.heap) σ8 H' s' → Nx H' →
          ∃ m, m < n ∧ ∃ i H', Inv (X.blk s3 H3 scope ce fp) [] (wipe σ (own.map (·.2))) H' s' ∧ tn i s'.heap ∧ (∀ b ∈ fp, H' b = none) ∧ W i m H' := by
        intro s' H' I' nx
        obtain ⟨m', lt, w'⟩ := hNx H' nx
        have held : ∀ b ∈ fp, ∀ o, s7.heap.get? b = some o → s'.heap.get? b = some o ∧ H' b = none := fun b hb o e =>
          have at_ := I'.pin (b, o) (List.mem_append_right _ (List.mem_append_right _ (mem_pinsAt hb e)))
          ⟨at_.1, at_.2.1⟩
        have len : (wipe σ (own.map (·.2))).length = σ8.length := (congrArg List.length hw8).symm.trans (wipe_length _ _)
        refine ⟨m', lt, i + 1, H', (I'.unpinned (pins := [])).weak len (fun j v e => (wipe_some (hw8 ▸ e)).1), T.keep _ _ _ st7 fun b hb o e => (held b hb o e).1, ?_, w'⟩
        intro b hb
        obtain ⟨o, e, _⟩ := T.obj _ _ st7 b hb
        exact (held b hb o e).2
      cases b with
      | false =>
        rw [if_neg Bool.false_ne_true] at q9 ⊢
        exact next _ _ I9 q9
      | true =>
        rw [if_pos rfl] at q9 ⊢
        refine thnF (pe.run _ s9 σ8 H9 _ I9 q9) fun v s10 ⟨yv, H10, I10, r10, q10⟩ => ?_
        exact thnF (az (X.blk s3 H3 scope ce fp) rfl rfl _ σ8 H10 s10 D yv v Nx I10 r10 q10) fun _ s11 ⟨H11, I11, nx⟩ => next _ _ I11 nx
  exact PpSet.codeAny_compStart_set whole (T.self X.A 0 _ _ _ st4 whole)
theorem pe_set {z : Addr → HO} {ad : AddR} (fz : FreshSet X.prog X.w z) (az : AddsBy X.prog X.w ad) {elt tg iter : Expr} {ifs : List Expr} {scope : Scope} {own : List (PySem.Str × Nat)} {pos : Pos} {wi : TI} {g : TG} {tt : TT} {te : TE}
    (calm : X.calm = true) (nN : X.N.Nodup) (pi : PI X tg iter wi) (bk : BlkOk X.N X.env.scope scope own)
    (pgA : ∀ (s : Shared) (H : Hp) (C : Addr) (cl : List (PySem.Str × Addr)) (fp : List Addr), PG (X.blk s H scope (compEnvC scope cl C X.env) fp) tg g)
    (ptA : ∀ (s : Shared) (H : Hp) (C : Addr) (cl : List (PySem.Str × Addr)) (fp : List Addr), PTs (X.blk s H scope (compEnvC scope cl C X.env) fp) ifs tt)
    (peA : ∀ (s : Shared) (H : Hp) (C : Addr) (cl : List (PySem.Str × Addr)) (fp : List Addr), PE (X.blk s H scope (compEnvC scope cl C X.env) fp) elt te)
    (fs : ∀ x, foldedSetIterable iter X.env x = pure x := by intro _; rfl) : PE X (.SetComp elt [⟨tg, iter, ifs, 0⟩] scope pos) (tSet z ad wi g tt te (own.map (·.2))) := by
  refine ⟨fun pins s σ H Q I h => ?_⟩
  rw [PpSet.eval_SetComp]
  refine tset_core fz az calm nN I pi bk pgA ptA peA fs h fun D C s' m H' I' q hm f => ⟨m, hm, fun h'' sb => ?_⟩
  exact ⟨.ref D, H', I'.turned (t' := s'.toks) (fun b o hb e => (sb.2 b hb).trans e) f.1 f.2.1 f.2.2.2.1 f.2.2.2.2.1 f.2.2.2.2.2, rfl, q⟩
/-! sets of ints -/
def zI (w : World) : Addr → HO := fun D => SetO w D (fun _ => false) 0
def adI (w : World) : AddR := fun y D H N => ∃ (k : Int) (S : Int → Bool) (n : Nat), y = .int k ∧ H D = some (SetO w D S n) ∧ n + 1 < scanBound ∧ N (upd H D (SetO w D (fun j => S j || decide (j = k)) (if S k = true then n else n + 1)))
theorem freshI {P : Program} {w : World} : FreshSet P w (zI w) := fun _ _ => setO_new (setR_fresh w)
theorem addsI {P : Program} {w : World} : AddsBy P w (adI w) := by
  intro Y hP hw pins σ H s D y u N I r h
  obtain ⟨k, S, n, rfl, hD, room, q⟩ := h
  obtain ⟨tk, rfl⟩ := r
  subst hP
  subst hw
  refine setR_add (setO_get I hD) room fun h' sb new => ?_
  have there : ∃ u, h'.get? D = some u := by
    obtain ⟨o, _, _, _, ho, _⟩ := id new
    exact ⟨o, ho⟩
  exact ⟨_, I.write (e := D) (t' := s.toks + 1) (by rw [hD]; trivial) (.inl rfl) (fun b u hb hu => (sb.2 b hb).trans hu) there (setO_new new), q⟩
/-- len of a set of ints -/
theorem call_lenS : CallR X (.builtin "len") (fun xs H Q => ∃ a S n, xs = [V.ref a] ∧ H a = some (SetO X.w a S n) ∧ Q (.int (n : Nat)) H) := by
  intro pins s σ H xs us Q I r h
  obtain ⟨a, S, n, rfl, ha, q⟩ := h
  obtain ⟨u, rfl, ru⟩ := vals1 r
  cases ru
  obtain ⟨o, es, ep, t, ho, hx, hd, _, _, _, hb, hf, hn, _⟩ := setO_get I ha
  have small : (es.size : Int) < 2 ^ 63 := by
    have := fits_of_scanBound hb
    rw [sizeLine_eq] at this
    omega
  subst hn
  exact call_len_set ho hx hd hf small ⟨.int (es.size : Nat), H, I.tok _, ⟨_, rfl⟩, q⟩
/-- one turn of a comprehension of ints into a set, the heap but for the set left alone: the new members stand behind the old ones -/
def addU (us : List Int) (k : Int) : List Int := if k ∈ us then us else us ++ [k]
def uniq (l : List Int) : List Int := l.foldl addU []
theorem uniq_snoc (l : List Int) (k : Int) : uniq (l ++ [k]) = addU (uniq l) k := by
  unfold uniq
  rw [List.foldl_append]
  rfl
theorem addU_len (us : List Int) (k : Int) : (addU us k).length = if k ∈ us then us.length else us.length + 1 := by
  unfold addU
  split <;> simp
theorem addU_mem (us : List Int) (k j : Int) : j ∈ addU us k ↔ j ∈ us ∨ j = k := by
  unfold addU
  split
  · rename_i h
    constructor
    · exact fun h1 => .inl h1
    · rintro (h1 | rfl)
      · exact h1
      · exact h
  · simp
theorem uniq_len_from : ∀ (l us : List Int), (l.foldl addU us).length ≤ us.length + l.length
  | [], us => Nat.le_refl _
  | k :: l, us => by
    have h := uniq_len_from l (addU us k)
    have e := addU_len us k
    rw [List.foldl_cons, List.length_cons]
    split at e <;> omega
theorem uniq_len_le (l : List Int) : (uniq l).length ≤ l.length := by
  have h := uniq_len_from l []
  rw [List.length_nil, Nat.zero_add] at h
  exact h
def setOf (w : World) (D : Addr) (l : List Int) : HO := SetO w D (fun j => decide (j ∈ uniq l)) (uniq l).length
theorem setOf_add (w : World) (D : Addr) (l : List Int) (k : Int) :
    SetO w D (fun j => decide (j ∈ uniq l) || decide (j = k)) (if decide (k ∈ uniq l) = true then (uniq l).length else (uniq l).length + 1) = setOf w D (l ++ [k]) := by
  unfold setOf
  rw [uniq_snoc, addU_len]
  congr 1
  · funext j
    rw [← Bool.decide_or]
    exact decide_eq_decide.mpr (addU_mem _ _ _).symm
  · by_cases h : k ∈ uniq l
    · rw [if_pos (decide_eq_true h), if_pos h]
    · rw [if_neg (fun z => h (of_decide_eq_true z)), if_neg h]
end
section
variable {a D : Addr} {xs : List V} {te : TE} {σ : L2.St} {H1 : Hp} {Qd : Hp → Prop} {j : Nat} {w : World}
/-- {e for x in list}, e an int that leaves the heap as it is -/
theorem sc_listP {K : PySem.W.Frag} (f : V → Int) (hs : SqL K H1 a xs) (hD : H1 D = none) (hl : xs.length < 4000)
    (he : ∀ x o (Qk : VK), x ∈ xs → Qk (.int (f x)) (upd H1 D o) → te ((σ.set j none).set j (some x)) (upd H1 D o) Qk)
    (hd : Qd (upd H1 D (setOf w D (xs.map f)))) :
    ∃ W : Nat → Nat → Hp → Prop, (∃ m, W 0 m (upd H1 D (zI w D))) ∧ ∀ i m H, W i m H → SetGo (zI w) (adI w) (Itl K a) (gName j) tYes te [j] σ D Qd W i m H := by
  refine ⟨fun i m H => m = xs.length - i ∧ i ≤ xs.length ∧ H = upd H1 D (setOf w D ((xs.take i).map f)), ⟨_, rfl, Nat.zero_le _, rfl⟩, ?_⟩
  rintro i m H ⟨rfl, hi, rfl⟩
  have hq : SqL K (upd H1 D (setOf w D ((xs.take i).map f))) a xs := (Same.new hD).seq hs
  by_cases lt : i < xs.length
  · have hx : xs[i]? = some xs[i] := List.getElem?_eq_getElem lt
    refine .inr ⟨⟨xs, _, hq, hx⟩, fun H => H = upd H1 D (setOf w D ((xs.take (i + 1)).map f)), ?_, ?_⟩
    · rintro H' rfl
      exact ⟨xs.length - (i + 1), by omega, rfl, lt, rfl⟩
    · rintro x H' ⟨rfl, y⟩
      have ex := y xs hq
      rw [hx] at ex
      cases ex
      refine ⟨set_none_twice, he _ _ _ (List.getElem_mem lt) ⟨f xs[i], _, _, rfl, upd_same, ?_, ?_⟩⟩
      · have l1 := uniq_len_le ((xs.take i).map f)
        rw [List.length_map, List.length_take] at l1
        exact Nat.lt_of_le_of_lt (m := 4000) (by omega) (by decide)
      · rw [upd_upd, setOf_add, take_snoc hx, List.map_append]
        rfl
  · have e : i = xs.length := by omega
    subst e
    rw [List.take_length] at hq ⊢
    exact .inl ⟨⟨xs, hq, Nat.le_refl _⟩, hd⟩
end


end
local macro_rules | `(tactic| walk_at "side") => `(tactic| first
  | omega
  | exact cdiv_lit (by decide)
  | exact ⟨by decide, by decide⟩
  | exact ⟨by omega, by omega⟩
  | exact ⟨by omega, by omega, by omega, by omega⟩
  | (show (0 : Int) < _; first | decide | omega)
  | exact Or.inl ⟨by decide, by decide⟩
  | exact Or.inr ⟨by decide, by decide⟩
  | exact Or.inl ⟨by omega, by omega⟩
  | exact Or.inr ⟨by omega, by omega⟩
  | assumption)
local macro_rules | `(tactic| walk_at "rd1") => `(tactic| first
  | refine ⟨_, rfl, ?_⟩
  | refine ⟨_, _, rfl, rfl, ?_⟩
  | refine ⟨_, _, rfl, ?_⟩
  | refine ⟨rfl, ?_⟩
  | refine Or.inl ⟨_, rfl, ?_⟩
  | refine ⟨_, _, _, rfl, ?_⟩
  | refine ⟨_, _, _, _, rfl, ?_⟩
  | refine ⟨_, _, _, _, _, rfl, ?_⟩
  | refine ⟨_, _, _, _, _, _, rfl, ?_⟩
  | refine ⟨(by walk_at "side" : (_ : Prop)), ?_⟩)
local macro_rules | `(tactic| walk_at "rd") => `(tactic| repeat walk_at "rd1")
local macro_rules | `(tactic| walk_at "look") => `(tactic| first
  | assumption
  | exact upd_same
  | (rw [upd_ne (by assumption)]; assumption))
local macro_rules | `(tactic| walk_at "sq") => `(tactic| first
  | assumption
  | exact SqL.of (by walk_at "look")
  | exact SqT.of (by walk_at "look")
  | exact Same.seq (by assumption) (by assumption))
local macro_rules | `(tactic| walk_at "rdd") => `(tactic| repeat (first
  | walk_at "rd1"
  | refine ⟨.inl ⟨rfl, _, SqL.of (by walk_at "look")⟩, ?_⟩
  | refine ⟨⟨_, by walk_at "sq"⟩, ?_⟩
  | refine ⟨_, _, rfl, dget_of (by walk_at "look") (by rfl), ?_⟩
  | refine ⟨_, _, rfl, dput_of (by walk_at "look") (by show 4 < sizeLine; decide), ?_⟩))
local macro_rules | `(tactic| walk_at "fin") => `(tactic| first
  | exact rfl
  | assumption
  | exact ⟨_, rfl⟩
  | exact ⟨_, rfl, rfl⟩
  | exact ⟨rfl, _, rfl⟩
  | exact ⟨_, _, rfl⟩
  | exact ⟨_, _, rfl, rfl⟩
  | exact ⟨rfl, _, _, rfl⟩
  | exact ⟨_, _, _, rfl, rfl⟩)
section
variable {P : Program} {w : World} {K : PySem.W.Frag} {mg : Str → Option Value} {base : Heap}
def top (i : Nat) : Stmt := PySem.Challenge.pw_tideland_k36_limits_of_all_chips.main.body.getD i (.Pass ⟨0, 0, 0, 0⟩)
abbrev s_spare_blocks : Stmt := top 1
abbrev s_data_share : Stmt := top 2
abbrev s_limit_with : Stmt := top 3
abbrev s_block_share : Stmt := top 4
abbrev s_page_limit : Stmt := top 5
abbrev s_nodes_counted : Stmt := top 8
abbrev s_pages_counted : Stmt := top 9
abbrev s__law_fresh : Stmt := top 11
abbrev s__law_pick : Stmt := top 12
abbrev s__law_stream : Stmt := top 13
abbrev s__law_shares : Stmt := top 14
abbrev s_law : Stmt := top 15
theorem sc_spare_blocks : FnScope ["blocks"] ["blocks"] (defScope s_spare_blocks) := ⟨rfl, rfl, rfl, by decide +kernel, rfl, by decide +kernel, by decide +kernel⟩
theorem sc_data_share : FnScope ["blocks", "share"] ["blocks", "share"] (defScope s_data_share) := ⟨rfl, rfl, rfl, by decide +kernel, rfl, by decide +kernel, by decide +kernel⟩
theorem sc_limit_with : FnScope ["blocks", "pages", "share", "data"] ["blocks", "pages", "share"] (defScope s_limit_with) := ⟨rfl, rfl, rfl, by decide +kernel, rfl, by decide +kernel, by decide +kernel⟩
theorem sc_block_share : FnScope ["blocks", "pages", "best", "share"] ["blocks", "pages"] (defScope s_block_share) := ⟨rfl, rfl, rfl, by decide +kernel, rfl, by decide +kernel, by decide +kernel⟩
theorem sc_page_limit : FnScope ["blocks", "pages"] ["blocks", "pages"] (defScope s_page_limit) := ⟨rfl, rfl, rfl, by decide +kernel, rfl, by decide +kernel, by decide +kernel⟩
theorem sc_nodes_counted : FnScope ["keys", "count", "span", "key"] ["keys"] (defScope s_nodes_counted) := ⟨rfl, rfl, rfl, by decide +kernel, rfl, by decide +kernel, by decide +kernel⟩
theorem sc_pages_counted : FnScope ["keys", "key"] ["keys"] (defScope s_pages_counted) := ⟨rfl, rfl, rfl, by decide +kernel, rfl, by decide +kernel, by decide +kernel⟩
theorem sc__law_fresh : FnScope ["stream", "cells", "at", "cell", "prime", "first", "second", "third", "fourth"] ["stream"] (defScope s__law_fresh) := ⟨rfl, rfl, rfl, by decide +kernel, rfl, by decide +kernel, by decide +kernel⟩
theorem sc__law_pick : FnScope ["stream", "many", "digit"] ["stream", "many"] (defScope s__law_pick) := ⟨rfl, rfl, rfl, by decide +kernel, rfl, by decide +kernel, by decide +kernel⟩
theorem sc__law_stream : FnScope ["script", "cell"] ["script"] (defScope s__law_stream) := ⟨rfl, rfl, rfl, by decide +kernel, rfl, by decide +kernel, by decide +kernel⟩
theorem sc__law_shares : FnScope ["blocks", "pages", "found", "share", "data", "limit", "best"] ["blocks", "pages"] (defScope s__law_shares) := ⟨rfl, rfl, rfl, by decide +kernel, rfl, by decide +kernel, by decide +kernel⟩
theorem sc_law : FnScope ["script", "stream", "told", "blocks", "pages", "share", "limit", "k", "keys", "j", "nodes", "key", "level", "different"] ["script"] (defScope s_law) := ⟨rfl, rfl, rfl, by decide +kernel, rfl, by decide +kernel, by decide +kernel⟩
def ex (K : PySem.W.Frag) : Bool := He.tupB K "SPANS" [.int 32, .int 1024, .int 32768, .int 1048576]
def dd (x : Str) (st : Stmt) : He.DefD := ⟨(x, none), x, x, defArgs st, defBody st, defScope st, [], []⟩
def dm (c m q : Str) (st : Stmt) : He.DefD := ⟨(c, some m), m, q, defArgs st, defBody st, defScope st, [], []⟩
def fn0 : List He.DefD := [dd "spare_blocks" s_spare_blocks, dd "data_share" s_data_share, dd "limit_with" s_limit_with, dd "block_share" s_block_share, dd "page_limit" s_page_limit, dd "nodes_counted" s_nodes_counted, dd "pages_counted" s_pages_counted, dd "_law_fresh" s__law_fresh, dd "_law_pick" s__law_pick, dd "_law_stream" s__law_stream, dd "_law_shares" s__law_shares, dd "law" s_law]
def fn : List He.DefD := fn0
def fa0 : List He.Fa := [.glo "spare_blocks", .glo "data_share", .glo "limit_with", .glo "block_share", .glo "page_limit", .glo "nodes_counted", .glo "pages_counted", .glo "_law_fresh", .glo "_law_pick", .glo "_law_stream", .glo "_law_shares", .glo "law", .glo "SPANS", .free "len", .free "max", .free "range", .free "int", .free "list"]
def fa : List He.Fa := fa0
def loose0 : List Str := ["__name__", "spare_blocks", "data_share", "limit_with", "block_share", "page_limit", "SPANS", "nodes_counted", "pages_counted", "_law_fresh", "_law_pick", "_law_stream", "_law_shares"]
def loose : List Str := loose0
abbrev R : PySem.W.OpenRow := PySem.W.OpenLaw.row PySem.Challenge.rw_tideland_k36_limits_of_all_chips
abbrev hk : PySem.W.Hook := He.hookX 4 fa fn [] [] ex
def ob (s : PySem.W.SharedT) : He.AlX := He.obsX 4 fa fn [] [] ex (HandSHeadRun.getT s)
theorem ob_eq (s : PySem.W.SharedT) : ob s = hk.obs s.abs := He.obsX_eq (HandSHeadRun.getT_eq s)
theorem run (w : World) : HandSHeadRun.RunEq R (PySem.W.view R.prog [15]) hk ob 600 loose w := by
  intro os
  kernel_rfl
/-- what the walk knows of the text as its top has left it -/
structure Tx (K : PySem.W.Frag) (mg : Str → Option Value) : Prop where
  kx : ∃ h, K.In h ∧ h.Ns mainGlobals mg
  d : He.SaysD fa fn K
  m : ex K = true
theorem Tx.glo (T : Tx K mg) (i : Nat) {x : Str} (h : fa[i]? = some (.glo x) := by rfl) : mg x = some (.ref (He.ga K x)) :=
  have ⟨_, a, b⟩ := T.kx
  He.glo_ok a b (T.d.fact i h)
theorem Tx.free (T : Tx K mg) (i : Nat) {x : Str} (h : fa[i]? = some (.free x) := by rfl) : mg x = none :=
  have ⟨_, a, b⟩ := T.kx
  He.free_ok a b (T.d.fact i h)
theorem Tx.cal (T : Tx K mg) (i j : Nat) {x : Str} {st : Stmt} {N ps : List Str} {k : Nat} {sp : Sp} (S : FnScope N ps (defScope st))
    (b : ∀ (kV doc pm : Value) (an : Option Addr) (cdv ct : Value) (us : List Value), us.length = ps.length → bindArgs (PySem.W.fnOf x x (defArgs st) (defBody st) (defScope st) .none kV doc pm an cdv ct) ⟨us, []⟩ = pure (ps.zip us))
    (len : ∀ vs H Q E, sp vs H Q E → vs.length = ps.length)
    (body : ∀ (cdv : Value) (A : Around) (outer : List Env) (s : Shared) (H : Hp) (vs : List V) (Q : VK) (E : XK), Room k (A.deeper (envOfC x (defScope st) s.heap.objs.size (He.fAd K (x, none)) cdv)) → sp vs H Q E →
      ∃ t, PSs (cxOf CX0 P w K mg base N x (defScope st) (He.fAd K (x, none)) cdv A outer s H E).nox (defBody st) t ∧ t { nx := fun _ H' => Q .non H', rt := Q } (start N vs) H)
    (hi : fa[i]? = some (.glo x) := by rfl) (hj : fn[j]? = some (dd x st) := by rfl) : C8.Cal P w K mg base (k + 1) x sp [] := by
  obtain ⟨fd, F⟩ := T.d.def_ j hj
  refine ⟨⟨He.fAd K (x, none), fd, ps, [], FunD.ok F S len (fun cdv A outer s H vs Q E hr h => ?_), T.glo i hi, F.kp, FunD.bindsN F b, .nil⟩⟩
  obtain ⟨t, h1, h2⟩ := body cdv A outer s H vs Q E hr h
  exact ⟨t, h1.nox, h2⟩


def spare (b : Int) : Int := b / 16 + 1
def sp_spare_blocks : Sp := fun vs H Q _ => ∃ b : Int, vs = [.int b] ∧ Q (.int (spare b)) H
theorem ok_spare_blocks (T : Tx K mg) : C8.Cal P w K mg base 1 "spare_blocks" sp_spare_blocks [] := by
  refine T.cal 0 0 sc_spare_blocks (fun _ _ _ _ _ _ us hl => match us, hl with | [_], _ => rfl) (fun vs H Q E h => ?_) (fun cdv A outer s H vs Q E hr h => ?_)
  · obtain ⟨b, rfl, _⟩ := h; rfl
  · obtain ⟨b, rfl, q⟩ := h
    refine ⟨_, (pss_one (ps_ret (pe_op op_add (pe_op op_fdiv (pv 0) pe_int) pe_int))), ?_⟩
    walk_at "rd"
    exact q
def data (b s : Int) : Int := max 0 (b - spare b - 3 - (s + 7))
def sp_data_share : Sp := fun vs H Q _ => ∃ b s : Int, vs = [.int b, .int s] ∧ Q (.int (data b s)) H
theorem ok_data_share (T : Tx K mg) : C8.Cal P w K mg base 2 "data_share" sp_data_share [] := by
  refine T.cal 1 1 sc_data_share (fun _ _ _ _ _ _ us hl => match us, hl with | [_, _], _ => rfl) (fun vs H Q E h => ?_) (fun cdv A outer s H vs Q E hr h => ?_)
  · obtain ⟨b, s, rfl, _⟩ := h; rfl
  · obtain ⟨b, sh, rfl, q⟩ := h
    refine ⟨_, (pss_one (ps_ret (pe_callB (call_max2 rfl) (by rfl) (T.free 14) (by decide +kernel) (pa_cons pe_int (pa_cons (pe_op op_sub (pe_op op_sub (pe_op op_sub (pv 0) (C8.pe_c (ok_spare_blocks T) hr (by decide) (by rfl) (pa_cons (pv 0) pa_nil))) pe_int) (pe_op op_add (pv 1) pe_int)) pa_nil))))), ?_⟩
    walk_at "rd"
    have e : (if b - spare b - 3 - (sh + 7) > 0 then b - spare b - 3 - (sh + 7) else 0) = data b sh := by
      unfold data
      split <;> omega
    rw [← e] at q
    exact q
def limitW (b p s : Int) : Int := if s + 2 ≤ data b s ∧ data b s ≤ 2 * (s + 2) then max 0 (s * p - 28) * data b s / (s + 2) else 0
def sp_limit_with : Sp := fun vs H Q _ => ∃ b p s : Int, vs = [.int b, .int p, .int s] ∧ (0 ≤ b ∧ b ≤ 1000 ∧ 0 ≤ s ∧ s ≤ 1000) ∧ Q (.int (limitW b p s)) H
theorem data_le {b s : Int} (hb : 0 ≤ b) (hs : 0 ≤ s) (h2 : b ≤ 1000) : 0 ≤ data b s ∧ data b s ≤ 1000 := by
  unfold data spare
  omega
theorem ok_limit_with (T : Tx K mg) : C8.Cal P w K mg base 3 "limit_with" sp_limit_with [] := by
  refine T.cal 2 2 sc_limit_with (fun _ _ _ _ _ _ us hl => match us, hl with | [_, _, _], _ => rfl) (fun vs H Q E h => ?_) (fun cdv A outer s H vs Q E hr h => ?_)
  · obtain ⟨b, p, s, rfl, _⟩ := h; rfl
  · obtain ⟨b, p, sh, rfl, ⟨b0, b1, s0, s1⟩, q⟩ := h
    have dl := data_le (b := b) (s := sh) b0 s0 b1
    refine ⟨_, (pss_cons (ps_set (i := 3) sc_limit_with.nd rfl (by first | exact Or.inl rfl | exact Or.inr rfl) (C8.pe_c (ok_data_share T) hr (by decide) (by rfl) (pa_cons (pv 0) (pa_cons (pv 2) pa_nil))))
 (pss_cons (ps_if (pt_not (pt_chain op_le op_le (pe_op op_add (pv 2) pe_int) (pv 3) (pe_op op_mul pe_int (pe_op op_add (pv 2) pe_int))))
 (pss_one (ps_ret pe_int))
 pss_nil)
 (pss_one (ps_ret (pe_op op_fdiv (pe_op op_mul (pe_callB (call_max2 rfl) (by rfl) (T.free 14) (by decide +kernel) (pa_cons pe_int (pa_cons (pe_op op_sub (pe_op op_mul (pv 2) (pv 1)) pe_int) pa_nil))) (pv 3)) (pe_op op_add (pv 2) pe_int)))))), ?_⟩
    walk_at "rd"
    have e : limitW b p sh = if sh + 2 ≤ data b sh then (if data b sh ≤ 2 * (sh + 2) then max 0 (sh * p - 28) * data b sh / (sh + 2) else 0) else 0 := by
      unfold limitW
      by_cases h1 : sh + 2 ≤ data b sh
      · by_cases h2 : data b sh ≤ 2 * (sh + 2)
        · rw [if_pos ⟨h1, h2⟩, if_pos h1, if_pos h2]
        · rw [if_neg (fun z => h2 z.2), if_pos h1, if_neg h2]
      · rw [if_neg (fun z => h1 z.1), if_neg h1]
    rw [e] at q
    refine ite2 (fun c => ?_) (fun c => ?_)
    · have c := of_decide_eq_true c
      rw [if_pos c] at q
      walk_at "rd"
      refine ite2 (fun d => ?_) (fun d => ?_)
      · have d : ¬ data b sh ≤ 2 * (sh + 2) := by simpa using d
        rw [if_neg d] at q
        exact q
      · have d : data b sh ≤ 2 * (sh + 2) := by simpa using d
        rw [if_pos d] at q
        walk_at "rd"
        rw [show (if sh * p - 28 > 0 then sh * p - 28 else 0) = max 0 (sh * p - 28) by split <;> omega]
        exact q
    · have c : ¬ sh + 2 ≤ data b sh := fun z => c (decide_eq_true z)
      rw [if_neg c] at q
      walk_at "rd"
      exact q
/-- the least share of the greatest limit among those below n -/
def bestTo (b p : Int) : Nat → Int
  | 0 => 0
  | n + 1 => if limitW b p (bestTo b p n) < limitW b p n then n else bestTo b p n
theorem bestTo_le (b p : Int) : ∀ n, 0 ≤ bestTo b p n ∧ bestTo b p n ≤ n
  | 0 => by simp [bestTo]
  | n + 1 => by
    have := bestTo_le b p n
    unfold bestTo
    split <;> omega
def sp_block_share : Sp := fun vs H Q _ => ∃ b p : Int, vs = [.int b, .int p] ∧ (0 ≤ b ∧ b ≤ 1000) ∧ Q (.int (bestTo b p b.toNat)) H
theorem ok_block_share (T : Tx K mg) : C8.Cal P w K mg base 4 "block_share" sp_block_share [] := by
  refine T.cal 3 3 sc_block_share (fun _ _ _ _ _ _ us hl => match us, hl with | [_, _], _ => rfl) (fun vs H Q E h => ?_) (fun cdv A outer s H vs Q E hr h => ?_)
  · obtain ⟨b, p, rfl, _⟩ := h; rfl
  · obtain ⟨b, p, rfl, ⟨b0, b1⟩, q⟩ := h
    refine ⟨_, (pss_cons (ps_set (i := 2) sc_block_share.nd rfl (by first | exact Or.inl rfl | exact Or.inr rfl) pe_int)
 (pss_cons (ps_for PassesOwn.never rfl (pi_range1 (by rfl) (T.free 15) (pa_cons (pv 0) pa_nil)) (pg_name (i := 3) sc_block_share.nd rfl (by first | exact Or.inl rfl | exact Or.inr rfl))
 (pss_one (ps_if (pt_cmpR op_gt (C8.pe_c (ok_limit_with T) hr (by decide) (by rfl) (pa_cons (pv 0) (pa_cons (pv 1) (pa_cons (pv 3) pa_nil)))) (C8.pe_c (ok_limit_with T) hr (by decide) (by rfl) (pa_cons (pv 0) (pa_cons (pv 1) (pa_cons (pv 2) pa_nil)))) (nomark _))
 (pss_one (ps_set (i := 2) sc_block_share.nd rfl (by first | exact Or.inl rfl | exact Or.inr rfl) (pv 3)))
 pss_nil)))
 (pss_one (ps_ret (pv 2))))), ?_⟩
    walk_at "rd"
    refine for_range (lo := 0) (n := b.toNat) (fun i σ H' => H' = H ∧ ∃ v, σ = [some (.int b), some (.int p), some (.int (bestTo b p i)), v]) ⟨rfl, none, rfl⟩ ?_ ?_
    · rintro i σ H' hi ⟨rfl, v, rfl⟩
      have bl := bestTo_le b p i
      walk_at "rd"
      refine ite2 (fun c => ?_) (fun c => ?_)
      · have c := of_decide_eq_true c
        have e : bestTo b p (i + 1) = 0 + (i : Int) := by
          rw [Int.zero_add] at c ⊢
          unfold bestTo
          rw [if_pos c]
        rw [e]
        walk_at "rd"
        exact ⟨_, rfl⟩
      · have c : ¬ limitW b p (bestTo b p i) < limitW b p (0 + (i : Int)) := fun z => c (decide_eq_true z)
        have e : bestTo b p (i + 1) = bestTo b p i := by
          rw [Int.zero_add] at c
          show (if _ then _ else _) = _
          rw [if_neg c]
        rw [e]
        exact ⟨rfl, _, rfl⟩
    · rintro σ H' ⟨rfl, v, rfl⟩
      walk_at "rd"
      exact q
def sp_page_limit : Sp := fun vs H Q _ => ∃ b p : Int, vs = [.int b, .int p] ∧ (0 ≤ b ∧ b ≤ 1000) ∧ Q (.int (limitW b p (bestTo b p b.toNat))) H
theorem ok_page_limit (T : Tx K mg) : C8.Cal P w K mg base 5 "page_limit" sp_page_limit [] := by
  refine T.cal 4 4 sc_page_limit (fun _ _ _ _ _ _ us hl => match us, hl with | [_, _], _ => rfl) (fun vs H Q E h => ?_) (fun cdv A outer s H vs Q E hr h => ?_)
  · obtain ⟨b, p, rfl, _⟩ := h; rfl
  · obtain ⟨b, p, rfl, ⟨b0, b1⟩, q⟩ := h
    have bl := bestTo_le b p b.toNat
    refine ⟨_, (pss_one (ps_ret (C8.pe_c (ok_limit_with T) hr (by decide) (by rfl) (pa_cons (pv 0) (pa_cons (pv 1) (pa_cons (C8.pe_c (ok_block_share T) hr (by decide) (by rfl) (pa_cons (pv 0) (pa_cons (pv 1) pa_nil))) pa_nil)))))), ?_⟩
    walk_at "rd"
    exact q


/-! ### the stream -/
def stm (c : Addr) (i r m : Int) : List (Key × V) := [(.inr "cells", .ref c), (.inr "at", .int i), (.inr "rest", .int r), (.inr "mixed", .int m)]
theorem stm_cells (c : Addr) (i r m : Int) : valV (stm c i r m) (.inr "cells") = some (.ref c) := rfl
theorem stm_at (c : Addr) (i r m : Int) : valV (stm c i r m) (.inr "at") = some (.int i) := rfl
theorem stm_rest (c : Addr) (i r m : Int) : valV (stm c i r m) (.inr "rest") = some (.int r) := rfl
theorem stm_mixed (c : Addr) (i r m : Int) : valV (stm c i r m) (.inr "mixed") = some (.int m) := rfl
theorem stm_pat (c : Addr) (i r m j : Int) : putK (stm c i r m) (.inr "at") (.int j) = stm c j r m := rfl
theorem stm_prest (c : Addr) (i r m j : Int) : putK (stm c i r m) (.inr "rest") (.int j) = stm c i j m := rfl
theorem stm_pmixed (c : Addr) (i r m j : Int) : putK (stm c i r m) (.inr "mixed") (.int j) = stm c i r j := rfl
structure Stm (H : Hp) (p c : Addr) (ns : List Int) (i : Nat) (r m : Int) : Prop where
  d : H p = some (.dK (stm c i r m))
  l : H c = some (.lst (ns.map V.int))
theorem Stm.ne {H : Hp} {p c : Addr} {ns : List Int} {i : Nat} {r m : Int} (S : Stm H p c ns i r m) : c ≠ p := ne_of S.l S.d (by intro z; cases z)
def sp__law_fresh : Sp := fun vs H Q _ => ∃ (p c : Addr) (ns : List Int) (i : Nat) (r m : Int), vs = [.ref p] ∧ Stm H p c ns i r m ∧ ∀ r' m', Q .non (upd H p (.dK (stm c ((i + 1 : Nat) : Int) r' m')))
theorem ok__law_fresh (T : Tx K mg) : C8.Cal P w K mg base 1 "_law_fresh" sp__law_fresh [] := by
  refine T.cal 7 7 sc__law_fresh (fun _ _ _ _ _ _ us hl => match us, hl with | [_], _ => rfl) (fun vs H Q E h => ?_) (fun cdv A outer s H vs Q E hr h => ?_)
  · obtain ⟨p, c, ns, i, r, m, rfl, _⟩ := h; rfl
  · obtain ⟨p, c, ns, i, r, m, rfl, S, q⟩ := h
    have hu := hu_of hr
    have hd := S.d
    have hl := S.l
    refine ⟨_, (pss_cons (ps_set (i := 1) sc__law_fresh.nd rfl (by first | exact Or.inl rfl | exact Or.inr rfl) (pe_dget hu (pv 0) pe_str (fun _ _ => rfl)))
 (pss_cons (ps_set (i := 2) sc__law_fresh.nd rfl (by first | exact Or.inl rfl | exact Or.inr rfl) (pe_dget hu (pv 0) pe_str (fun _ _ => rfl)))
 (pss_cons (ps_set (i := 3) sc__law_fresh.nd rfl (by first | exact Or.inl rfl | exact Or.inr rfl) (pv 2))
 (C8.pss_cut (ps_if (pt_cmpR op_lt (pv 2) (pe_callB (call_len_seqK (K := K)) (by rfl) (T.free 13) (by decide +kernel) (pa_cons (pv 1) pa_nil)) (nomark _))
 (pss_one (ps_set (i := 3) sc__law_fresh.nd rfl (by first | exact Or.inl rfl | exact Or.inr rfl) (pe_ix (ix_listK (K := K)) (pv 1) (pv 2) (fun _ _ => rfl))))
 pss_nil)
 (C8.pss_cut (ps_if (pt_cmpR op_lt (pv 3) pe_int (nomark _))
 (pss_one (ps_set (i := 3) sc__law_fresh.nd rfl (by first | exact Or.inl rfl | exact Or.inr rfl) (pe_op op_sub (pe_op op_sub pe_int (pe_op op_mul pe_int (pv 3))) pe_int)))
 pss_nil)
 (pss_cons (ps_dput hu (pv 0) pe_str (pe_op op_add (pv 2) pe_int) rfl)
 (pss_cons (ps_if (pt_cmpR op_ge (pv 3) pe_int (nomark _))
 (pss_cons (ps_dput hu (pv 0) pe_str (pv 3) rfl)
 (pss_one ps_retN))
 pss_nil)
 (pss_cons (ps_set (i := 4) sc__law_fresh.nd rfl (by first | exact Or.inl rfl | exact Or.inr rfl) pe_int)
 (pss_cons (ps_set (i := 5) sc__law_fresh.nd rfl (by first | exact Or.inl rfl | exact Or.inr rfl) (pe_op op_mod (pe_callTy call_int1 (by rfl) (T.free 16) (by decide +kernel) (pa_cons (pe_op op_add (pe_op op_add (pe_op op_add (pe_op op_mul (pv 3) pe_int) (pe_dget hu (pv 0) pe_str (fun _ _ => rfl))) (pe_op op_mul (pv 2) pe_int)) pe_int) pa_nil)) (pv 4)))
 (pss_cons (ps_set (i := 6) sc__law_fresh.nd rfl (by first | exact Or.inl rfl | exact Or.inr rfl) (pe_op op_mod (pe_callTy call_int1 (by rfl) (T.free 16) (by decide +kernel) (pa_cons (pe_op op_add (pe_op op_add (pe_op op_mul (pv 5) (pv 5)) (pe_op op_mul pe_int (pv 5))) (pv 2)) pa_nil)) (pv 4)))
 (pss_cons (ps_set (i := 7) sc__law_fresh.nd rfl (by first | exact Or.inl rfl | exact Or.inr rfl) (pe_op op_mod (pe_callTy call_int1 (by rfl) (T.free 16) (by decide +kernel) (pa_cons (pe_op op_add (pe_op op_add (pe_op op_mul (pv 6) pe_int) (pe_op op_mul (pv 5) pe_int)) pe_int) pa_nil)) (pv 4)))
 (pss_cons (ps_set (i := 8) sc__law_fresh.nd rfl (by first | exact Or.inl rfl | exact Or.inr rfl) (pe_op op_mod (pe_callTy call_int1 (by rfl) (T.free 16) (by decide +kernel) (pa_cons (pe_op op_add (pe_op op_mul (pv 7) (pv 7)) (pv 6)) pa_nil)) (pv 4)))
 (pss_cons (ps_dput hu (pv 0) pe_str (pv 7) rfl)
 (pss_one (ps_dput hu (pv 0) pe_str (pe_op op_add (pe_op op_mul (pe_op op_add (pe_op op_mul (pv 8) (pv 4)) (pv 7)) (pv 4)) (pv 6)) rfl))))))))))))))), ?_⟩
    walk_at "rdd"
    refine ⟨fun σ H' => H' = H ∧ ∃ cell : Int, σ = [some (.ref p), some (.ref c), some (.int i), some (.int cell), none, none, none, none, none], ?_, ?_⟩
    · walk_at "rdd"
      refine ⟨_, _, rfl, .inl (SqL.of hl), ?_⟩
      walk_at "rdd"
      refine ite2 (fun z => ?_) (fun z => ?_)
      · have z := of_decide_eq_true z
        rw [List.length_map] at z
        walk_at "rdd"
        refine ⟨_, _, _, _, rfl, rfl, SqL.of hl, at_of rfl (getElem?_mapInt (by omega)), ?_⟩
        exact ⟨rfl, _, rfl⟩
      · exact ⟨rfl, _, rfl⟩
    · rintro σ H' ⟨rfl, cell, rfl⟩
      walk_at "rdd"
      refine ⟨fun σ H1 => H1 = H' ∧ ∃ cell : Int, σ = [some (.ref p), some (.ref c), some (.int i), some (.int cell), none, none, none, none, none], ?_, ?_⟩
      · walk_at "rdd"
        refine ite2 (fun z => ?_) (fun z => ?_)
        · walk_at "rdd"
          exact ⟨_, rfl⟩
        · exact ⟨rfl, _, rfl⟩
      · rintro σ H1 ⟨rfl, cell, rfl⟩
        walk_at "rdd"
        refine ite2 (fun z => ?_) (fun z => ?_)
        · walk_at "rdd"
          have e := q cell m
          rw [upd_upd']
          exact e
        · have z : ¬ (1000000000000000000 : Int) ≤ cell := fun y => z (decide_eq_true y)
          walk_at "rdd"
          rw [upd_upd', upd_upd']
          exact q _ _
/-- a stream stands at p, its cells at c -/
def StAt (H : Hp) (p c : Addr) (ns : List Int) : Prop := ∃ (i : Nat) (r m : Int), Stm H p c ns i r m
/-- nothing but p has changed -/
def Off (p : Addr) (H H' : Hp) : Prop := ∀ b, b ≠ p → H' b = H b
theorem Off.refl (p : Addr) (H : Hp) : Off p H H := fun _ _ => rfl
theorem Off.upd {p : Addr} {H : Hp} {o : HO} : Off p H (upd H p o) := fun _ h => upd_ne h
theorem Off.trans {p : Addr} {H H1 H2 : Hp} (a : Off p H H1) (b : Off p H1 H2) : Off p H H2 := fun c h => (b c h).trans (a c h)
/-- the stream at p goes on, all else that H0 knows stands as it stood there -/
structure Jn (p c : Addr) (ns : List Int) (H0 H : Hp) : Prop where
  s : ∃ (i : Nat) (r m : Int), H p = some (.dK (stm c i r m))
  k : ∀ b o, H0 b = some o → b ≠ p → H b = some o
  c0 : H0 c = some (.lst (ns.map V.int))
  cp : c ≠ p
section
variable {p c q : Addr} {ns : List Int} {H0 H H' : Hp} {o : HO}
theorem Jn.st (j : Jn p c ns H0 H) : StAt H p c ns := by
  obtain ⟨i, r, m, e⟩ := j.s
  exact ⟨i, r, m, e, j.k _ _ j.c0 j.cp⟩
theorem StAt.jn (s : StAt H p c ns) : Jn p c ns H H := by
  obtain ⟨i, r, m, e⟩ := s
  exact ⟨⟨i, r, m, e.d⟩, fun _ _ h _ => h, e.l, e.ne⟩
theorem Jn.here (j : Jn p c ns H0 H) : Jn p c ns H H := j.st.jn
theorem Jn.ne (j : Jn p c ns H0 H) (h : H q = none) : q ≠ p := by
  rintro rfl
  obtain ⟨i, r, m, e⟩ := j.s
  rw [e] at h
  cases h
theorem Jn.free (j : Jn p c ns H0 H) (h : H q = none) : H0 q = none := by
  cases e : H0 q with
  | none => rfl
  | some u =>
    rw [j.k _ _ e (j.ne h)] at h
    cases h
theorem Jn.mut (j : Jn p c ns H0 H) (hp : q ≠ p) (h0 : H0 q = none) : Jn p c ns H0 (upd H q o) := by
  obtain ⟨i, r, m, e⟩ := j.s
  exact ⟨⟨i, r, m, (upd_ne hp.symm).trans e⟩, fun b u hb hn => (upd_ne (ne_of_none hb h0)).trans (j.k b u hb hn), j.c0, j.cp⟩
theorem Jn.new (j : Jn p c ns H0 H) (h : H q = none) : Jn p c ns H0 (upd H q o) := j.mut (j.ne h) (j.free h)
theorem Jn.off (j : Jn p c ns H0 H) (s : StAt H' p c ns) (f : Off p H H') : Jn p c ns H0 H' := by
  obtain ⟨i, r, m, e⟩ := s
  exact ⟨⟨i, r, m, e.d⟩, fun b u hb hn => (f b hn).trans (j.k b u hb hn), j.c0, j.cp⟩
theorem Jn.same (j : Jn p c ns H0 H) (f : Same H H') : Jn p c ns H0 H' := by
  obtain ⟨i, r, m, e⟩ := j.s
  exact ⟨⟨i, r, m, f _ _ e⟩, fun b u hb hn => f _ _ (j.k b u hb hn), j.c0, j.cp⟩
theorem Jn.get (j : Jn p c ns H0 H) (h : H0 q = some o) (hp : q ≠ p) : H q = some o := j.k q o h hp
theorem Jn.trans {H1 : Hp} (j : Jn p c ns H0 H1) (i : Jn p c ns H1 H) : Jn p c ns H0 H := ⟨i.s, fun b u hb hn => i.k b u (j.k b u hb hn) hn, j.c0, j.cp⟩
end
def sp__law_pick : Sp := fun vs H Q _ => ∃ (p : Addr) (many : Int), vs = [.ref p, .int many] ∧ ∃ (c : Addr) (ns : List Int), StAt H p c ns ∧ (0 < many ∧ many < 1073741824) ∧ ∀ d H', 0 ≤ d → d < many → StAt H' p c ns → Off p H H' → Q (.int d) H'
theorem ok__law_pick (T : Tx K mg) : C8.Cal P w K mg base 2 "_law_pick" sp__law_pick [] := by
  refine T.cal 8 8 sc__law_pick (fun _ _ _ _ _ _ us hl => match us, hl with | [_, _], _ => rfl) (fun vs H Q E h => ?_) (fun cdv A outer s H vs Q E hr h => ?_)
  · obtain ⟨p, many, rfl, _⟩ := h; rfl
  · obtain ⟨p, many, rfl, c, ns, ⟨i, r, m, S⟩, ⟨m0, m1⟩, q⟩ := h
    have hu := hu_of hr
    have hd := S.d
    have hl := S.l
    have ne := S.ne
    refine ⟨_, (C8.pss_cut (ps_if (pt_cmpR op_lt (pe_dget hu (pv 0) pe_str (fun _ _ => rfl)) (pv 1) (nomark _))
 (pss_one (ps_expr (C8.pe_c (ok__law_fresh T) hr (by decide) (by rfl) (pa_cons (pv 0) pa_nil))))
 pss_nil)
 (pss_cons (ps_set (i := 2) sc__law_pick.nd rfl (by first | exact Or.inl rfl | exact Or.inr rfl) (pe_op op_mod (pe_callTy call_int1 (by rfl) (T.free 16) (by decide +kernel) (pa_cons (pe_dget hu (pv 0) pe_str (fun _ _ => rfl)) pa_nil)) (pv 1)))
 (pss_cons (ps_dput hu (pv 0) pe_str (pe_op op_fdiv (pe_dget hu (pv 0) pe_str (fun _ _ => rfl)) (pv 1)) rfl)
 (pss_one (ps_ret (pv 2)))))), ?_⟩
    walk_at "rdd"
    refine ⟨fun σ H' => ∃ (i' : Nat) (r' m' : Int), σ = [some (.ref p), some (.int many), none] ∧ Stm H' p c ns i' r' m' ∧ Off p H H', ?_, ?_⟩
    · walk_at "rdd"
      refine ite2 (fun z => ?_) (fun z => ?_)
      · walk_at "rdd"
        exact ⟨p, c, ns, i, r, m, rfl, S, fun r' m' => ⟨i + 1, r', m', rfl, ⟨upd_same, by rw [upd_ne ne]; exact hl⟩, Off.upd⟩⟩
      · exact ⟨i, r, m, rfl, S, Off.refl p H⟩
    · rintro σ H' ⟨i', r', m', rfl, S', o⟩
      have hd := S'.d
      have hl := S'.l
      walk_at "rdd"
      refine q _ _ (Int.emod_nonneg _ (by omega)) (Int.emod_lt_of_pos _ m0) ⟨i', r' / many, m', ?_, ?_⟩ (o.trans Off.upd)
      · exact upd_same
      · rw [upd_ne ne]
        exact hl
def sp__law_stream (K : PySem.W.Frag) : Sp := fun vs H Q _ => ∃ (a : Addr) (ns : List Int), vs = [.ref a] ∧ SqL K H a (ns.map V.int) ∧ ns.length ≤ 63 ∧ ∀ p c ms H', H p = none → StAt H' p c ms → Same H H' → Q (.ref p) H'
theorem ok__law_stream (T : Tx K mg) : C8.Cal P w K mg base 1 "_law_stream" (sp__law_stream K) [] := by
  refine T.cal 9 9 sc__law_stream (fun _ _ _ _ _ _ us hl => match us, hl with | [_], _ => rfl) (fun vs H Q E h => ?_) (fun cdv A outer s H vs Q E hr h => ?_)
  · obtain ⟨a, ns, rfl, _⟩ := h; rfl
  · obtain ⟨a, ns, rfl, hS, hlen, q⟩ := h
    have hu := hu_of hr
    refine ⟨_, (pss_one (ps_ret (pe_disp (pps_cons pe_str (pe_lc (own := [("cell", 1)]) (by rfl) sc__law_stream.nd (pi_listK (K := K) (pe_slice (sl_listK (K := K)) (pv 0) po_none (po_some pe_int))) (blkOk_by (own := [("cell", 1)]) (by kernel_rfl)) (fun _ _ _ _ _ => (pg_name (i := 1) sc__law_stream.nd rfl (by first | exact Or.inl rfl | exact Or.inr rfl))) (fun _ _ _ _ _ => pts_nil) (fun _ _ _ _ _ => (pe_callTy call_int1 (by rfl) (T.free 16) (by decide +kernel) (pa_cons (pv 1) pa_nil)))) (pps_cons pe_str pe_int (pps_cons pe_str pe_int (pps_cons pe_str pe_int pps_nil)))) (by rfl) (by rfl) (fun z => by cases z) (by decide)))), ?_⟩
    walk_at "rdd"
    intro p hp
    walk_at "rdd"
    refine ⟨_, _, rfl, (Same.new hp).seq hS, fun l hl => ?_⟩
    obtain ⟨ms, em, lm⟩ := cutV_map (ns := ns) (lo := none) (hi := some 63)
    rw [em]
    have npl : p ≠ l := ne_of_none upd_same hl
    walk_at "rdd"
    intro D hD
    have npD : p ≠ D := ne_of_none ((upd_ne npl).trans upd_same) hD
    refine lc_listP (xs := ms.map V.int) (j := 1) (fun _ => true) id (SqL.of upd_same) hD (small1000 (by rw [List.length_map]; omega)) (fun x acc Qk _ h => h) (fun x acc Qk hx _ h => ?_) ?_
    · obtain ⟨z, _, rfl⟩ := List.mem_map.mp hx
      walk_at "rdd"
      exact h
    · rw [filt_all, List.map_id]
      refine ⟨(upd_ne npD).trans ((upd_ne npl).trans upd_same), stm D 0 0 40503, rfl, (by show 4 ≤ 15; decide), ?_⟩
      have same : Same H (upd (upd (upd H p (.dK [])) l (.lst (ms.map V.int))) D (.lst (ms.map V.int))) := ((Same.new hp).trans (Same.new hl)).trans (Same.new hD)
      refine q p D ms _ hp ⟨0, 0, 40503, upd_same, ?_⟩ fun b o e => ?_
      · rw [upd_ne npD.symm, upd_same]
      · rw [upd_ne (ne_of_none e hp)]
        exact same b o e


/-! ### the law's own shares -/
def limL (b p s : Int) : Int :=
  if s + 2 ≤ b - (b / 16 + 1) - 3 - (s + 7) ∧ b - (b / 16 + 1) - 3 - (s + 7) ≤ 2 * (s + 2) then (s * p - 28) * (b - (b / 16 + 1) - 3 - (s + 7)) / (s + 2) else 0
theorem limL_eq {b p s : Int} (hb : 24 ≤ b ∧ b ≤ 48) (hp : 16 ≤ p ∧ p ≤ 32) (hs : 0 ≤ s) : limL b p s = limitW b p s := by
  unfold limL limitW data spare
  generalize hd : b - (b / 16 + 1) - 3 - (s + 7) = d
  by_cases c : s + 2 ≤ d ∧ d ≤ 2 * (s + 2)
  · have m1 : max 0 d = d := by omega
    have s3 : 3 ≤ s := by omega
    have sp : 3 * 16 ≤ s * p := Int.mul_le_mul s3 hp.1 (by decide) hs
    have m2 : max 0 (s * p - 28) = s * p - 28 := by omega
    rw [m1, m2, if_pos c]
  · have c' : ¬ (s + 2 ≤ max 0 d ∧ max 0 d ≤ 2 * (s + 2)) := by omega
    rw [if_neg c, if_neg c']
theorem bestTo_max (b p : Int) : ∀ n : Nat, (∀ y : Nat, y < n → limitW b p y ≤ limitW b p (bestTo b p n)) ∧ (∀ y : Nat, (y : Int) < bestTo b p n → limitW b p y < limitW b p (bestTo b p n)) ∧ (0 < n → bestTo b p n < n)
  | 0 => by
    refine ⟨fun y h => absurd h (Nat.not_lt_zero _), fun y h => ?_, fun h => absurd h (Nat.lt_irrefl _)⟩
    simp only [bestTo] at h
    omega
  | n + 1 => by
    obtain ⟨h1, h2, h3⟩ := bestTo_max b p n
    have hl := bestTo_le b p n
    unfold bestTo
    by_cases c : limitW b p (bestTo b p n) < limitW b p n
    · rw [if_pos c]
      refine ⟨fun y hy => ?_, fun y hy => ?_, fun _ => by omega⟩
      · rcases Nat.lt_succ_iff_lt_or_eq.mp hy with z | rfl
        · exact Int.le_of_lt (Int.lt_of_le_of_lt (h1 y z) c)
        · exact Int.le_refl _
      · exact Int.lt_of_le_of_lt (h1 y (by omega)) c
    · rw [if_neg c]
      refine ⟨fun y hy => ?_, h2, fun _ => by
        rcases Nat.eq_zero_or_pos n with rfl | z
        · simp [bestTo]
        · have := h3 z; omega⟩
      rcases Nat.lt_succ_iff_lt_or_eq.mp hy with z | rfl
      · exact h1 y z
      · omega
def limsTo (b p : Int) (n : Nat) : List Int := (List.range n).map fun s => limitW b p (s : Nat)
theorem limsTo_succ (b p : Int) (n : Nat) : limsTo b p (n + 1) = limsTo b p n ++ [limitW b p n] := by
  unfold limsTo
  rw [List.range_succ, List.map_append]
  rfl
theorem limsTo_get {b p : Int} {n i : Nat} (h : i < n) : (limsTo b p n)[i]? = some (limitW b p i) := by
  unfold limsTo
  rw [List.getElem?_map, List.getElem?_range h]
  rfl
theorem limsTo_mem {b p m : Int} {n : Nat} (h : m ∈ limsTo b p n) : ∃ i : Nat, i < n ∧ m = limitW b p i := by
  obtain ⟨i, hi, e⟩ := List.mem_map.mp h
  exact ⟨i, List.mem_range.mp hi, e.symm⟩
def sp__law_shares : Sp := fun vs H Q _ => ∃ b p : Int, vs = [.int b, .int p] ∧ (24 ≤ b ∧ b ≤ 48) ∧ (16 ≤ p ∧ p ≤ 32) ∧
  ∀ t H', H t = none → Same H H' → H' t = some (.tup [.int (bestTo b p b.toNat), .int (limitW b p (bestTo b p b.toNat))]) → Q (.ref t) H'
theorem ok__law_shares (T : Tx K mg) : C8.Cal P w K mg base 1 "_law_shares" sp__law_shares [] := by
  refine T.cal 10 10 sc__law_shares (fun _ _ _ _ _ _ us hl => match us, hl with | [_, _], _ => rfl) (fun vs H Q E h => ?_) (fun cdv A outer s H vs Q E hr h => ?_)
  · obtain ⟨b, p, rfl, _⟩ := h; rfl
  · obtain ⟨b, p, rfl, hb, hp, q⟩ := h
    have hu := hu_of hr
    refine ⟨_, (pss_cons (ps_set (i := 2) sc__law_shares.nd rfl (by first | exact Or.inl rfl | exact Or.inr rfl) (pe_lst pa_nil))
 (pss_cons (ps_for PassesOwn.never rfl (pi_range1 (by rfl) (T.free 15) (pa_cons (pv 0) pa_nil)) (pg_name (i := 3) sc__law_shares.nd rfl (by first | exact Or.inl rfl | exact Or.inr rfl))
 (pss_cons (ps_set (i := 4) sc__law_shares.nd rfl (by first | exact Or.inl rfl | exact Or.inr rfl) (pe_op op_sub (pe_op op_sub (pe_op op_sub (pv 0) (pe_op op_add (pe_op op_fdiv (pv 0) pe_int) pe_int)) pe_int) (pe_op op_add (pv 3) pe_int)))
 (pss_cons (ps_set (i := 5) sc__law_shares.nd rfl (by first | exact Or.inl rfl | exact Or.inr rfl) pe_int)
 (C8.pss_cut (ps_if (PW.pt (pw_and (pt_cmpR op_le (pe_op op_add (pv 3) pe_int) (pv 4) (nomark _)) (pw_and1 (pt_cmpR op_le (pv 4) (pe_op op_mul pe_int (pe_op op_add (pv 3) pe_int)) (nomark _)))))
 (pss_one (ps_set (i := 5) sc__law_shares.nd rfl (by first | exact Or.inl rfl | exact Or.inr rfl) (pe_op op_fdiv (pe_op op_mul (pe_op op_sub (pe_op op_mul (pv 3) (pv 1)) pe_int) (pv 4)) (pe_op op_add (pv 3) pe_int))))
 pss_nil)
 (pss_one (ps_expr (bmK (K := K) (pe_bm PySem.F.plainAttrs_list PySem.F.slot_list_append PySem.F.type_list_append mt_append (pv 2) (pa_cons (pv 5) pa_nil)))))))))
 (pss_cons (ps_set (i := 6) sc__law_shares.nd rfl (by first | exact Or.inl rfl | exact Or.inr rfl) (pe_callB (cr_maxK (K := K) rfl) (by rfl) (T.free 14) (by decide +kernel) (pa_cons (pv 2) pa_nil)))
 (pss_one (ps_ret (pe_tup (pa_cons (bmK (K := K) (pe_bm PySem.F.plainAttrs_list PySem.F.slot_list_index PySem.F.type_list_index (mt_indexK (K := K)) (pv 2) (pa_cons (pv 6) pa_nil))) (pa_cons (pv 6) pa_nil)))))))), ?_⟩
    walk_at "rdd"
    refine ⟨by show 0 ≤ sizeLine; decide, fun l hl => ?_⟩
    walk_at "rdd"
    refine for_range (lo := 0) (n := b.toNat) (fun i σ H' => ∃ v3 v4 v5, σ = [some (.int b), some (.int p), some (.ref l), v3, v4, v5, none] ∧ H' = upd H l (.lst ((limsTo b p i).map V.int))) ⟨none, none, none, rfl, rfl⟩ ?_ ?_
    · rintro i σ H' hi ⟨v3, v4, v5, rfl, rfl⟩
      walk_at "rdd"
      refine ⟨fun σ H' => ∃ v3 v4, σ = [some (.int b), some (.int p), some (.ref l), v3, v4, some (.int (limitW b p i)), none] ∧ H' = upd H l (.lst ((limsTo b p i).map V.int)), ?_, ?_⟩
      · rw [← limL_eq hb hp (by omega : 0 ≤ (i : Int))]
        walk_at "rdd"
        have z0 : (0 : Int) + (i : Nat) = (i : Nat) := Int.zero_add _
        refine ite2 (fun c1 => ?_) (fun c1 => ?_)
        · have c1 := of_decide_eq_true c1
          walk_at "rdd"
          refine ite2 (fun c2 => ?_) (fun c2 => ?_)
          · have c2 := of_decide_eq_true c2
            have e : limL b p i = ((0 + (i : Int)) * p - 28) * (b - (b / 16 + 1) - 3 - (0 + (i : Int) + 7)) / (0 + (i : Int) + 2) := by
              rw [z0] at c1 c2 ⊢
              unfold limL
              rw [if_pos ⟨c1, c2⟩]
            rw [e]
            walk_at "rdd"
            walk_at "fin"
          · have e : limL b p i = 0 := by
              unfold limL
              rw [z0] at c2
              rw [if_neg fun z => c2 (decide_eq_true z.2)]
            rw [e]
            exact ⟨_, _, rfl, rfl⟩
        · have e : limL b p i = 0 := by
            unfold limL
            rw [z0] at c1
            rw [if_neg fun z => c1 (decide_eq_true z.1)]
          rw [e]
          refine iteF ?_
          walk_at "fin"
      · rintro σ H' ⟨v3, v4, rfl, rfl⟩
        walk_at "rdd"
        refine ⟨_, _, _, rfl, rfl, upd_same, small1000 (by rw [List.length_map, limsTo, List.length_map, List.length_range]; omega), ?_⟩
        refine ⟨v3, v4, _, rfl, ?_⟩
        rw [upd_upd, limsTo_succ, List.map_append]
        rfl
    · rintro σ H' ⟨v3, v4, v5, rfl, rfl⟩
      walk_at "rdd"
      have hbn : 0 < b.toNat := by omega
      obtain ⟨x1, x2, x3⟩ := bestTo_max b p b.toNat
      have x3 := x3 hbn
      have bl := bestTo_le b p b.toNat
      refine ⟨l, limsTo b p b.toNat, rfl, SqL.of upd_same, by rw [limsTo, List.length_map, List.length_range]; exact hbn, fun m hm hmax => ?_⟩
      have em : m = limitW b p (bestTo b p b.toNat) := by
        obtain ⟨i, hi, rfl⟩ := limsTo_mem hm
        have y1 := x1 i hi
        have y2 := hmax _ (List.mem_of_getElem? (limsTo_get (b := b) (p := p) (i := (bestTo b p b.toNat).toNat) (n := b.toNat) (by omega)))
        rw [Int.toNat_of_nonneg bl.1] at y2
        omega
      subst em
      walk_at "rdd"
      have bn : ((bestTo b p b.toNat).toNat : Int) = bestTo b p b.toNat := Int.toNat_of_nonneg bl.1
      have gt : ((limsTo b p b.toNat).map V.int)[(bestTo b p b.toNat).toNat]? = some (V.int (limitW b p (bestTo b p b.toNat))) := by
        rw [List.getElem?_map, limsTo_get (by omega), bn]
        rfl
      refine ⟨l, _, _, _, _, rfl, rfl, SqL.of upd_same, rfl, ?_, gt, ?_, ?_, ?_⟩
      · exact List.all_eq_true.mpr fun x hx => by
          obtain ⟨z, _, rfl⟩ := List.mem_map.mp hx
          rfl
      · exact beq_self_eq_true (limitW b p (bestTo b p b.toNat))
      · intro m z' hm hz
        rw [List.getElem?_map, limsTo_get (by omega)] at hz
        cases hz
        have lt := x2 m (by omega)
        exact beq_eq_false_iff_ne.mpr (by omega)
      · walk_at "rdd"
        rw [bn]
        refine ⟨by show 2 ≤ sizeLine; decide, fun t ht => ?_⟩
        exact q t _ ((Same.new hl).free ht) ((Same.new hl).trans (Same.new ht)) upd_same


/-! ### nodes and pages counted -/
def spans : List Int := [32, 1024, 32768, 1048576]
def cnt (ns : List Int) (sp : Int) : Nat := (uniq (ns.map (· / sp))).length
def nodesTo (ns : List Int) (i : Nat) : Nat := ((spans.take i).map (cnt ns)).sum
def nodesC (ns : List Int) : Nat := (spans.map (cnt ns)).sum
theorem nodesTo_succ (ns : List Int) {i : Nat} {sp : Int} (h : spans[i]? = some sp) : nodesTo ns (i + 1) = nodesTo ns i + cnt ns sp := by
  unfold nodesTo
  rw [take_snoc h, List.map_append, List.sum_append]
  simp
theorem spans_ok {i : Nat} {sp : Int} (h : spans[i]? = some sp) : 0 < sp ∧ sp < 1073741824 := by
  have m := List.mem_of_getElem? h
  simp only [spans, List.mem_cons, List.not_mem_nil, or_false] at m
  omega
theorem ints_get {ns : List Int} {i : Nat} {x : V} (h : (ns.map V.int)[i]? = some x) : ∃ z, ns[i]? = some z ∧ x = .int z := by
  rw [List.getElem?_map] at h
  cases e : ns[i]? with
  | none => rw [e] at h; cases h
  | some z => rw [e] at h; exact ⟨z, rfl, (Option.some.inj h).symm⟩
def sp_nodes_counted (K : PySem.W.Frag) : Sp := fun vs H Q _ => ∃ (a : Addr) (ns : List Int), vs = [.ref a] ∧ SqL K H a (ns.map V.int) ∧ ns.length ≤ 100 ∧ ∀ H', Same H H' → Q (.int (nodesC ns : Nat)) H'
theorem ok_nodes_counted (T : Tx K mg) : C8.Cal P w K mg base 1 "nodes_counted" (sp_nodes_counted K) [] := by
  refine T.cal 5 5 sc_nodes_counted (fun _ _ _ _ _ _ us hl => match us, hl with | [_], _ => rfl) (fun vs H Q E h => ?_) (fun cdv A outer s H vs Q E hr h => ?_)
  · obtain ⟨b, p, rfl, _⟩ := h; rfl
  · obtain ⟨a, ns, rfl, hS, hl, q⟩ := h
    have hu := hu_of hr
    have tS : ∀ H, SqT K H (He.ga K "SPANS") (spans.map V.int) := fun H => He.tupB_ok T.m H
    refine ⟨_, (pss_cons (ps_set (i := 1) sc_nodes_counted.nd rfl (by first | exact Or.inl rfl | exact Or.inr rfl) pe_int)
 (pss_cons (ps_for PassesOwn.never rfl (pi_tupK (K := K) (pe_glob (v := .ref (He.ga K "SPANS")) (by rfl) (T.glo 12) rfl)) (pg_name (i := 2) sc_nodes_counted.nd rfl (by first | exact Or.inl rfl | exact Or.inr rfl))
 (pss_one (ps_aug (i := 1) sc_nodes_counted.nd rfl (by first | exact Or.inl rfl | exact Or.inr rfl) (pe_callB call_lenS (by rfl) (T.free 13) (by decide +kernel) (pa_cons (pe_set freshI addsI (own := [("key", 3)]) (by rfl) sc_nodes_counted.nd (pi_listK (K := K) (pv 0)) (blkOk_by (own := [("key", 3)]) (by kernel_rfl)) (fun _ _ _ _ _ => (pg_name (i := 3) sc_nodes_counted.nd rfl (by first | exact Or.inl rfl | exact Or.inr rfl))) (fun _ _ _ _ _ => pts_nil) (fun _ _ _ _ _ => (pe_op op_fdiv (pv 3) (pv 2)))) pa_nil)) ip_add)))
 (pss_one (ps_ret (pv 1))))), ?_⟩
    walk_at "rdd"
    refine ⟨⟨_, tS _⟩, for_tup (K := K) (a := He.ga K "SPANS") (xs := spans.map V.int) (fun i σ H' => ∃ v, σ = [some (.ref a), some (.int (nodesTo ns i : Nat)), v, none] ∧ Same H H') ⟨none, rfl, Same.refl H⟩ (fun i σ H' _ _ => tS H') ?_ ?_⟩
    · rintro i x σ H' hx ⟨v, rfl, k⟩
      obtain ⟨sp, hsp, rfl⟩ := ints_get hx
      obtain ⟨sp0, sp1⟩ := spans_ok hsp
      walk_at "rdd"
      intro D hD
      refine sc_listP (xs := ns.map V.int) (j := 3) (fun x => match x with | .int z => z / sp | _ => 0) (k.seq hS) hD (by rw [List.length_map]; omega) (fun x o Qk hx h => ?_) ?_
      · obtain ⟨z, _, rfl⟩ := List.mem_map.mp hx
        walk_at "rdd"
        exact h
      · rw [List.map_map]
        walk_at "rdd"
        refine ⟨D, _, _, rfl, upd_same, ?_⟩
        walk_at "rdd"
        refine ⟨some (.int sp), ?_, k.trans (Same.new hD)⟩
        rw [nodesTo_succ ns hsp]
        rfl
    · rintro σ H' ⟨v, rfl, k⟩
      walk_at "rdd"
      exact q H' k
def sp_pages_counted (K : PySem.W.Frag) : Sp := fun vs H Q _ => ∃ (a : Addr) (ns : List Int), vs = [.ref a] ∧ SqL K H a (ns.map V.int) ∧ ns.length ≤ 100 ∧ ∀ H', Same H H' → Q (.int (((uniq ns).length : Nat) + 2 * (nodesC ns : Nat))) H'
theorem ok_pages_counted (T : Tx K mg) : C8.Cal P w K mg base 2 "pages_counted" (sp_pages_counted K) [] := by
  refine T.cal 6 6 sc_pages_counted (fun _ _ _ _ _ _ us hl => match us, hl with | [_], _ => rfl) (fun vs H Q E h => ?_) (fun cdv A outer s H vs Q E hr h => ?_)
  · obtain ⟨b, p, rfl, _⟩ := h; rfl
  · obtain ⟨a, ns, rfl, hS, hl, q⟩ := h
    have hu := hu_of hr
    refine ⟨_, (pss_one (ps_ret (pe_op op_add (pe_callB call_lenS (by rfl) (T.free 13) (by decide +kernel) (pa_cons (pe_set freshI addsI (own := [("key", 1)]) (by rfl) sc_pages_counted.nd (pi_listK (K := K) (pv 0)) (blkOk_by (own := [("key", 1)]) (by kernel_rfl)) (fun _ _ _ _ _ => (pg_name (i := 1) sc_pages_counted.nd rfl (by first | exact Or.inl rfl | exact Or.inr rfl))) (fun _ _ _ _ _ => pts_nil) (fun _ _ _ _ _ => (pv 1))) pa_nil)) (pe_op op_mul pe_int (C8.pe_c (ok_nodes_counted T) hr (by decide) (by rfl) (pa_cons (pv 0) pa_nil)))))), ?_⟩
    walk_at "rdd"
    intro D hD
    refine sc_listP (xs := ns.map V.int) (j := 1) (fun x => match x with | .int z => z | _ => 0) hS hD (by rw [List.length_map]; omega) (fun x o Qk hx h => ?_) ?_
    · obtain ⟨z, _, rfl⟩ := List.mem_map.mp hx
      walk_at "rdd"
      exact h
    · rw [List.map_map]
      have e : (fun x => match x with | V.int z => z | _ => 0) ∘ V.int = id := rfl
      rw [e, List.map_id]
      walk_at "rdd"
      refine ⟨D, _, _, rfl, upd_same, ?_⟩
      walk_at "rdd"
      refine ⟨a, ns, rfl, (Same.new hD).seq hS, hl, fun H' k => ?_⟩
      walk_at "rdd"
      exact q H' ((Same.new hD).trans k)


/-! ### pairs of a level and a number, each once -/
abbrev Pr := Int × Int
def addP (us : List Pr) (k : Pr) : List Pr := if k ∈ us then us else us ++ [k]
def lvl (us : List Pr) (l : Int) : List Int := (us.filter fun x => decide (x.1 = l)).map (·.2)
theorem mem_lvl {us : List Pr} {l k : Int} : k ∈ lvl us l ↔ (l, k) ∈ us := by
  unfold lvl
  constructor
  · intro h
    obtain ⟨x, hx, rfl⟩ := List.mem_map.mp h
    obtain ⟨h1, h2⟩ := List.mem_filter.mp hx
    have e := of_decide_eq_true h2
    subst e
    exact h1
  · intro h
    exact List.mem_map.mpr ⟨(l, k), List.mem_filter.mpr ⟨h, decide_eq_true rfl⟩, rfl⟩
theorem lvl_snoc (us : List Pr) (x : Pr) (l : Int) : lvl (us ++ [x]) l = if x.1 = l then lvl us l ++ [x.2] else lvl us l := by
  unfold lvl
  rw [List.filter_append, List.map_append]
  by_cases h : x.1 = l
  · rw [if_pos h]
    simp [h]
  · rw [if_neg h]
    simp [h]
theorem lvl_same (us : List Pr) (l k : Int) : lvl (addP us (l, k)) l = addU (lvl us l) k := by
  unfold addP addU
  by_cases h : (l, k) ∈ us
  · rw [if_pos h, if_pos (mem_lvl.mpr h)]
  · rw [if_neg h, if_neg (fun z => h (mem_lvl.mp z)), lvl_snoc, if_pos rfl]
theorem lvl_other (us : List Pr) {l m : Int} (k : Int) (h : ¬ l = m) : lvl (addP us (l, k)) m = lvl us m := by
  unfold addP
  split
  · rfl
  · rw [lvl_snoc, if_neg h]
/-- all levels are 0 to 3 -/
def Lv (us : List Pr) : Prop := ∀ x ∈ us, 0 ≤ x.1 ∧ x.1 < 4
theorem Lv.add {us : List Pr} (h : Lv us) {l k : Int} (h0 : 0 ≤ l) (h4 : l < 4) : Lv (addP us (l, k)) := by
  unfold addP
  split
  · exact h
  · intro x hx
    rcases List.mem_append.mp hx with z | z
    · exact h x z
    · rw [List.mem_singleton.mp z]
      exact ⟨h0, h4⟩
theorem lvl_len : ∀ {us : List Pr}, Lv us → us.length = (lvl us 0).length + (lvl us 1).length + (lvl us 2).length + (lvl us 3).length
  | [], _ => rfl
  | x :: r, h => by
    have ih := lvl_len (us := r) fun y hy => h y (List.mem_cons_of_mem _ hy)
    obtain ⟨h0, h4⟩ := h x List.mem_cons_self
    have c : ∀ l, (lvl (x :: r) l).length = (if x.1 = l then 1 else 0) + (lvl r l).length := by
      intro l
      unfold lvl
      rw [List.filter_cons]
      by_cases e : x.1 = l
      · simp [e]; omega
      · simp [e]
    rw [c, c, c, c, List.length_cons, ih]
    have : x.1 = 0 ∨ x.1 = 1 ∨ x.1 = 2 ∨ x.1 = 3 := by omega
    rcases this with e | e | e | e <;> rw [e] <;> simp <;> omega
/-- the span of a level -/
def spn (l : Nat) : Int := spans.getD l 1
/-- behind j levels of the key z, behind the keys ks -/
structure NI (us : List Pr) (ks : List Int) (z : Int) (j : Nat) : Prop where
  lv : Lv us
  done : ∀ l : Nat, l < j → l < 4 → lvl us l = uniq ((ks ++ [z]).map (· / spn l))
  todo : ∀ l : Nat, j ≤ l → l < 4 → lvl us l = uniq (ks.map (· / spn l))
theorem NI.start : NI [] [] z 0 := ⟨fun x h => absurd h List.not_mem_nil, fun l h => absurd h (Nat.not_lt_zero _), fun _ _ _ => rfl⟩
theorem NI.next {us : List Pr} {ks : List Int} {z y : Int} (h : NI us ks z 4) : NI us (ks ++ [z]) y 0 := ⟨h.lv, fun l h => absurd h (Nat.not_lt_zero _), fun l _ h4 => h.done l h4 h4⟩
theorem NI.any {us : List Pr} {ks : List Int} {z y : Int} (h : NI us ks z 0) : NI us ks y 0 := ⟨h.lv, fun l h => absurd h (Nat.not_lt_zero _), h.todo⟩
theorem NI.step {us : List Pr} {ks : List Int} {z : Int} {j : Nat} (h : NI us ks z j) (hj : j < 4) : NI (addP us ((j : Int), z / spn j)) ks z (j + 1) := by
  refine ⟨h.lv.add (by omega) (by omega), fun l hl h4 => ?_, fun l hl h4 => ?_⟩
  · by_cases e : l = j
    · subst e
      rw [lvl_same, h.todo l (Nat.le_refl _) h4, List.map_append]
      exact (uniq_snoc _ _).symm
    · rw [lvl_other _ _ (by omega)]
      exact h.done l (by omega) h4
  · rw [lvl_other _ _ (by omega)]
    exact h.todo l (by omega) h4
theorem NI.len {us : List Pr} {ks : List Int} {z : Int} (h : NI us ks z 0) : us.length = nodesC ks := by
  rw [lvl_len h.lv]
  have h0 := h.todo 0 (by decide) (by decide)
  have h1 := h.todo 1 (by decide) (by decide)
  have h2 := h.todo 2 (by decide) (by decide)
  have h3 := h.todo 3 (by decide) (by decide)
  rw [show ((0 : Nat) : Int) = 0 from rfl] at h0
  rw [show ((1 : Nat) : Int) = 1 from rfl] at h1
  rw [show ((2 : Nat) : Int) = 2 from rfl] at h2
  rw [show ((3 : Nat) : Int) = 3 from rfl] at h3
  rw [h0, h1, h2, h3]
  show _ = cnt ks 32 + (cnt ks 1024 + (cnt ks 32768 + (cnt ks 1048576 + 0)))
  unfold cnt
  show (uniq (ks.map (· / 32))).length + (uniq (ks.map (· / 1024))).length + (uniq (ks.map (· / 32768))).length + (uniq (ks.map (· / 1048576))).length = _
  omega
/-- z divided j times -/
def dv (z : Int) : Nat → Int
  | 0 => z
  | j + 1 => dv z j / 32
theorem dv_spn (z : Int) {j : Nat} (h : j < 4) : dv z (j + 1) = z / spn j := by
  have : j = 0 ∨ j = 1 ∨ j = 2 ∨ j = 3 := by omega
  rcases this with rfl | rfl | rfl | rfl
  · rfl
  · show z / 32 / 32 = z / 1024
    omega
  · show z / 32 / 32 / 32 = z / 32768
    omega
  · show z / 32 / 32 / 32 / 32 = z / 1048576
    omega
/-- the places that are new -/
def news (ks : List Int) (n : Nat) : List Nat := (List.range n).filter fun j => !decide (ks.getD j 0 ∈ ks.take j)
theorem uniq_mem (l : List Int) (k : Int) : k ∈ uniq l ↔ k ∈ l := by
  have gen : ∀ (l us : List Int), k ∈ l.foldl addU us ↔ k ∈ us ∨ k ∈ l := by
    intro l
    induction l with
    | nil => intro us; simp
    | cons a r ih =>
      intro us
      rw [List.foldl_cons, ih, addU_mem, List.mem_cons]
      constructor
      · rintro ((h | h) | h)
        · exact .inl h
        · exact .inr (.inl h)
        · exact .inr (.inr h)
      · rintro (h | h | h)
        · exact .inl (.inl h)
        · exact .inl (.inr h)
        · exact .inr h
  have := gen l []
  rw [show uniq l = l.foldl addU [] from rfl, this]
  simp
theorem news_len (ks : List Int) : ∀ n : Nat, n ≤ ks.length → (news ks n).length = (uniq (ks.take n)).length
  | 0, _ => rfl
  | n + 1, h => by
    have ih := news_len ks n (by omega)
    have hx : ks[n]? = some ks[n] := List.getElem?_eq_getElem (by omega)
    have gd : ks.getD n 0 = ks[n] := by rw [List.getD_eq_getElem?_getD, hx]; rfl
    unfold news at ih ⊢
    rw [List.range_succ, List.filter_append, List.length_append, ih, take_snoc hx, uniq_snoc, addU_len]
    by_cases c : ks[n] ∈ ks.take n
    · rw [if_pos ((uniq_mem _ _).mpr c)]
      simp only [List.filter_cons, List.filter_nil, gd, decide_eq_true c]
      rfl
    · rw [if_neg (fun z => c ((uniq_mem _ _).mp z))]
      simp only [List.filter_cons, List.filter_nil, gd, decide_eq_false c]
      rfl
theorem NI.bound {us : List Pr} {ks : List Int} {z : Int} {j : Nat} (h : NI us ks z j) : us.length ≤ 4 * (ks.length + 1) := by
  have b : ∀ l : Nat, l < 4 → (lvl us l).length ≤ ks.length + 1 := by
    intro l hl
    by_cases c : l < j
    · rw [h.done l c hl]
      refine Nat.le_trans (uniq_len_le _) ?_
      rw [List.length_map, List.length_append]
      exact Nat.le_refl _
    · rw [h.todo l (by omega) hl]
      refine Nat.le_trans (uniq_len_le _) ?_
      rw [List.length_map]
      omega
  have b0 := b 0 (by decide)
  have b1 := b 1 (by decide)
  have b2 := b 2 (by decide)
  have b3 := b 3 (by decide)
  rw [lvl_len h.lv]
  have e0 : lvl us ((0 : Nat) : Int) = lvl us 0 := rfl
  have e1 : lvl us ((1 : Nat) : Int) = lvl us 1 := rfl
  have e2 : lvl us ((2 : Nat) : Int) = lvl us 2 := rfl
  have e3 : lvl us ((3 : Nat) : Int) = lvl us 3 := rfl
  rw [e0] at b0
  rw [e1] at b1
  rw [e2] at b2
  rw [e3] at b3
  omega
theorem inV_ints (z : Int) (l : List Int) : inV (.int z) (l.map V.int) = decide (z ∈ l) := by
  unfold inV
  rw [List.any_map]
  apply Bool.eq_iff_iff.mpr
  rw [List.any_eq_true, decide_eq_true_eq]
  constructor
  · rintro ⟨x, hx, e⟩
    have e : (x == z) = true := e
    rw [← eq_of_beq e]
    exact hx
  · intro h
    exact ⟨z, h, beq_self_eq_true z⟩
theorem cutV_take (l : List Int) {j : Nat} (h : j ≤ l.length) : cutV (l.map V.int) none (some (j : Int)) = (l.take j).map V.int := by
  unfold cutV
  rw [HT.sIx_none, HT.sIx_nat, List.drop_zero, List.map_take, List.length_map]
  congr 1
  omega
theorem news_succ (ks : List Int) {n : Nat} (h : n < ks.length) : news ks (n + 1) = if ks[n] ∈ ks.take n then news ks n else news ks n ++ [n] := by
  have hx : ks[n]? = some ks[n] := List.getElem?_eq_getElem h
  have gd : ks.getD n 0 = ks[n] := by rw [List.getD_eq_getElem?_getD, hx]; rfl
  unfold news
  rw [List.range_succ, List.filter_append]
  by_cases c : ks[n] ∈ ks.take n
  · rw [if_pos c]
    simp only [List.filter_cons, List.filter_nil, gd, decide_eq_true c]
    simp
  · rw [if_neg c]
    simp only [List.filter_cons, List.filter_nil, gd, decide_eq_false c]
    simp
theorem news_le (ks : List Int) (n : Nat) : (news ks n).length ≤ n := by
  unfold news
  exact Nat.le_trans (List.length_filter_le _ _) (by rw [List.length_range]; exact Nat.le_refl _)


/-! ### the law -/
theorem flat_ints (l : List Int) : (l.map V.int).all flatV = true := List.all_eq_true.mpr fun x hx => by
  obtain ⟨z, _, rfl⟩ := List.mem_map.mp hx
  rfl
theorem at_ints {zs : List Int} {d : Int} (h0 : 0 ≤ d) (h1 : d < zs.length) : ∃ z, atI (zs.map V.int) d = some (.int z) :=
  ⟨zs[d.toNat]'(by omega), at_of (Int.toNat_of_nonneg h0).symm (getElem?_mapInt (by omega))⟩
theorem eqv_pair (a b : Int) : PyData.eqv (.tuple [.int a, .int b]) (.tuple [.int a, .int b]) = true := SeqAt.eqv_refl _ rfl
def pairD (a b : Int) : PyData := .tuple [.int a, .int b]
theorem dp_pair {H : Hp} {t : Addr} {a b : Int} (h : H t = some (.tup [.int a, .int b])) : Dp K H (.ref t) (pairD a b) := .tup (SqT.of h) (.cons (.int _) (.cons (.int _) .nil))
theorem sh_pair (a b : Int) : SeqAt.shaped (pairD a b) = true := rfl
/-- != of two pairs that are alike -/
theorem ne_pairs {H : Hp} {t u : Addr} {a b : Int} {Q : VK} (h1 : H t = some (.tup [.int a, .int b])) (h2 : H u = some (.tup [.int a, .int b])) (q : Q (.bl false) H) : rNeD K (.ref t) (.ref u) H Q := by
  refine ⟨_, _, dp_pair h1, dp_pair h2, sh_pair _ _, sh_pair _ _, ?_⟩
  rw [show PyData.eqv (pairD a b) (pairD a b) = true from eqv_pair a b]
  exact q
/-- a list at l of the pairs us -/
def NodesAt (H : Hp) (l : Addr) (us : List Pr) : Prop := ∃ ts : List (Addr × Pr), H l = some (.lst (ts.map fun q => V.ref q.1)) ∧ us = ts.map (·.2) ∧ ∀ q ∈ ts, H q.1 = some (.tup [.int q.2.1, .int q.2.2])
theorem nodesAt_nil {H : Hp} {l : Addr} (h : H l = some (.lst [])) : NodesAt H l [] := ⟨[], h, rfl, fun q hq => absurd hq List.not_mem_nil⟩
theorem nodesAt_same {H H' : Hp} {l : Addr} {us : List Pr} (n : NodesAt H l us) (k : Same H H') : NodesAt H' l us := by
  obtain ⟨ts, h1, h2, h3⟩ := n
  exact ⟨ts, k _ _ h1, h2, fun q hq => k _ _ (h3 q hq)⟩
theorem nodesAt_add {H : Hp} {l t : Addr} {us : List Pr} {x : Pr} (n : NodesAt H l us) (h : H t = some (.tup [.int x.1, .int x.2])) : ∃ xs, H l = some (.lst xs) ∧ xs.length = us.length ∧ NodesAt (upd H l (.lst (xs ++ [.ref t]))) l (us ++ [x]) := by
  obtain ⟨ts, h1, h2, h3⟩ := n
  refine ⟨_, h1, by rw [List.length_map, h2, List.length_map], ts ++ [(t, x)], by rw [upd_same, List.map_append]; rfl, by rw [h2, List.map_append]; rfl, fun q hq => ?_⟩
  have ne : ∀ b o, H b = some (.tup o) → b ≠ l := fun b o e => ne_of e h1 (by intro z; cases z)
  rcases List.mem_append.mp hq with z | z
  · rw [upd_ne (ne _ _ (h3 q z))]
    exact h3 q z
  · rw [List.mem_singleton.mp z, upd_ne (ne _ _ h)]
    exact h
theorem dpAll_nodes {H : Hp} : ∀ {ts : List (Addr × Pr)}, (∀ q ∈ ts, H q.1 = some (.tup [.int q.2.1, .int q.2.2])) → DpAll K H (ts.map fun q => V.ref q.1) ((ts.map (·.2)).map fun x => pairD x.1 x.2)
  | [], _ => .nil
  | q :: r, h => .cons (dp_pair (h q List.mem_cons_self)) (dpAll_nodes fun y hy => h y (List.mem_cons_of_mem _ hy))
theorem dp_nodes {H : Hp} {l : Addr} {us : List Pr} (n : NodesAt H l us) : Dp K H (.ref l) (.list (us.map fun x => pairD x.1 x.2)) := by
  obtain ⟨ts, h1, rfl, h3⟩ := n
  exact .lst (SqL.of h1) (dpAll_nodes h3)
theorem lay_pairs : ∀ us : List Pr, PyData.canLayAll0 (us.map fun x => pairD x.1 x.2) = true
  | [] => rfl
  | x :: r => by simp [PyData.canLayAll0, lay_pairs r]; rfl
theorem depth_pairs : ∀ us : List Pr, PyData.depthAll (us.map fun x => pairD x.1 x.2) ≤ 1
  | [] => by simp [PyData.depthAll]
  | x :: r => by
    have h := depth_pairs r
    have e : (pairD x.1 x.2).depth = 1 := by simp [pairD, PyData.depth, PyData.depthAll]
    simp only [List.map_cons, PyData.depthAll, e]
    omega
theorem sh_pairs (us : List Pr) : SeqAt.shaped (.list (us.map fun x => pairD x.1 x.2)) = true := by
  have h := depth_pairs us
  unfold SeqAt.shaped
  rw [Bool.and_eq_true_iff]
  refine ⟨by simp only [PyData.canLay0]; exact lay_pairs us, decide_eq_true ?_⟩
  simp only [PyData.depth]
  omega
theorem any_pairs (us : List Pr) (x : Pr) : ((us.map fun x => pairD x.1 x.2).any fun z => PyData.eqv z (pairD x.1 x.2)) = decide (x ∈ us) := by
  induction us with
  | nil => rfl
  | cons y r ih =>
    rw [List.map_cons, List.any_cons, ih]
    have e : PyData.eqv (pairD y.1 y.2) (pairD x.1 x.2) = decide (x = y) := by
      obtain ⟨a, b⟩ := x
      obtain ⟨c, d⟩ := y
      apply Bool.eq_iff_iff.mpr
      simp only [pairD, PyData.eqv, PyData.eqvAll, Bool.and_eq_true, beq_iff_eq, decide_eq_true_eq, Prod.mk.injEq, and_true]
      constructor
      · rintro ⟨h1, h2⟩
        exact ⟨h1.symm, h2.symm⟩
      · rintro ⟨h1, h2⟩
        exact ⟨h1.symm, h2.symm⟩
    rw [e, ← Bool.decide_or]
    exact decide_eq_decide.mpr List.mem_cons.symm
def Good (b p s l : Int) : Prop := (24 ≤ b ∧ b ≤ 48) ∧ (16 ≤ p ∧ p ≤ 32) ∧ bestTo b p b.toNat = s ∧ limitW b p s = l
theorem good1 : Good 24 16 5 52 := ⟨by decide, by decide, by decide +kernel, by decide +kernel⟩
theorem good2 : Good 24 32 4 133 := ⟨by decide, by decide, by decide +kernel, by decide +kernel⟩
theorem good3 : Good 32 16 7 112 := ⟨by decide, by decide, by decide +kernel, by decide +kernel⟩
theorem good4 : Good 32 32 6 266 := ⟨by decide, by decide, by decide +kernel, by decide +kernel⟩
theorem good5 : Good 48 16 10 264 := ⟨by decide, by decide, by decide +kernel, by decide +kernel⟩
theorem good6 : Good 48 32 10 584 := ⟨by decide, by decide, by decide +kernel, by decide +kernel⟩
def rowAt (H : Hp) (x : V) : Prop := ∃ t b p s l, x = .ref t ∧ H t = some (.tup [.int b, .int p, .int s, .int l]) ∧ Good b p s l
def sp_law (K : PySem.W.Frag) : Sp := fun vs H Q _ => ∃ (a : Addr) (ns : List Int), vs = [.ref a] ∧ SqL K H a (ns.map V.int) ∧ ns.length ≤ 63 ∧ ∀ H', Q (.bl true) H'
theorem body_law (T : Tx K mg) : ∀ (cdv : Value) (A : Around) (outer : List Env) (s : Shared) (H : Hp) (vs : List V) (Q : VK) (E : XK), Room 5 (A.deeper (envOfC "law" (defScope s_law) s.heap.objs.size (He.fAd K ("law", none)) cdv)) → sp_law K vs H Q E →
      ∃ t, PSs (cxOf CX0 P w K mg base ["script", "stream", "told", "blocks", "pages", "share", "limit", "k", "keys", "j", "nodes", "key", "level", "different"] "law" (defScope s_law) (He.fAd K ("law", none)) cdv A outer s H E).nox (defBody s_law) t ∧ t { nx := fun _ H' => Q .non H', rt := Q } (start ["script", "stream", "told", "blocks", "pages", "share", "limit", "k", "keys", "j", "nodes", "key", "level", "different"] vs) H := by
  intro cdv A outer s H vs Q E hr h
  obtain ⟨a, ns, rfl, hS, hlen, q⟩ := h
  · have hu := hu_of hr
    refine ⟨_, (pss_cons (ps_set (i := 1) sc_law.nd rfl (by first | exact Or.inl rfl | exact Or.inr rfl) (C8.pe_c (ok__law_stream T) hr (by decide) (by rfl) (pa_cons (pv 0) pa_nil)))
 (pss_cons (ps_set (i := 2) sc_law.nd rfl (by first | exact Or.inl rfl | exact Or.inr rfl) (pe_lst (pa_cons (pe_tup (pa_cons pe_int (pa_cons pe_int (pa_cons pe_int (pa_cons pe_int pa_nil))))) (pa_cons (pe_tup (pa_cons pe_int (pa_cons pe_int (pa_cons pe_int (pa_cons pe_int pa_nil))))) (pa_cons (pe_tup (pa_cons pe_int (pa_cons pe_int (pa_cons pe_int (pa_cons pe_int pa_nil))))) (pa_cons (pe_tup (pa_cons pe_int (pa_cons pe_int (pa_cons pe_int (pa_cons pe_int pa_nil))))) (pa_cons (pe_tup (pa_cons pe_int (pa_cons pe_int (pa_cons pe_int (pa_cons pe_int pa_nil))))) (pa_cons (pe_tup (pa_cons pe_int (pa_cons pe_int (pa_cons pe_int (pa_cons pe_int pa_nil))))) pa_nil))))))))
 (pss_cons (ps_for PassesOwn.never rfl (pi_listK (K := K) (pv 2)) (gtupK (K := K) (pg_tup rfl (pgs_cons (pg_name (i := 3) sc_law.nd rfl (by first | exact Or.inl rfl | exact Or.inr rfl)) (pgs_cons (pg_name (i := 4) sc_law.nd rfl (by first | exact Or.inl rfl | exact Or.inr rfl)) (pgs_cons (pg_name (i := 5) sc_law.nd rfl (by first | exact Or.inl rfl | exact Or.inr rfl)) (pgs_cons (pg_name (i := 6) sc_law.nd rfl (by first | exact Or.inl rfl | exact Or.inr rfl)) pgs_nil))))))
 (pss_one (ps_if (PW.pt (pw_or (pt_cmpR (op_neDK (K := K) hr.units) (pe_tup (pa_cons (C8.pe_c (ok_block_share T) hr (by decide) (by rfl) (pa_cons (pv 3) (pa_cons (pv 4) pa_nil))) (pa_cons (C8.pe_c (ok_page_limit T) hr (by decide) (by rfl) (pa_cons (pv 3) (pa_cons (pv 4) pa_nil))) pa_nil))) (pe_tup (pa_cons (pv 5) (pa_cons (pv 6) pa_nil))) (nomark _)) (pw_or1 (pt_cmpR (op_neDK (K := K) hr.units) (C8.pe_c (ok__law_shares T) hr (by decide) (by rfl) (pa_cons (pv 3) (pa_cons (pv 4) pa_nil))) (pe_tup (pa_cons (pv 5) (pa_cons (pv 6) pa_nil))) (nomark _)))))
 (pss_one (ps_ret pe_bl))
 pss_nil)))
 (pss_cons (ps_for PassesOwn.never rfl (pi_range1 (by rfl) (T.free 15) (pa_cons pe_int pa_nil)) (pg_name (i := 7) sc_law.nd rfl (by first | exact Or.inl rfl | exact Or.inr rfl))
 (pss_cons (ps_par (i := 3) (j := 4) (by rfl) sc_law.nd rfl rfl (by decide) rfl rfl (pa_cons (pe_op op_add pe_int (C8.pe_c (ok__law_pick T) hr (by decide) (by rfl) (pa_cons (pv 1) (pa_cons pe_int pa_nil)))) (pa_cons (pe_op op_add pe_int (C8.pe_c (ok__law_pick T) hr (by decide) (by rfl) (pa_cons (pv 1) (pa_cons pe_int pa_nil)))) pa_nil)) (by rfl))
 (pss_cons (ps_asg (C8.pe_c (ok__law_shares T) hr (by decide) (by rfl) (pa_cons (pv 3) (pa_cons (pv 4) pa_nil))) (gtupK (K := K) (pg_tup rfl (pgs_cons (pg_name (i := 5) sc_law.nd rfl (by first | exact Or.inl rfl | exact Or.inr rfl)) (pgs_cons (pg_name (i := 6) sc_law.nd rfl (by first | exact Or.inl rfl | exact Or.inr rfl)) pgs_nil)))))
 (pss_cons (ps_if (PW.pt (pw_or (pt_cmpR op_ne (C8.pe_c (ok_spare_blocks T) hr (by decide) (by rfl) (pa_cons (pv 3) pa_nil)) (pe_op op_add (pe_op op_fdiv (pv 3) pe_int) pe_int) (nomark _)) (pw_or1 (pt_cmpR (op_neDK (K := K) hr.units) (pe_tup (pa_cons (C8.pe_c (ok_block_share T) hr (by decide) (by rfl) (pa_cons (pv 3) (pa_cons (pv 4) pa_nil))) (pa_cons (C8.pe_c (ok_page_limit T) hr (by decide) (by rfl) (pa_cons (pv 3) (pa_cons (pv 4) pa_nil))) pa_nil))) (pe_tup (pa_cons (pv 5) (pa_cons (pv 6) pa_nil))) (nomark _)))))
 (pss_one (ps_ret pe_bl))
 pss_nil)
 (pss_cons (ps_set (i := 8) sc_law.nd rfl (by first | exact Or.inl rfl | exact Or.inr rfl) (pe_lst pa_nil))
 (pss_cons (ps_for PassesOwn.never rfl (pi_range1 (by rfl) (T.free 15) (pa_cons (C8.pe_c (ok__law_pick T) hr (by decide) (by rfl) (pa_cons (pv 1) (pa_cons pe_int pa_nil))) pa_nil)) (pg_name (i := 9) sc_law.nd rfl (by first | exact Or.inl rfl | exact Or.inr rfl))
 (pss_one (ps_expr (bmK (K := K) (pe_bm PySem.F.plainAttrs_list PySem.F.slot_list_append PySem.F.type_list_append mt_append (pv 8) (pa_cons (pe_ix (ix_tupK (K := K)) (pe_tup (pa_cons pe_int (pa_cons pe_int (pa_cons pe_int (pa_cons pe_int (pa_cons pe_int (pa_cons (C8.pe_c (ok__law_pick T) hr (by decide) (by rfl) (pa_cons (pv 1) (pa_cons pe_int pa_nil))) (pa_cons (C8.pe_c (ok__law_pick T) hr (by decide) (by rfl) (pa_cons (pv 1) (pa_cons pe_int pa_nil))) (pa_cons pe_int pa_nil))))))))) (C8.pe_c (ok__law_pick T) hr (by decide) (by rfl) (pa_cons (pv 1) (pa_cons pe_int pa_nil))) (fun _ _ => rfl)) pa_nil))))))
 (pss_cons (ps_set (i := 10) sc_law.nd rfl (by first | exact Or.inl rfl | exact Or.inr rfl) (pe_lst pa_nil))
 (pss_cons (ps_for PassesOwn.never rfl (pi_listK (K := K) (pv 8)) (pg_name (i := 11) sc_law.nd rfl (by first | exact Or.inl rfl | exact Or.inr rfl))
 (pss_one (ps_for PassesOwn.never rfl (pi_range1 (by rfl) (T.free 15) (pa_cons pe_int pa_nil)) (pg_name (i := 12) sc_law.nd rfl (by first | exact Or.inl rfl | exact Or.inr rfl))
 (pss_cons (ps_set (i := 11) sc_law.nd rfl (by first | exact Or.inl rfl | exact Or.inr rfl) (pe_op op_fdiv (pv 11) pe_int))
 (pss_one (ps_if (pt_cmpR (op_notInDK (K := K) (hu65 hr)) (pe_tup (pa_cons (pv 12) (pa_cons (pv 11) pa_nil))) (pv 10) (by rfl))
 (pss_one (ps_expr (bmK (K := K) (pe_bm PySem.F.plainAttrs_list PySem.F.slot_list_append PySem.F.type_list_append mt_append (pv 10) (pa_cons (pe_tup (pa_cons (pv 12) (pa_cons (pv 11) pa_nil))) pa_nil)))))
 pss_nil))))))
 (pss_cons (ps_setLc (i := 13) (own := [("j", 9)]) (by rfl) sc_law.nd rfl rfl (sw_true rfl rfl rfl (by decide +kernel)) (pi_range1 (by rfl) (T.free 15) (pa_cons (pe_callB (call_len_seqK (K := K)) (by rfl) (T.free 13) (by decide +kernel) (pa_cons (pv 8) pa_nil)) pa_nil)) (blkOk_by (own := [("j", 9)]) (by kernel_rfl)) (fun _ _ _ _ _ => (pg_name (i := 9) sc_law.nd rfl (by first | exact Or.inl rfl | exact Or.inr rfl))) (fun _ _ _ _ _ => (pts_one (pt_cmpR (op_notIn_seqK (K := K)) (pe_ix (ix_listK (K := K)) (pv 8) (pv 9) (fun _ _ => rfl)) (pe_slice (sl_listK (K := K)) (pv 8) po_none (po_some (pv 9))) (by rfl)))) (fun _ _ _ _ _ => (pv 9)))
 (pss_one (ps_if (PW.pt (pw_or (pt_cmpR op_ne (C8.pe_c (ok_nodes_counted T) hr (by decide) (by rfl) (pa_cons (pe_callTy (call_list_ofK (K := K)) (by rfl) (T.free 17) (by decide +kernel) (pa_cons (pv 8) pa_nil)) pa_nil)) (pe_callB (call_len_seqK (K := K)) (by rfl) (T.free 13) (by decide +kernel) (pa_cons (pv 10) pa_nil)) (nomark _)) (pw_or1 (pt_cmpR op_ne (C8.pe_c (ok_pages_counted T) hr (by decide) (by rfl) (pa_cons (pe_callTy (call_list_ofK (K := K)) (by rfl) (T.free 17) (by decide +kernel) (pa_cons (pv 8) pa_nil)) pa_nil)) (pe_op op_add (pe_callB (call_len_seqK (K := K)) (by rfl) (T.free 13) (by decide +kernel) (pa_cons (pv 13) pa_nil)) (pe_op op_mul pe_int (pe_callB (call_len_seqK (K := K)) (by rfl) (T.free 13) (by decide +kernel) (pa_cons (pv 10) pa_nil)))) (nomark _)))))
 (pss_one (ps_ret pe_bl))
 pss_nil)))))))))))
 (pss_one (ps_ret (pe_and (pe_cmpR op_eq (C8.pe_c (ok_nodes_counted T) hr (by decide) (by rfl) (pa_cons (pe_lst pa_nil) pa_nil)) pe_int (nomark _)) (pe_one (pe_cmpR op_eq (C8.pe_c (ok_pages_counted T) hr (by decide) (by rfl) (pa_cons (pe_lst pa_nil) pa_nil)) pe_int (nomark _)))))))))), ?_⟩
    walk_at "rdd"
    refine ⟨a, ns, rfl, hS, hlen, fun p c ms H1 hp S1 k1 => ?_⟩
    have j1 := S1.jn
    walk_at "rdd"
    -- the six told rows
    refine ⟨by show 4 ≤ sizeLine; decide, fun t1 n1 => ?_⟩
    walk_at "rdd"
    refine ⟨by show 4 ≤ sizeLine; decide, fun t2 n2 => ?_⟩
    walk_at "rdd"
    refine ⟨by show 4 ≤ sizeLine; decide, fun t3 n3 => ?_⟩
    walk_at "rdd"
    refine ⟨by show 4 ≤ sizeLine; decide, fun t4 n4 => ?_⟩
    walk_at "rdd"
    refine ⟨by show 4 ≤ sizeLine; decide, fun t5 n5 => ?_⟩
    walk_at "rdd"
    refine ⟨by show 4 ≤ sizeLine; decide, fun t6 n6 => ?_⟩
    walk_at "rdd"
    refine ⟨by show 6 ≤ sizeLine; decide, fun l nl => ?_⟩
    have s12 := Same.new (o := .tup [.int 24, .int 16, .int 5, .int 52]) n1
    have s23 := Same.new (o := .tup [.int 24, .int 32, .int 4, .int 133]) n2
    have s34 := Same.new (o := .tup [.int 32, .int 16, .int 7, .int 112]) n3
    have s45 := Same.new (o := .tup [.int 32, .int 32, .int 6, .int 266]) n4
    have s56 := Same.new (o := .tup [.int 48, .int 16, .int 10, .int 264]) n5
    have s67 := Same.new (o := .tup [.int 48, .int 32, .int 10, .int 584]) n6
    have s78 := Same.new (o := .lst [.ref t1, .ref t2, .ref t3, .ref t4, .ref t5, .ref t6]) nl
    have jB := (((((((j1.new n1).new n2).new n3).new n4).new n5).new n6).new nl (o := .lst [.ref t1, .ref t2, .ref t3, .ref t4, .ref t5, .ref t6])).here
    have rows : ∀ x ∈ [V.ref t1, .ref t2, .ref t3, .ref t4, .ref t5, .ref t6], rowAt (upd (upd (upd (upd (upd (upd (upd H1 t1 (.tup [.int 24, .int 16, .int 5, .int 52])) t2 (.tup [.int 24, .int 32, .int 4, .int 133])) t3 (.tup [.int 32, .int 16, .int 7, .int 112]))
        t4 (.tup [.int 32, .int 32, .int 6, .int 266])) t5 (.tup [.int 48, .int 16, .int 10, .int 264])) t6 (.tup [.int 48, .int 32, .int 10, .int 584])) l (.lst [.ref t1, .ref t2, .ref t3, .ref t4, .ref t5, .ref t6])) x := by
      intro x hx
      simp only [List.mem_cons, List.not_mem_nil, or_false] at hx
      rcases hx with rfl | rfl | rfl | rfl | rfl | rfl
      · exact ⟨t1, _, _, _, _, rfl, s78 _ _ (s67 _ _ (s56 _ _ (s45 _ _ (s34 _ _ (s23 _ _ upd_same))))), good1⟩
      · exact ⟨t2, _, _, _, _, rfl, s78 _ _ (s67 _ _ (s56 _ _ (s45 _ _ (s34 _ _ upd_same)))), good2⟩
      · exact ⟨t3, _, _, _, _, rfl, s78 _ _ (s67 _ _ (s56 _ _ (s45 _ _ upd_same))), good3⟩
      · exact ⟨t4, _, _, _, _, rfl, s78 _ _ (s67 _ _ (s56 _ _ upd_same)), good4⟩
      · exact ⟨t5, _, _, _, _, rfl, s78 _ _ (s67 _ _ upd_same), good5⟩
      · exact ⟨t6, _, _, _, _, rfl, s78 _ _ upd_same, good6⟩
    have hB : (upd (upd (upd (upd (upd (upd (upd H1 t1 (.tup [.int 24, .int 16, .int 5, .int 52])) t2 (.tup [.int 24, .int 32, .int 4, .int 133])) t3 (.tup [.int 32, .int 16, .int 7, .int 112]))
        t4 (.tup [.int 32, .int 32, .int 6, .int 266])) t5 (.tup [.int 48, .int 16, .int 10, .int 264])) t6 (.tup [.int 48, .int 32, .int 10, .int 584])) l (.lst [.ref t1, .ref t2, .ref t3, .ref t4, .ref t5, .ref t6])) l = some (.lst [.ref t1, .ref t2, .ref t3, .ref t4, .ref t5, .ref t6]) := upd_same
    revert jB rows hB
    generalize (upd (upd (upd (upd (upd (upd (upd H1 t1 (.tup [.int 24, .int 16, .int 5, .int 52])) t2 (.tup [.int 24, .int 32, .int 4, .int 133])) t3 (.tup [.int 32, .int 16, .int 7, .int 112]))
        t4 (.tup [.int 32, .int 32, .int 6, .int 266])) t5 (.tup [.int 48, .int 16, .int 10, .int 264])) t6 (.tup [.int 48, .int 32, .int 10, .int 584])) l (.lst [.ref t1, .ref t2, .ref t3, .ref t4, .ref t5, .ref t6])) = B
    intro jB rows hB
    have nlp : l ≠ p := by
      rintro rfl
      obtain ⟨_, _, _, e⟩ := jB.s
      rw [e] at hB
      cases hB
    walk_at "rdd"
    refine for_list (K := K) (a := l) (xs := [.ref t1, .ref t2, .ref t3, .ref t4, .ref t5, .ref t6]) (fun i σ H' => Jn p c ms B H' ∧ ∃ v3 v4 v5 v6, σ = [some (.ref a), some (.ref p), some (.ref l), v3, v4, v5, v6, none, none, none, none, none, none, none]) ⟨jB, none, none, none, none, rfl⟩
      (fun i σ H' _ h => SqL.of (h.1.get hB nlp)) ?_ ?_
    · rintro i x σ H' hx ⟨j, v3, v4, v5, v6, rfl⟩
      obtain ⟨t, b, pg, sh, lm, rfl, ht, g1, g2, g3, g4⟩ := rows x (List.mem_of_getElem? hx)
      have ntp : t ≠ p := by
        rintro rfl
        obtain ⟨_, _, _, e⟩ := jB.s
        rw [e] at ht
        cases ht
      have ht' := j.get ht ntp
      refine ⟨_, _, rfl, SqT.of ht', rfl, ?_⟩
      subst g3 g4
      walk_at "rdd"
      refine ⟨by show 2 ≤ sizeLine; decide, fun u1 m1 => ?_⟩
      walk_at "rdd"
      refine ⟨by show 2 ≤ sizeLine; decide, fun u2 m2 => ?_⟩
      have x2 := Same.new (o := .tup [.int (bestTo b pg b.toNat), .int (limitW b pg (bestTo b pg b.toNat))]) m2
      refine ne_pairs (x2 _ _ upd_same) upd_same ?_
      refine ⟨_, rfl, iteF ?_⟩
      walk_at "rdd"
      intro u3 H3 m3 x3 e3
      walk_at "rdd"
      refine ⟨by show 2 ≤ sizeLine; decide, fun u4 m4 => ?_⟩
      have x4 := Same.new (o := .tup [.int (bestTo b pg b.toNat), .int (limitW b pg (bestTo b pg b.toNat))]) m4
      refine ne_pairs (x4 _ _ e3) upd_same ?_
      refine ⟨_, rfl, iteF ?_⟩
      exact ⟨(((j.new m1).new m2).same x3).new m4, _, _, _, _, rfl⟩
    · rintro σ H' ⟨j, v3, v4, v5, v6, rfl⟩
      walk_at "rdd"
      refine for_range (lo := 0) (n := 6) (fun i σ H' => Jn p c ms B H' ∧ ∃ v3 v4 v5 v6 v7 v8 v9 v10 v11 v12 v13, σ = [some (.ref a), some (.ref p), some (.ref l), v3, v4, v5, v6, v7, v8, v9, v10, v11, v12, v13])
        ⟨j, _, _, _, _, _, _, _, _, _, _, _, rfl⟩ ?_ ?_
      · rintro i0 σ H' hi ⟨j, v3, v4, v5, v6, v7, v8, v9, v10, v11, v12, v13, rfl⟩
        walk_at "rdd"
        refine ⟨c, ms, j.st, ⟨by decide, by decide⟩, fun d1 H3 d1a d1b S3 o3 => ?_⟩
        have j := j.off S3 o3
        walk_at "rdd"
        refine ⟨c, ms, j.st, ⟨by decide, by decide⟩, fun d2 H4 d2a d2b S4 o4 => ?_⟩
        have j := j.off S4 o4
        walk_at "rdd"
        intro u1 H5 m1 x1 e1
        have j := j.same x1
        refine ⟨_, _, rfl, SqT.of e1, rfl, ?_⟩
        walk_at "rdd"
        -- the three limits of the program
        refine ite2 (fun z => ?_) (fun _ => ?_)
        · have z : (!decide (V.int (spare (24 + d1)) = V.int ((24 + d1) / 16 + 1))) = true := z
          rw [show spare (24 + d1) = (24 + d1) / 16 + 1 from rfl, decide_eq_true rfl] at z
          cases z
        walk_at "rdd"
        refine ⟨by show 2 ≤ sizeLine; decide, fun u2 m2 => ?_⟩
        have x2 := j.new (o := .tup [.int (bestTo (24 + d1) (16 + d2) (24 + d1).toNat), .int (limitW (24 + d1) (16 + d2) (bestTo (24 + d1) (16 + d2) (24 + d1).toNat))]) m2
        walk_at "rdd"
        refine ⟨by show 2 ≤ sizeLine; decide, fun u3 m3 => ?_⟩
        have x3 := Same.new (o := .tup [.int (bestTo (24 + d1) (16 + d2) (24 + d1).toNat), .int (limitW (24 + d1) (16 + d2) (bestTo (24 + d1) (16 + d2) (24 + d1).toNat))]) m3
        refine ne_pairs (x3 _ _ upd_same) upd_same ?_
        refine ⟨_, rfl, iteF ?_⟩
        have j := (x2.same x3)
        walk_at "rdd"
        -- the drawn keys
        refine ⟨by show 0 ≤ sizeLine; decide, fun kl nkl => ?_⟩
        have klp := j.ne nkl
        have klB := j.free nkl
        have j := j.new nkl (o := .lst [])
        walk_at "rdd"
        refine ⟨c, ms, j.st, ⟨by decide, by decide⟩, fun d3 H6 d3a d3b S6 o6 => ?_⟩
        have j := j.off S6 o6
        have hk : H6 kl = some (.lst (([] : List Int).map V.int)) := (o6 kl klp).trans upd_same
        walk_at "rdd"
        refine for_range (lo := 0) (n := d3.toNat) (fun i σ H' => ∃ ks : List Int, ks.length = i ∧ Jn p c ms B H' ∧ H' kl = some (.lst (ks.map V.int)) ∧
            ∃ v9, σ = [some (.ref a), some (.ref p), some (.ref l), some (.int (24 + d1)), some (.int (16 + d2)), some (.int (bestTo (24 + d1) (16 + d2) (24 + d1).toNat)), some (.int (limitW (24 + d1) (16 + d2) (bestTo (24 + d1) (16 + d2) (24 + d1).toNat))), some (.int (0 + (i0 : Int))), some (.ref kl), v9, v10, v11, v12, v13])
          ⟨[], rfl, j, hk, _, rfl⟩ ?_ ?_
        · rintro i σ H' hi ⟨ks, hlen, j, hk, v9, rfl⟩
          walk_at "rdd"
          refine ⟨c, ms, j.st, ⟨by decide, by decide⟩, fun e1 H7 e1a e1b S7 o7 => ?_⟩
          have j := j.off S7 o7
          have hk := (o7 kl klp).trans hk
          walk_at "rdd"
          refine ⟨c, ms, j.st, ⟨by decide, by decide⟩, fun e2 H8 e2a e2b S8 o8 => ?_⟩
          have j := j.off S8 o8
          have j8 := j
          have hk := (o8 kl klp).trans hk
          walk_at "rdd"
          refine ⟨by show 8 ≤ sizeLine; decide, fun t nt => ?_⟩
          have j := j.new nt (o := .tup [.int 0, .int 31, .int 32, .int 1024, .int 32768, .int e1, .int e2, .int 1048575])
          have hk := Same.new (o := .tup [.int 0, .int 31, .int 32, .int 1024, .int 32768, .int e1, .int e2, .int 1048575]) nt _ _ hk
          walk_at "rdd"
          refine ⟨c, ms, j.st, ⟨by decide, by decide⟩, fun e3 H9 e3a e3b S9 o9 => ?_⟩
          have ht : H9 t = some (.tup ([0, 31, 32, 1024, 32768, e1, e2, 1048575].map V.int)) := (o9 t (j8.ne nt)).trans upd_same
          have j := j.off S9 o9
          have hk := (o9 kl klp).trans hk
          obtain ⟨z, ez⟩ := at_ints (zs := [0, 31, 32, 1024, 32768, e1, e2, 1048575]) e3a e3b
          refine ⟨_, _, _, _, rfl, rfl, SqT.of ht, ez, ?_⟩
          walk_at "rdd"
          refine ⟨_, _, _, rfl, rfl, hk, small1000 (by rw [List.length_map]; omega), ?_⟩
          refine ⟨ks ++ [z], by rw [List.length_append, hlen]; rfl, j.mut klp klB, ?_, _, rfl⟩
          rw [upd_same, List.map_append]
          rfl
        rintro σ H' ⟨ks, hlen, j, hk, v9, rfl⟩
        have jb := j
        walk_at "rdd"
        -- the nodes, each once
        refine ⟨by show 0 ≤ sizeLine; decide, fun nl nnl => ?_⟩
        have nlp := j.ne nnl
        have jk := j.here
        have nlk := jk.free nnl
        have jn := jk.new nnl (o := .lst [])
        have kn : kl ≠ nl := ne_of_none hk nnl
        walk_at "rdd"
        refine for_list (K := K) (a := kl) (xs := ks.map V.int) (fun i σ H1 => Jn p c ms H' H1 ∧ (∃ us, NodesAt H1 nl us ∧ NI us (ks.take i) 0 0) ∧
            ∃ v11 v12, σ = [some (.ref a), some (.ref p), some (.ref l), some (.int (24 + d1)), some (.int (16 + d2)), some (.int (bestTo (24 + d1) (16 + d2) (24 + d1).toNat)), some (.int (limitW (24 + d1) (16 + d2) (bestTo (24 + d1) (16 + d2) (24 + d1).toNat))), some (.int (0 + (i0 : Int))), some (.ref kl), v9, some (.ref nl), v11, v12, v13])
          ⟨jn, ⟨[], nodesAt_nil upd_same, NI.start⟩, _, _, rfl⟩ (fun i σ H1 _ h => SqL.of (h.1.get hk klp)) ?_ ?_
        · rintro i x σ H1 hx ⟨j, ⟨us, un, ni⟩, v11, v12, rfl⟩
          obtain ⟨z, hz, rfl⟩ := ints_get hx
          walk_at "rdd"
          refine for_range (lo := 0) (n := 4) (fun jj σ H1 => Jn p c ms H' H1 ∧ (∃ us, NodesAt H1 nl us ∧ NI us (ks.take i) z jj) ∧
            ∃ v12, σ = [some (.ref a), some (.ref p), some (.ref l), some (.int (24 + d1)), some (.int (16 + d2)), some (.int (bestTo (24 + d1) (16 + d2) (24 + d1).toNat)), some (.int (limitW (24 + d1) (16 + d2) (bestTo (24 + d1) (16 + d2) (24 + d1).toNat))), some (.int (0 + (i0 : Int))), some (.ref kl), v9, some (.ref nl), some (.int (dv z jj)), v12, v13])
            ⟨j, ⟨us, un, ni.any⟩, _, rfl⟩ ?_ ?_
          · rintro jj σ H1 hjj ⟨j, ⟨us, un, ni⟩, v12, rfl⟩
            have kj : (ks.take i).length ≤ 60 := by rw [List.length_take]; omega
            have ub := ni.bound
            walk_at "rdd"
            rw [show (0 : Int) + (jj : Int) = (jj : Int) from Int.zero_add _]
            refine ⟨by show 2 ≤ sizeLine; decide, fun t nt => ?_⟩
            have un1 := nodesAt_same un (Same.new (o := .tup [.int jj, .int (dv z (jj + 1))]) nt)
            have j1 := j.new nt (o := .tup [.int jj, .int (dv z (jj + 1))])
            walk_at "rdd"
            refine ⟨pairD jj (dv z (jj + 1)), _, dp_pair upd_same, dp_nodes un1, sh_pair _ _, sh_pairs us, ?_⟩
            rw [any_pairs us (↑jj, dv z (jj + 1))]
            have nx := ni.step hjj
            rw [← dv_spn z hjj] at nx
            refine ⟨_, rfl, ite2 (fun y => ?_) (fun y => ?_)⟩
            · have y : ((jj : Int), dv z (jj + 1)) ∉ us := by simpa using y
              obtain ⟨xs0, hx0, _, _⟩ := nodesAt_add (x := ((jj : Int), dv z (jj + 1))) (t := t) un1 upd_same
              walk_at "rdd"
              refine ⟨by show 2 ≤ sizeLine; decide, fun t2 nt2 => ?_⟩
              have un2 := nodesAt_same un1 (Same.new (o := .tup [.int jj, .int (dv z (jj + 1))]) nt2)
              have j2 := j1.new nt2 (o := .tup [.int jj, .int (dv z (jj + 1))])
              obtain ⟨xs1, hx1, lx1, un3⟩ := nodesAt_add (x := ((jj : Int), dv z (jj + 1))) un2 (t := t2) upd_same
              walk_at "rdd"
              refine ⟨_, _, _, rfl, rfl, hx1, small1000 (by omega), ?_⟩
              refine ⟨j2.mut nlp nlk, ⟨_, un3, ?_⟩, _, rfl⟩
              unfold addP at nx
              rw [if_neg y] at nx
              exact nx
            · have y : ((jj : Int), dv z (jj + 1)) ∈ us := by simpa using y
              refine ⟨j1, ⟨us, un1, ?_⟩, _, rfl⟩
              unfold addP at nx
              rw [if_pos y] at nx
              exact nx
          · rintro σ H1 ⟨j, ⟨us, un, ni⟩, v12, rfl⟩
            refine ⟨j, ⟨us, un, ?_⟩, _, _, rfl⟩
            rw [take_snoc hz]
            exact ni.next
        · rintro σ H1 ⟨j, ⟨us, un, ni⟩, v11, v12, rfl⟩
          rw [List.length_map, List.take_length] at ni
          have hk1 := j.get hk klp
          have el : (ks.map V.int).length = ks.length := List.length_map ..
          walk_at "rdd"
          refine ⟨_, _, rfl, .inl (SqL.of hk1), ?_⟩
          walk_at "rdd"
          intro D nD
          refine lc_range (lo := 0) (n := (ks.map V.int).length) (fun i H2 => H2 D = some (.lst ((news ks i).map fun x => V.int (x : Nat))) ∧ Same H1 H2) ⟨upd_same, Same.new nD⟩ ?_ ?_
          · rintro i H2 hi ⟨hd, k2⟩
            have hk2 := k2 _ _ hk1
            rw [el] at hi
            have hx : ks[i]? = some ks[i] := List.getElem?_eq_getElem hi
            refine ⟨rfl, ?_⟩
            walk_at "rdd"
            refine ⟨_, _, _, _, rfl, rfl, SqL.of hk2, at_of (Int.zero_add _) (getElem?_mapInt hi), ?_⟩
            walk_at "rdd"
            refine ⟨_, _, rfl, SqL.of hk2, fun q0 nq => ?_⟩
            rw [show (0 : Int) + (i : Int) = (i : Int) from Int.zero_add _, cutV_take ks (by omega)]
            have nDq : D ≠ q0 := ne_of_none hd nq
            refine ⟨_, _, rfl, .inl (SqL.of upd_same), rfl, flat_ints _, ?_⟩
            have dq := (Same.new (o := .lst ((ks.take i).map V.int)) nq) _ _ hd
            have kq := k2.trans (Same.new (o := .lst ((ks.take i).map V.int)) nq)
            rw [inV_ints]
            refine ⟨_, rfl, ite2 (fun y => ?_) (fun y => ?_)⟩
            · have y : ¬ ks[i] ∈ ks.take i := by simpa using y
              walk_at "rdd"
              have nl1 := news_le ks i
              refine ⟨_, dq, small1000 (by rw [List.length_map]; omega), ?_, fun b o e => ?_⟩
              · rw [news_succ ks hi, if_neg y, upd_same, List.map_append]
                rfl
              · rw [upd_ne (ne_of_none e nD)]
                exact kq b o e
            · have y : ks[i] ∈ ks.take i := by simpa using y
              refine ⟨?_, kq⟩
              rw [news_succ ks hi, if_pos y]
              exact dq
          · rintro H2 ⟨hd, k2⟩
            have hk2 := k2 _ _ hk1
            have j := j.same k2
            obtain ⟨ts, hn1, hn2, _⟩ := nodesAt_same un k2
            have nlen : (ts.map fun q => V.ref q.1).length = nodesC ks := by
              rw [← ni.len, hn2, List.length_map, List.length_map]
            have dlen : ((news ks (ks.map V.int).length).map fun x => V.int (x : Nat)).length = (uniq ks).length := by
              rw [List.length_map, el, news_len ks ks.length (Nat.le_refl _), List.take_length]
            walk_at "rdd"
            refine ⟨_, _, rfl, .inl (SqL.of hk2), fun g1 ng1 => ?_⟩
            walk_at "rdd"
            refine ⟨g1, ks, rfl, SqL.of upd_same, by omega, fun H3 k3 => ?_⟩
            have k3 := (Same.new ng1).trans k3
            walk_at "rdd"
            refine ⟨_, _, rfl, .inl (SqL.of (k3 _ _ hn1)), ?_⟩
            walk_at "rdd"
            rw [nlen]
            refine ite2 (fun y => ?_) (fun _ => ?_)
            · simp at y
            walk_at "rdd"
            refine ⟨_, _, rfl, .inl (SqL.of (k3 _ _ hk2)), fun g2 ng2 => ?_⟩
            walk_at "rdd"
            refine ⟨g2, ks, rfl, SqL.of upd_same, by omega, fun H4 k4 => ?_⟩
            have k4 := k3.trans ((Same.new ng2).trans k4)
            walk_at "rdd"
            refine ⟨_, _, rfl, .inl (SqL.of (k4 _ _ hd)), ?_⟩
            walk_at "rdd"
            refine ⟨_, _, rfl, .inl (SqL.of (k4 _ _ hn1)), ?_⟩
            walk_at "rdd"
            rw [nlen, dlen]
            refine ite2 (fun y => ?_) (fun _ => ?_)
            · simp at y
            exact ⟨jb.trans (j.same k4), _, _, _, _, _, _, _, _, _, _, _, rfl⟩
      · rintro σ H' ⟨j, v3, v4, v5, v6, v7, v8, v9, v10, v11, v12, v13, rfl⟩
        walk_at "rdd"
        refine ⟨by show 0 ≤ sizeLine; decide, fun g1 ng1 => ?_⟩
        walk_at "rdd"
        refine ⟨g1, [], rfl, SqL.of upd_same, by decide, fun H3 k3 => ?_⟩
        walk_at "rdd"
        refine ⟨by show 0 ≤ sizeLine; decide, fun g2 ng2 => ?_⟩
        walk_at "rdd"
        refine ⟨g2, [], rfl, SqL.of upd_same, by decide, fun H4 k4 => ?_⟩
        walk_at "rdd"
        exact q H4
theorem law_end (T : Tx K mg) {f : Addr} (hfa : mg ("law" : Str) = some (.ref f)) :
    ∃ fd : FuncData, (∀ (s : Shared) (v : Value), BindsTo s fd ⟨[v], []⟩ [("script", v)]) ∧ ∀ base : Heap, K.In base → base.Ns mainGlobals mg → FnOk P w K mg base CX0 6 f fd ["script"] (sp_law K) := by
  obtain ⟨fd, F⟩ := T.d.def_ 11 (d := dd "law" s_law) rfl
  have e := hfa.symm.trans (T.glo 11 (x := "law"))
  cases e
  have b := FunD.bindsA (ps := ["script"]) F fun _ _ _ _ _ _ us hl => match us, hl with | [_], _ => rfl
  refine ⟨fd, fun s v => b s [v] rfl, fun base _ _ => FunD.ok F sc_law (fun vs H Q E h => by obtain ⟨a, ns, rfl, _⟩ := h; rfl) (fun cdv A outer s H vs Q E hr h => ?_)⟩
  obtain ⟨t, h1, h2⟩ := body_law T cdv A outer s H vs Q E hr h
  exact ⟨t, h1.nox, h2⟩



end
end Tl
open PySem PySem.W PySem.Calls PyProof.Rows in
set_option maxRecDepth 100000 in
set_option maxHeartbeats 0 in
theorem PySem.Challenge.cw_tideland_k36_limits_of_all_chips_holds : PySem.Challenge.rw_tideland_k36_limits_of_all_chips.Holds := by
  w_on; o_law
  refine HandSHeadRun.head_any (r := OpenLaw.row PySem.Challenge.rw_tideland_k36_limits_of_all_chips) (q := view (OpenLaw.row PySem.Challenge.rw_tideland_k36_limits_of_all_chips).prog [15]) (H := Tl.hk) (ob := Tl.ob) (M := 600) (loose := Tl.loose) (d := HandSHeadRun.topDef (OpenLaw.row PySem.Challenge.rw_tideland_k36_limits_of_all_chips).prog 15) (kwd := []) Tl.ob_eq
    (by kernel_rfl) (fun s => by kernel_rfl) Tl.run (by kernel_rfl) (by kernel_rfl) (by kernel_rfl) (by rfl) (by first | assumption | decide +kernel) (by decide +kernel) ⟨rfl, rfl, rfl, rfl, rfl, by decide +kernel⟩ ?hw ?hc
  case hw => w_witness2
  case hc =>
    refine L2.walk_ofE (l := PySem.Challenge.rw_tideland_k36_limits_of_all_chips) (n := 63) (k := 6) (x := "script") (CX := L2.CX0) rfl (by decide) (by kernel_rfl) ⟨rfl, by decide, by decide⟩ ?F (fun _ _ _ _ z => z)
    intro w mg fa h Y G hmg0
    obtain ⟨K, KX, c⟩ := Y
    have hmg : mg ("law" : PySem.Str) = some (.ref fa) := by
      have e : (HandSHeadRun.topDef (OpenLaw.row PySem.Challenge.rw_tideland_k36_limits_of_all_chips).prog 15).name = ("law" : PySem.Str) := by kernel_rfl
      rw [← e]
      exact hmg0
    obtain ⟨fd, hb, hF⟩ := Tl.law_end (P := (PySem.Challenge.rw_tideland_k36_limits_of_all_chips).prog) (w := w) (Tl.Tx.mk ⟨h, KX, G⟩ c.t.d c.more) hmg
    exact ⟨K, fd, Tl.sp_law K, KX, hb, fun H a ns hl _ hS => ⟨a, ns, rfl, hS, hl, fun _ => rfl⟩, hF⟩

